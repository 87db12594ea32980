/- A part of the proof: what the functions of the program compute, shown over the model. -/
import Derived.Test.YtgeehfnbhbibeaaGreatDoorProg
import Derived.KernelRfl
import Derived.Shelf.Small.Wraps
import Derived.Shelf.Strings.BuilderK
import Derived.Shelf.LaysM
import Derived.Shelf.Strconv.Itoa3
import Derived.Shelf.Bits.Mul64
import Derived.Test.YtgeehfnbhbibeaaGreatDoorPart1
import Derived.Test.YtgeehfnbhbibeaaGreatDoorPart3
set_option linter.unusedSectionVars false
set_option linter.unusedVariables false
set_option linter.unusedSimpArgs false
namespace Go.Proofs.YtgeehfnbhbibeaaGreatDoor.Rx
open Go Pad Rex Go.Proofs Go.Proofs.Tryz Sum
section
abbrev al_:Ty:=(.pair .int (.one .int))
abbrev ac_:Type:=(Int×Int)
abbrev ap_:Ty:=(.pair .int al_)
abbrev af_:Type:=(Int×ac_)
abbrev cb_:Ty:=(.pair .int (.pair .int (.one .bool)))
abbrev bg_:Type:=(Int×(Int×Bool))
abbrev qt_:Ty:=(.pair .str ap_)
abbrev gz_:Type:=((List UInt8)×af_)
abbrev ch_:Ty:=(.pair ap_ (.one .int))
abbrev ab_:Type:=(af_×Int)
abbrev ar_:Ty:=(.pair (.list .int) (.pair (.list .int) (.one (.list .int))))
abbrev ai_:Type:=((List Int)×((List Int)×(List Int)))
abbrev pj_:Ty:=(.pair .str (.pair .int (.one (.list cb_))))
abbrev kh_:Type:=((List UInt8)×(Int×(List bg_)))
abbrev al4:Ty:=(.pair .int (.pair .int (.one (.list cb_))))
abbrev pb_:Type:=(Int×(Int×(List bg_)))
abbrev zm_:Ty:=(.pair (.list cb_) (.one al_))
abbrev qj_:Type:=((List bg_)×ac_)
abbrev aj_:Ty:=(.pair ar_ (.one (.list .bool)))
abbrev aa_:Type:=(ai_×(List Bool))
abbrev aq_:Ty:=(.pair .int (.pair .int (.pair .int (.pair .int (.pair .int (.pair (.list .int) (.one .bool)))))))
abbrev ak_:Type:=(Int×(Int×(Int×(Int×(Int×((List Int)×Bool))))))
abbrev fb_:Ty:=(.pair (.list aj_) (.one (.list (.list ch_))))
abbrev cd_:Type:=((List aa_)×(List (List ab_)))
abbrev mh_:Ty:=(.pair .str (.pair .int (.pair .int (.pair (.list .int) (.pair (.list cb_) (.pair (.list al_) (.pair (.list .int) (.one (.list .int)))))))))
abbrev cv_:Type:=((List UInt8)×(Int×(Int×((List Int)×((List bg_)×((List ac_)×((List Int)×(List Int))))))))
abbrev pk_:Ty:=(.pair .str (.pair .int (.pair .int (.pair (.list cb_) (.one aq_)))))
abbrev cq_:Type:=((List UInt8)×(Int×(Int×((List bg_)×ak_))))
abbrev ao_:Ty:=(.pair (.list .str) (.pair (.list qt_) (.pair (.list pj_) (.pair (.list al4) (.pair (.list mh_) (.pair (.list zm_) (.pair .int (.one (.list cb_)))))))))
abbrev ae_:Type:=((List (List UInt8))×((List gz_)×((List kh_)×((List pb_)×((List cv_)×((List qj_)×(Int×(List bg_))))))))
abbrev fa_:Ty:=(.pair ao_ (.one ar_))
abbrev hk_:Type:=(ae_×ai_)
abbrev an_:Ty:=(.pair ao_ (.pair (.list al_) (.pair (.list (.list .int)) (.pair (.list pk_) (.one .int)))))
abbrev ad_:Type:=(ae_×((List ac_)×((List (List Int))×((List cq_)×Int))))
def pow10V:List Value:=(List.range 20).map λi=>.int .u64 ((10 ^ i:Nat):Int)
def reserved:List (List UInt8):=[[97,116],[115,116,97,116,101,115],[115,116,97,114,116],[103,111,110,101],[105,102],[108,111,99,107],[119,105,116,104],[115,101,116,115],[115,112,101,110,100,115],[98,114,105,110,103,115]]
instance :Gb:=⟨λg=>cond (Nat.beq g 0) (some ⟨.list .str,reserved⟩) none,λc p=>cond (Nat.beq c 406849536) true (cond (Nat.blt c 406849536) (cond (Nat.beq c 255858689) (cond (eqS p "room.go:255") true (cond (eqS p "room.go:223") true false)) (cond (Nat.blt c 255858689) (cond (Nat.beq c 150996992) true (cond (Nat.blt c 150996992) (cond (Nat.beq c 37756929) true (cond (Nat.blt c 37756929) (cond (Nat.beq c 12589057) true (cond (Nat.blt c 12589057) (cond (Nat.beq c 12587008) true (cond (Nat.blt c 12587008) (false) (false))) (cond (Nat.beq c 12591103) true (cond (Nat.blt c 12591103) (false) (false))))) (cond (Nat.beq c 130027520) true (cond (Nat.blt c 130027520) (cond (Nat.beq c 130025472) true (cond (Nat.blt c 130025472) (false) (false))) (cond (Nat.beq c 130029568) true (cond (Nat.blt c 130029568) (false) (false))))))) (cond (Nat.beq c 226498560) true (cond (Nat.blt c 226498560) (cond (Nat.beq c 151001088) (cond (eqS p "ref.go:66") true (cond (eqS p "ref.go:196") true (cond (eqS p "ref.go:152") true (cond (eqS p "ref.go:147") true (cond (eqS p "ref.go:141") true (cond (eqS p "ref.go:121") true (cond (eqS p "prove.go:113") true (cond (eqS p "play.go:35") true (cond (eqS p "play.go:248") true false))))))))) (cond (Nat.blt c 151001088) (cond (Nat.beq c 150999040) true (cond (Nat.blt c 150999040) (false) (false))) (cond (Nat.beq c 226496512) true (cond (Nat.blt c 226496512) (false) (false))))) (cond (Nat.beq c 226500609) (cond (eqS p "ref.go:66") true false) (cond (Nat.blt c 226500609) (cond (Nat.beq c 226500608) true (cond (Nat.blt c 226500608) (false) (false))) (cond (Nat.beq c 230692865) true (cond (Nat.blt c 230692865) (false) (false))))))))) (cond (Nat.beq c 335552513) true (cond (Nat.blt c 335552513) (cond (Nat.beq c 289411072) true (cond (Nat.blt c 289411072) (cond (Nat.beq c 264243200) true (cond (Nat.blt c 264243200) (cond (Nat.beq c 255862786) true (cond (Nat.blt c 255862786) (false) (false))) (cond (Nat.beq c 264245248) true (cond (Nat.blt c 264245248) (false) (false))))) (cond (Nat.beq c 335548416) true (cond (Nat.blt c 335548416) (cond (Nat.beq c 335546368) (cond (eqS p "ref.go:14") true (cond (eqS p "play.go:30") true false)) (cond (Nat.blt c 335546368) (false) (false))) (cond (Nat.beq c 335550465) true (cond (Nat.blt c 335550465) (false) (false))))))) (cond (Nat.beq c 398462976) true (cond (Nat.blt c 398462976) (cond (Nat.beq c 343943170) true (cond (Nat.blt c 343943170) (cond (Nat.beq c 343937024) true (cond (Nat.blt c 343937024) (false) (false))) (cond (Nat.beq c 398460928) true (cond (Nat.blt c 398460928) (false) (false))))) (cond (Nat.beq c 398467073) true (cond (Nat.blt c 398467073) (cond (Nat.beq c 398465025) (cond (eqS p "room.go:337") true (cond (eqS p "room.go:291") true (cond (eqS p "room.go:151") true (cond (eqS p "ref.go:336") true (cond (eqS p "ref.go:254") true (cond (eqS p "ref.go:235") true (cond (eqS p "ref.go:182") true false))))))) (cond (Nat.blt c 398465025) (false) (false))) (false))))))))) (cond (Nat.beq c 650119168) true (cond (Nat.blt c 650119168) (cond (Nat.beq c 511707136) true (cond (Nat.blt c 511707136) (cond (Nat.beq c 457191426) true (cond (Nat.blt c 457191426) (cond (Nat.beq c 406855681) true (cond (Nat.blt c 406855681) (cond (Nat.beq c 406853633) (cond (eqS p "ref.go:94") true (cond (eqS p "ref.go:60") true (cond (eqS p "ref.go:170") true (cond (eqS p "play.go:95") true (cond (eqS p "play.go:230") true (cond (eqS p "play.go:132") true false)))))) (cond (Nat.blt c 406853633) (false) (false))) (cond (Nat.beq c 457187329) true (cond (Nat.blt c 457187329) (false) (false))))) (cond (Nat.beq c 486543360) true (cond (Nat.blt c 486543360) (cond (Nat.beq c 486541312) true (cond (Nat.blt c 486541312) (false) (false))) (cond (Nat.beq c 486545408) true (cond (Nat.blt c 486545408) (false) (false))))))) (cond (Nat.beq c 570431488) true (cond (Nat.blt c 570431488) (cond (Nat.beq c 511715330) true (cond (Nat.blt c 511715330) (cond (Nat.beq c 511711232) true (cond (Nat.blt c 511711232) (false) (false))) (cond (Nat.beq c 570427392) true (cond (Nat.blt c 570427392) (false) (false))))) (cond (Nat.beq c 599789568) true (cond (Nat.blt c 599789568) (cond (Nat.beq c 591400960) true (cond (Nat.blt c 591400960) (false) (false))) (cond (Nat.beq c 637540353) true (cond (Nat.blt c 637540353) (false) (false))))))))) (cond (Nat.beq c 1036003330) true (cond (Nat.blt c 1036003330) (cond (Nat.beq c 683677696) true (cond (Nat.blt c 683677696) (cond (Nat.beq c 650123264) true (cond (Nat.blt c 650123264) (cond (Nat.beq c 650121216) true (cond (Nat.blt c 650121216) (false) (false))) (cond (Nat.beq c 683673600) true (cond (Nat.blt c 683673600) (false) (false))))) (cond (Nat.beq c 956305408) (cond (eqS p "mind.go:71") true false) (cond (Nat.blt c 956305408) (cond (Nat.beq c 901779456) true (cond (Nat.blt c 901779456) (false) (false))) (cond (Nat.beq c 956307457) true (cond (Nat.blt c 956307457) (false) (false))))))) (cond (Nat.beq c 1191192578) true (cond (Nat.blt c 1191192578) (cond (Nat.beq c 1052780546) true (cond (Nat.blt c 1052780546) (cond (Nat.beq c 1044391938) true (cond (Nat.blt c 1044391938) (false) (false))) (cond (Nat.beq c 1161828353) true (cond (Nat.blt c 1161828353) (false) (false))))) (cond (Nat.beq c 1207963648) true (cond (Nat.blt c 1207963648) (cond (Nat.beq c 1207961600) true (cond (Nat.blt c 1207961600) (false) (false))) (false)))))))))),λc=>cond (Nat.beq c 138545152) (some []) (cond (Nat.blt c 138545152) (none) (none)),λc=>cond (Nat.beq c 230879325) true (cond (Nat.blt c 230879325) (cond (Nat.beq c 230871129) true (cond (Nat.blt c 230871129) (false) (false))) (false)),λc=>none,λg=>cond (Nat.beq g 1) (some pow10V) none⟩
end
end Go.Proofs.YtgeehfnbhbibeaaGreatDoor.Rx
namespace Go.Proofs
section
set_option maxRecDepth 100000
def Tryz.lays121_ren:Go.Shelf.Ren:=⟨λ| 121=>190 | 214=>228 | n=>n,λ| 4=>4 | 9=>9 | n=>n,λ| n=>n⟩
theorem Tryz.lays121:Go.Proofs.Lays.n121 Tryz.prog Tryz.lays121_ren:={
 mixed:=by kernel_rfl
 f121:=Tryz.func190.trans (congrArg some (by kernel_rfl))
 f214:=Tryz.func228.trans (congrArg some (by kernel_rfl))
 t4:=Tryz.underlying4
 a4:=Tryz.isAgg4
 z4:=Tryz.sizeOf4
 v4:=Tryz.zeroValue4
 t9:=Tryz.underlying9
 a9:=Tryz.isAgg9
 z9:=Tryz.sizeOf9
 v9:=Tryz.zeroValue9 }
def Tryz.lays169_ren:Go.Shelf.Ren:=⟨λ| 169=>189 | n=>n,λ| 70=>257 | 9=>9 | 0=>0 | 72=>260 | 37=>258 | 127=>293 | 3=>3 | 5=>5 | n=>n,λ| n=>n⟩
theorem Tryz.lays169:Go.Proofs.Lays.n169 Tryz.prog Tryz.lays169_ren:={
 mixed:=by kernel_rfl
 f169:=Tryz.func189.trans (congrArg some (by kernel_rfl))
 t0:=Tryz.underlying0
 a0:=Tryz.isAgg0
 z0:=Tryz.sizeOf0
 v0:=Tryz.zeroValue0
 t3:=Tryz.underlying3
 a3:=Tryz.isAgg3
 z3:=Tryz.sizeOf3
 v3:=Tryz.zeroValue3
 t9:=Tryz.underlying9
 a9:=Tryz.isAgg9
 z9:=Tryz.sizeOf9
 v9:=Tryz.zeroValue9
 t37:=Tryz.underlying258
 a37:=Tryz.isAgg258
 z37:=Tryz.sizeOf258
 v37:=Tryz.zeroValue258
 t70:=Tryz.underlying257
 a70:=Tryz.isAgg257
 z70:=Tryz.sizeOf257
 v70:=Tryz.zeroValue257
 t72:=Tryz.underlying260
 a72:=Tryz.isAgg260
 z72:=Tryz.sizeOf260
 v72:=Tryz.zeroValue260
 t127:=Tryz.underlying293
 a127:=Tryz.isAgg293
 z127:=Tryz.sizeOf293
 v127:=Tryz.zeroValue293 }
theorem Tryz.Builder_Extra_169:Builder.Extra Tryz.prog Tryz.lays169_ren:={
 sizeBuilder:=by kernel_rfl
 liesBuilder:=by kernel_rfl
 t5:=Tryz.underlying5
 a5:=Tryz.isAgg5
 z5:=Tryz.sizeOf5
 v5:=Tryz.zeroValue5
 infoByte:=by kernel_rfl
 cellsByte:=by kernel_rfl
 sizeByte:=by kernel_rfl
 neB5:=by decide }
def Tryz.laysM171_ren:Go.Shelf.Ren:=⟨λ| 171=>188 | 243=>227 | 246=>250 | 283=>260 | 284=>261 | 285=>262 | 286=>263 | 129=>268 | 317=>267 | 318=>269 | 319=>270 | 320=>271 | 337=>276 | 338=>277 | n=>n,λ| 3=>3 | 9=>9 | 2=>2 | 4=>4 | 171=>317 | 0=>0 | 53=>239 | 37=>258 | 5=>5 | 173=>320 | 212=>328 | 51=>236 | 20=>20 | 213=>329 | 46=>211 | 232=>334 | 233=>335 | n=>n,λ| 17=>1 | 18=>2 | 19=>3 | n=>n⟩
theorem Tryz.laysM171:Go.Proofs.LaysM.n171 Tryz.prog Tryz.laysM171_ren:={
 mixed:=by kernel_rfl
 f129:=Tryz.func268.trans (congrArg some (by kernel_rfl))
 f171:=Tryz.func188.trans (congrArg some (by kernel_rfl))
 f243:=Tryz.func227.trans (congrArg some (by kernel_rfl))
 f246:=Tryz.func250.trans (congrArg some (by kernel_rfl))
 f283:=Tryz.func260.trans (congrArg some (by kernel_rfl))
 f284:=Tryz.func261.trans (congrArg some (by kernel_rfl))
 f285:=Tryz.func262.trans (congrArg some (by kernel_rfl))
 f286:=Tryz.func263.trans (congrArg some (by kernel_rfl))
 f317:=Tryz.func267.trans (congrArg some (by kernel_rfl))
 f318:=Tryz.func269.trans (congrArg some (by kernel_rfl))
 f319:=Tryz.func270.trans (congrArg some (by kernel_rfl))
 f320:=Tryz.func271.trans (congrArg some (by kernel_rfl))
 f337:=Tryz.func276.trans (congrArg some (by kernel_rfl))
 f338:=Tryz.func277.trans (congrArg some (by kernel_rfl))
 t0:=Tryz.underlying0
 a0:=Tryz.isAgg0
 z0:=Tryz.sizeOf0
 v0:=Tryz.zeroValue0
 t2:=Tryz.underlying2
 a2:=Tryz.isAgg2
 z2:=Tryz.sizeOf2
 v2:=Tryz.zeroValue2
 t3:=Tryz.underlying3
 a3:=Tryz.isAgg3
 z3:=Tryz.sizeOf3
 v3:=Tryz.zeroValue3
 t4:=Tryz.underlying4
 a4:=Tryz.isAgg4
 z4:=Tryz.sizeOf4
 v4:=Tryz.zeroValue4
 t5:=Tryz.underlying5
 a5:=Tryz.isAgg5
 z5:=Tryz.sizeOf5
 v5:=Tryz.zeroValue5
 t9:=Tryz.underlying9
 a9:=Tryz.isAgg9
 z9:=Tryz.sizeOf9
 v9:=Tryz.zeroValue9
 t20:=Tryz.underlying20
 a20:=Tryz.isAgg20
 z20:=Tryz.sizeOf20
 v20:=Tryz.zeroValue20
 t37:=Tryz.underlying258
 a37:=Tryz.isAgg258
 z37:=Tryz.sizeOf258
 v37:=Tryz.zeroValue258
 t46:=Tryz.underlying211
 a46:=Tryz.isAgg211
 z46:=Tryz.sizeOf211
 v46:=Tryz.zeroValue211
 t51:=Tryz.underlying236
 a51:=Tryz.isAgg236
 z51:=Tryz.sizeOf236
 v51:=Tryz.zeroValue236
 t53:=Tryz.underlying239
 a53:=Tryz.isAgg239
 z53:=Tryz.sizeOf239
 v53:=Tryz.zeroValue239
 t171:=Tryz.underlying317
 a171:=Tryz.isAgg317
 z171:=Tryz.sizeOf317
 v171:=Tryz.zeroValue317
 t173:=Tryz.underlying320
 a173:=Tryz.isAgg320
 z173:=Tryz.sizeOf320
 v173:=Tryz.zeroValue320
 t212:=Tryz.underlying328
 a212:=Tryz.isAgg328
 z212:=Tryz.sizeOf328
 v212:=Tryz.zeroValue328
 t213:=Tryz.underlying329
 a213:=Tryz.isAgg329
 z213:=Tryz.sizeOf329
 t232:=Tryz.underlying334
 a232:=Tryz.isAgg334
 z232:=Tryz.sizeOf334
 v232:=Tryz.zeroValue334
 t233:=Tryz.underlying335
 a233:=Tryz.isAgg335
 z233:=Tryz.sizeOf335
 v233:=Tryz.zeroValue335
 g17:=by kernel_rfl
 g18:=by kernel_rfl
 g19:=by kernel_rfl
 i0:=by kernel_rfl
 i2:=by kernel_rfl
 i3:=by kernel_rfl
 i4:=by kernel_rfl
 i5:=by kernel_rfl
 i9:=by kernel_rfl
 i20:=by kernel_rfl
 i37:=by kernel_rfl
 i46:=by kernel_rfl
 i51:=by kernel_rfl
 i53:=by kernel_rfl
 i171:=by kernel_rfl
 i173:=by kernel_rfl
 i212:=by kernel_rfl
 i232:=by kernel_rfl
 i233:=by kernel_rfl
 m17:=by kernel_rfl
 m18:=by kernel_rfl
 m19:=by kernel_rfl }
def Tryz.lays166_ren:Go.Shelf.Ren:=⟨λ| 166=>187 | 240=>226 | 276=>249 | n=>n,λ| 0=>0 | 3=>3 | 4=>4 | 9=>9 | 20=>20 | 37=>258 | 70=>257 | 72=>260 | 75=>262 | 164=>308 | 5=>5 | 80=>265 | n=>n,λ| n=>n⟩
theorem Tryz.lays166:Go.Proofs.Lays.n166 Tryz.prog Tryz.lays166_ren:={
 mixed:=by kernel_rfl
 f166:=Tryz.func187.trans (congrArg some (by kernel_rfl))
 f240:=Tryz.func226.trans (congrArg some (by kernel_rfl))
 f276:=Tryz.func249.trans (congrArg some (by kernel_rfl))
 t0:=Tryz.underlying0
 a0:=Tryz.isAgg0
 z0:=Tryz.sizeOf0
 v0:=Tryz.zeroValue0
 t3:=Tryz.underlying3
 a3:=Tryz.isAgg3
 z3:=Tryz.sizeOf3
 v3:=Tryz.zeroValue3
 t4:=Tryz.underlying4
 a4:=Tryz.isAgg4
 z4:=Tryz.sizeOf4
 v4:=Tryz.zeroValue4
 t9:=Tryz.underlying9
 a9:=Tryz.isAgg9
 z9:=Tryz.sizeOf9
 v9:=Tryz.zeroValue9
 t20:=Tryz.underlying20
 a20:=Tryz.isAgg20
 z20:=Tryz.sizeOf20
 v20:=Tryz.zeroValue20
 t37:=Tryz.underlying258
 a37:=Tryz.isAgg258
 z37:=Tryz.sizeOf258
 v37:=Tryz.zeroValue258
 t70:=Tryz.underlying257
 a70:=Tryz.isAgg257
 z70:=Tryz.sizeOf257
 v70:=Tryz.zeroValue257
 t72:=Tryz.underlying260
 a72:=Tryz.isAgg260
 z72:=Tryz.sizeOf260
 v72:=Tryz.zeroValue260
 t75:=Tryz.underlying262
 a75:=Tryz.isAgg262
 z75:=Tryz.sizeOf262
 v75:=Tryz.zeroValue262
 t164:=Tryz.underlying308
 a164:=Tryz.isAgg308
 z164:=Tryz.sizeOf308
 v164:=Tryz.zeroValue308 }
theorem Tryz.Builder_Extra_166:Builder.Extra Tryz.prog Tryz.lays166_ren:={
 sizeBuilder:=by kernel_rfl
 liesBuilder:=by kernel_rfl
 t5:=Tryz.underlying5
 a5:=Tryz.isAgg5
 z5:=Tryz.sizeOf5
 v5:=Tryz.zeroValue5
 infoByte:=by kernel_rfl
 cellsByte:=by kernel_rfl
 sizeByte:=by kernel_rfl
 neB5:=by decide }
open Go.RowKit in
theorem ac7 (b:Bool) (w:World):Calls Tryz.prog 190 #[.bool b] w λe w'=>e = .returned (.string ⟨(Lib.formatBool b).toArray⟩)∧w'=w:=Any.strconv_FormatBool Tryz.lays121 b w
open Go.RowKit Go.Sort Go.Lib in
theorem sh_Itoa (n:Int) (h0 : -9223372036854775808≤n) (h1:n≤9223372036854775807) (w:World) (htab:Lib.TabIs Tryz.prog w "internal/strconv.uint64pow10" .u64 Lib.pow10Tab) :
  Calls Tryz.prog 188 #[.int .i64 n] w λe w'=>e = .returned (.string ⟨(Lib.itoa n).toArray⟩)∧∃ k os,w'=grow (w.drewN k) os:=Any.strconv_Itoa Tryz.laysM171 n h0 h1 w htab
open Go.RowKit in
theorem bs0 (B b:Nat) (l:List UInt8) (w:World) (h:Lib.IsBuilderF 260 5 B b (Lib.byteCells l) w) (hBw:B≤w.heap.size) :
  Calls Tryz.prog 189 #[.pointer (some ⟨b,0,none⟩)] w λe w'=>e = .returned (.string ⟨l.toArray⟩)∧(Lib.IsBuilderF 260 5 B b (Lib.byteCells l) w'∧Below B w w'∧Lib.OthersKept 5 (some b) w w'):=Any.Builder_String_any_k Tryz.lays169 Tryz.Builder_Extra_169 B b l w h hBw
open Go.RowKit in
theorem yz_ (B b:Nat) (bs:List Value) (s:ByteArray) (w:World) (h:Lib.IsBuilderF 260 5 B b bs w) (hlen:bs.length+s.size≤140737488355328) (hBw:B≤w.heap.size) :
  Calls Tryz.prog 187 #[.pointer (some ⟨b,0,none⟩),.string s] w λe w'=>e = .returned (.tuple #[.int .i64 s.size,.nilIface])∧(Lib.BuilderAtF 260 5 B b (.pointer (some ⟨b,0,none⟩)) (bs++Lib.strCells s) w'∧Below B w w'∧Lib.OthersKept 5 (some b) w w'):=Any.Builder_WriteString_k Tryz.lays166 Tryz.Builder_Extra_166 B b bs s w h hlen hBw
def Tryz.lays212_ren:Go.Shelf.Ren:=⟨λ| 212=>127 | 263=>162 | 264=>163 | n=>n,λ| 46=>211 | 51=>236 | 146=>237 | 53=>239 | 148=>240 | n=>n,λ| n=>n⟩
theorem Tryz.lays212:Go.Proofs.Lays.n212 Tryz.prog Tryz.lays212_ren:={
 mixed:=by kernel_rfl
 f212:=Tryz.func127.trans (congrArg some (by kernel_rfl))
 f263:=Tryz.func162.trans (congrArg some (by kernel_rfl))
 f264:=Tryz.func163.trans (congrArg some (by kernel_rfl))
 t46:=Tryz.underlying211
 a46:=Tryz.isAgg211
 z46:=Tryz.sizeOf211
 v46:=Tryz.zeroValue211
 t51:=Tryz.underlying236
 a51:=Tryz.isAgg236
 z51:=Tryz.sizeOf236
 v51:=Tryz.zeroValue236
 t53:=Tryz.underlying239
 a53:=Tryz.isAgg239
 z53:=Tryz.sizeOf239
 v53:=Tryz.zeroValue239
 t146:=Tryz.underlying237
 a146:=Tryz.isAgg237
 z146:=Tryz.sizeOf237
 v146:=Tryz.zeroValue237
 t148:=Tryz.underlying240
 a148:=Tryz.isAgg240
 z148:=Tryz.sizeOf240
 v148:=Tryz.zeroValue240 }
theorem sh_Mul (x y:Nat) (hx:x<18446744073709551616) (hy:y<18446744073709551616) (w:World) :
  Calls Tryz.prog 127 #[.int .u64 x,.int .u64 y] w λe w'=>e = .returned (.tuple #[.int .u64 ((x * y / 18446744073709551616:Nat):Int),.int .u64 ((x * y % 18446744073709551616:Nat):Int)])∧w'=w:=Any.bits_Mul Tryz.lays212 x y hx hy w
end
end Go.Proofs
namespace Go.Proofs.YtgeehfnbhbibeaaGreatDoor.Rx
open Go Pad Rex Go.Proofs Go.RowKit Go.Proofs.Tryz Sum
section
set_option maxRecDepth 100000
set_option maxHeartbeats 400000
def dz_ (a0:Bool):Option ((List UInt8)×Unit):=cond a0 (some ([116,114,117,101],())) (some ([102,97,108,115,101],()))
theorem ok_190:ck9 prog 190 [.bool] [.str] (λx=>dz_ x.1):=by
 intro w S Fr hv vs x r hG hI ha hF
 match vs,ha with
 | [v],⟨hv1,_⟩ =>
  obtain rfl:v = .bool x.1:=eh_ (a:=ofD .bool x.1) (by rw[bx8];exact hv1) (by cases x.1<;>rfl)
  refine (ac7 x.1 w).mono λe w' he => ?_
  obtain⟨rfl,rfl⟩:=he
  refine⟨S,[],PH.Le.refl _,hI,rfl,?_⟩
  have e1:r.1=Lib.formatBool x.1:=by
   obtain⟨b,u⟩:=x
   cases b with
   | true=>obtain rfl:=a6_ hF;rfl
   | false=>obtain rfl:=a6_ hF;rfl
  have:=bk7 (hv:=λ_=>undef) (S:=S) r.1
  rw[← e1]
  exact this
noncomputable def c_190:Con prog:=cnv 190 [.bool] [.str] (λx=>dz_ x.1) ok_190
theorem sm_ {w w':World} {S:PH} {O:List HP} {B:Nat} (h:Inv w S O) (hB:B=w.heap.size) (hb:Below B w w'):Inv w' S O:=by
 subst hB
 exact h.world hb.os hb.output λb o e=>(hb.block b (i6_.1 e).1).trans e
theorem cw2 {T e:TypeId} {B b:Nat} {bs:List Value} {w w':World} (hk:∀ (k:Nat) (o:Obj),w.heap[k]?=some o→w'.heap[k]?=some o) (h:Lib.IsBuilderF T e B b bs w):Lib.IsBuilderF T e B b bs w':=by
 have key:∀ {p:Value},Lib.BuilderAtF T e B b p bs w→Lib.BuilderAtF T e B b p bs w':=by
  rintro p ⟨h1,v,h2,⟨h3,h4⟩,h5⟩
  refine⟨h1,v,hk _ _ h2,⟨h3,?_⟩,h5⟩
  rcases h4 with h4 | ⟨g,cap,cur,fz,g1,g2,g3,g4⟩
  ·exact .inl h4
  ·exact .inr ⟨g,cap,cur,fz,g1,g2,hk _ _ g3,g4⟩
 exact h.elim (λh=>.inl (key h)) λh=>.inr (key h)
theorem aq2 {w:World} {n:Nat} {os:Array Obj}:∀ (k:Nat) (o:Obj),w.heap[k]?=some o→(Go.Sort.grow (w.drewN n) os).heap[k]?=some o:=by
 intro k o h
 show (w.heap++os)[k]?=some o
 rw[Array.getElem?_append_left (i6_.1 h).1]
 exact h
theorem tab_is {w:World} {S:PH} {O:List HP} (hG:GlS S) (hI:Inv w S O):Lib.TabIs prog w "internal/strconv.uint64pow10" .u64 Lib.pow10Tab:=by
 obtain⟨T,fz,h⟩:=hG.2 1 pow10V rfl
 have h2:=Own.in_ hI.own _ _ h
 unfold Lib.TabIs World.var?
 rw[laysM171.m17]
 show (match w.heap[1]? with
  | some (.cells cs _ _)=>some cs
  | _=>none)=_
 rw[h2]
 simp[pow10V,Lib.pow10Tab]
def cl4 (n:Int):List UInt8:=Lib.itoa n++[32]
def ao9 (l:List Int):List UInt8:=l.flatMap cl4
def hl_ (ls:List (List Int)):List UInt8:=ls.flatMap ao9
def inI (n:Int):Bool:=decide (-9223372036854775808≤n)&&decide (n≤9223372036854775807)
def fm_ (a0:List (List Int)):Option ((List UInt8)×Unit):=cond (a0.all (λl=>l.all inI)&&Nat.ble (hl_ a0).length 2147483648) (some (hl_ a0,())) none
def NInv (v:Value) (n:Nat) (w0:World) (b:Nat) (acc:List UInt8) (f:Pad.Fr) (w:World):Prop :=
 Below w0.heap.size w0 w∧Lib.IsBuilderF 260 5 w0.heap.size b (Lib.byteCells acc) w∧f 3 = .pointer (some ⟨b,0,none⟩)∧f 8=v∧f 9 = .int .i64 n∧f.ds=[]
theorem ce0:∀ (k i:Nat),forS (λ(_:Nat) (_:Unit)=>some ()) k i ()=some ()
 | 0,_=>rfl
 | k+1,i=>ce0 k (i+1)
theorem sh45:Shape prog 55 false 1:=zo_ (by kernel_rfl)
theorem sh3':Shape prog 3 false 1:=zo_ (by kernel_rfl)
theorem cb_187:ea_ prog 187:=⟨_,func187,rfl,by kernel_rfl⟩
theorem cb_188:ea_ prog 188:=⟨_,func188,rfl,by kernel_rfl⟩
theorem cb_189:ea_ prog 189:=⟨_,func189,rfl,by kernel_rfl⟩
theorem bd3 {P:Program} {n k d:Nat} {ro:Option Nat} {f:Pad.Fr} {w:World} {K:Pad.Fr→World→Prop} {ty:TypeId} {pos:String} {af:Array Edge} {gd:Option (Nat×Bool)} {vs:List Value} {g:Operand} {args:Array Operand} {ct:Array TypeId} {R:Ending→World→Prop}
  (hd:Nat.blt d n=true) (hk:ea_ P k) (hg:ev f g = .func (.func k) #[] #[]) (hargs:(args.map (ev f)) ++ #[]=vs.toArray) (hc:Calls P k vs.toArray w R) (kont:∀ e w',R e w'→∃ v,e = .returned v∧K (upd f d v) w') :
  OP P n ro ⟨some d,.call ⟨.value g,args,ct⟩,ty,pos,af,gd⟩ f w K :=
 kd_ (ps_ hk hg hargs) hc λe w' he=>by
  obtain⟨v,h1,h2⟩:=kont e w' he
  exact⟨v,h1,hd,h2⟩
theorem str_op {P:Program} [Tb P] {f:Pad.Fr} {w:World} {d:Nat} {x y:Operand} {ty T2:TypeId} {pos:String} {af:Array Edge} {gd:Option (Nat×Bool)} {a b c:Str} (hx:Pad.ev f x = .string ⟨a.toArray⟩) (hy:Pad.ev f y = .string ⟨b.toArray⟩) (h:cat? a b=some c) :
  (execOp (Pad.ev f) ⟨some d,.binOp .add 9 x y T2,ty,pos,af,gd⟩).run P w = .ok (.value (.string ⟨c.toArray⟩)) w:=by
 have h1:=bs7 (P:=P) (T:=9) (w:=w) h
 have h2:=gh_ (P:=P) (T:=9) (op:=.add) (w:=w) (X:=x) (Y:=y) (v:=.string ⟨a.toArray⟩) (u:=.string ⟨b.toArray⟩) trivial
 simp[execOp,Sem.run_bind,hx,hy,h1,h2,Result.andThen]
theorem by3 {w:World} {S:PH} {Fr:List HP} {v:Value} {ls:List (List Int)} (hG:GlS S) (hI:Inv w S Fr) (hr:RVt (.list (.list .int)) S v ls) (hin:(ls.all λl=>l.all inI)=true) (hlen:(hl_ ls).length≤2147483648) :
  Calls prog 142 [v].toArray w λe w'=>e = .returned (.string ⟨(hl_ ls).toArray⟩)∧Inv w' S Fr:=by
 letI:Enc (List Int):=(Ty.list .int).enc
 letI:Enc Int:=Ty.int.enc
 obtain⟨a0,cap0,hv2,_,hmax,_⟩:=@ib_ (List Int) (Ty.list .int).enc S v ls hr
 have hk0:ls.length≤9223372036854775807:=by
  unfold maxLen at hmax
  omega
 refine rk_ (n:=27) func142 rfl rfl rfl ?_
 refine bi_ (bc_ (wa_ (v:=.string ⟨#[]⟩) rfl rfl (dj_ ?_)))
 have hz:=zeroValue260
 refine bi_ (bc_ (wo_ (cw_ (v:=.pointer (some ⟨w.heap.size,0,none⟩)) (w':=w.alloc (.cells #[.pointer none,.slice none 0 0] 260)) rfl (by simp only[execOp,Instr.alloc,Sem.run_bind,hz w,Result.andThen_ok];rfl) (dj_ ?_))))
 have hI1:Inv (w.alloc (.cells #[.pointer none,.slice none 0 0] 260)) S Fr:=hI.world rfl rfl λb o e=>(Below.heap_alloc w _ b (i6_.1 e).1).trans e
 have hB1:Below w.heap.size w (w.alloc (.cells #[.pointer none,.slice none 0 0] 260)):=⟨rfl,rfl,rfl,by simp,λk hk=>Below.heap_alloc w _ k hk⟩
 have hD1:Lib.IsBuilderF 260 5 w.heap.size w.heap.size (Lib.byteCells []) (w.alloc (.cells #[.pointer none,.slice none 0 0] 260)):=.inl ⟨c3_ _,.slice none 0 0,Array.getElem?_push_size,⟨rfl,.inl ⟨rfl,rfl⟩⟩,by simp[Value.ownBlock]⟩
 refine bi_ (bi_ (bc_ (wm_ (v:=v) rfl rfl (wo_ (bd4 rfl underlying33 hv2 (wm_ (v:=.int .i64 0) rfl rfl (dj_ ?_)))))))
 refine at8 (λf w'=>NInv v ls.length w w.heap.size (hl_ ls) f w') ?_ ?_
 ·refine en_ (bp1 (σ:=Unit) (k:=ls.length) (I:=λi _ f w'=>NInv v ls.length w w.heap.size (hl_ (ls.take i)) f w'∧f 10 = .int .i64 (i:Int)) (ce0 _ _) ⟨⟨hB1,hD1,rfl,rfl,rfl,rfl⟩,rfl⟩ ?_ ?_)
  ·rintro i _ f w1 o hi ⟨⟨b1,b2,b3,b4,b5,b6⟩,b7⟩ _
   have I1:=sm_ hI rfl b1
   refine bi_ (bc_ (wo_ (zx_ rfl b7 b5 (dj_ (bi_ (me_ rfl (len_t hi) (lg_ (bi_ (en_ ?_)))))))))
   obtain⟨l,hl⟩:∃ l,ls[i]?=some l:=⟨_,a7_ hi⟩
   have hat:at? ls (i:Int)=some l:=by rw[az8];exact hl
   refine bi_ (bc_ (wo_ (@oc_ _ _ _ _ _ _ _ _ _ _ _ _ _ _ _ (List Int) (Ty.list .int).enc S ls 55 (i:Int) _ rfl underlying33 sh45 b4 hr b7 hat ?_)))
   have hp:cw9 (.list .int) S (cp_ v i 1) l:=qu_ (t:=.list .int) (x:=l) hr hat
   refine wo_ (bx3 (α:=List Int) (S:=S) (e:=l) rfl sh45 rfl (hp.at_ I1) λu hu => ?_)
   refine wa_ (v:=u) rfl rfl (dj_ ?_)
   obtain⟨a1,cap1,hu2,_,hmax1,_⟩:=@ib_ Int Ty.int.enc S u l hu
   have hk1:l.length≤9223372036854775807:=by
    unfold maxLen at hmax1
    omega
   refine bi_ (bc_ (wm_ (v:=u) rfl rfl (wo_ (bd4 rfl underlying55 hu2 (wm_ (v:=.int .i64 0) rfl rfl (dj_ ?_))))))
   have htk:hl_ (ls.take (i+1))=hl_ (ls.take i)++ao9 l:=by
    rw[d9_,hl]
    simp[hl_]
   have hle:(hl_ (ls.take (i+1))).length≤2147483648:=by
    have:hl_ ls=hl_ (ls.take (i+1))++hl_ (ls.drop (i+1)):=by
     unfold hl_
     rw[← r0_,f8_]
    rw[this,a8_] at hlen
    omega
   have hinl:∀ n ∈ l,inI n=true:=λn hn=>f2_.1 (f2_.1 hin l (b5_ hl)) n hn
   refine at8 (λf w'=>NInv v ls.length w w.heap.size (hl_ (ls.take (i+1))) f w'∧f 10 = .int .i64 (i:Int)) ?_ ?_
   ·refine en_ (bp1 (σ:=Unit) (k:=l.length) (I:=λj _ f w'=>NInv v ls.length w w.heap.size (hl_ (ls.take i)++ao9 (l.take j)) f w'∧f 10 = .int .i64 (i:Int)∧f 14=u∧f 15 = .int .i64 l.length∧f 16 = .int .i64 (j:Int)) (ce0 _ _)
     ⟨⟨b1,by rw[show ao9 (l.take 0)=[] from rfl,e9_];exact b2,b3,b4,b5,b6⟩,b7,rfl,rfl,rfl⟩ ?_ ?_)
    ·rintro j _ f w1 o hj ⟨⟨b1,b2,b3,b4,b5,b6⟩,b7,b8,b9,b10⟩ _
     have I1:=sm_ hI rfl b1
     refine bi_ (bc_ (wo_ (zx_ rfl b10 b9 (dj_ (bi_ (me_ rfl (len_t hj) (lg_ (bi_ (en_ ?_)))))))))
     obtain⟨n,hn⟩:∃ n,l[j]?=some n:=⟨_,a7_ hj⟩
     have hatn:at? l (j:Int)=some n:=by rw[az8];exact hn
     refine bi_ (bc_ (wo_ (@oc_ _ _ _ _ _ _ _ _ _ _ _ _ _ _ _ Int Ty.int.enc S l 3 (j:Int) _ rfl underlying55 sh3' b8 hu b10 hatn ?_)))
     have hpn:cw9 .int S (cp_ u j 1) n:=qu_ (t:=.int) (x:=n) hu hatn
     refine wo_ (ax4 rfl sh3' rfl (hpn.at_ I1) ?_)
     refine wa_ (v:=.int .i64 n) rfl rfl (dj_ ?_)
     refine bc_ (wm_ (v:=.int .i64 n) rfl rfl ?_)
     have hni:=hinl n (b5_ hn)
     unfold inI at hni
     rw[a1_] at hni
     have htj:ao9 (l.take (j+1))=ao9 (l.take j)++cl4 n:=by
      rw[d9_,hn]
      simp[ao9]
     have hlej:(hl_ (ls.take i)++(ao9 (l.take j)++cl4 n)).length≤2147483648:=by
      have:ao9 l=ao9 (l.take (j+1))++ao9 (l.drop (j+1)):=by
       unfold ao9
       rw[← r0_,f8_]
      rw[htk,this,htj,a8_,a8_] at hle
      rw[a8_]
      omega
     refine wo_ (bd3 (vs:=[.int .i64 n]) rfl cb_188 rfl (args1 rfl) (sh_Itoa n (g3_ hni.1) (g3_ hni.2) w1 (tab_is hG I1)) λe w2 he => ?_)
     obtain⟨rfl,k,os,rfl⟩:=he
     refine⟨_,rfl,?_⟩
     have b1':Below w.heap.size w (Go.Sort.grow (w1.drewN k) os):=b1.trans ⟨rfl,rfl,rfl,by simp[Go.Sort.grow,World.drewN],λk hk=>by
      have h1:k<w1.heap.size:=f9_ hk b1.size
      exact (aq2 k _ (d3_ h1)).trans (d3_ h1).symm⟩
     have b2':=cw2 (aq2 (n:=k) (os:=os)) b2
     have hcat:cat? (Lib.itoa n) [32]=some (cl4 n):=by
      unfold cat?
      have:Nat.ble ((Lib.itoa n).length+([32]:Str).length) 2147483648=true:=by
       refine i0_ ?_
       have h1:(cl4 n).length=(Lib.itoa n).length+1:=by simp[cl4]
       rw[a8_,a8_,h1] at hlej
       show (Lib.itoa n).length+1≤_
       omega
      rw[this]
      rfl
     refine wo_ (cw_ (v:=.string ⟨(cl4 n).toArray⟩) (w':=Go.Sort.grow (w1.drewN k) os) rfl (str_op rfl rfl hcat) ?_)
     refine wo_ (bd3 (vs:=[.pointer (some ⟨w.heap.size,0,none⟩),.string ⟨(cl4 n).toArray⟩]) rfl cb_187 rfl (args2 b3 rfl) (yz_ w.heap.size w.heap.size (Lib.byteCells (hl_ (ls.take i)++ao9 (l.take j))) ⟨(cl4 n).toArray⟩ _ b2' ?_ b1'.size) λe w2 he => ?_)
     ·rw[Lib.byteCells_length]
      show (hl_ (ls.take i)++ao9 (l.take j)).length+(cl4 n).toArray.size≤_
      rw[List.size_toArray,a8_]
      rw[a8_,a8_] at hlej
      omega
     obtain⟨rfl,c1,c2,c3⟩:=he
     refine⟨_,rfl,dj_ ?_⟩
     have c1':Lib.IsBuilderF 260 5 w.heap.size w.heap.size (Lib.byteCells (hl_ (ls.take i)++ao9 (l.take (j+1)))) w2:=by
      rw[htj,← b1_,Lib.byteCells_append]
      exact .inr c1
     exact bc_ (wo_ (bx4 rfl b10 rfl (wm_ rfl rfl (dj_ ⟨⟨b1'.trans c2,c1',b3,b4,b5,b6⟩,b7,b8,b9,bf8 hj hk1⟩))))
    ·rintro f w1 ⟨⟨b1,b2,b3,b4,b5,b6⟩,b7,b8,b9,b10⟩
     rw[e1_,← htk] at b2
     exact bi_ (bc_ (wo_ (zx_ rfl b10 b9 (dj_ (bi_ (ip_ rfl (len_f _) (rq_ ⟨⟨b1,b2,b3,b4,b5,b6⟩,b7⟩)))))))
   ·rintro f w1 ⟨⟨b1,b2,b3,b4,b5,b6⟩,b7⟩
    refine bc_ (wo_ (bx4 rfl b7 rfl (wm_ rfl rfl (dj_ ⟨⟨b1,b2,b3,b4,b5,b6⟩,bf8 hi hk0⟩))))
  ·rintro f w1 ⟨⟨b1,b2,b3,b4,b5,b6⟩,b7⟩
   rw[e1_] at b2
   exact bi_ (bc_ (wo_ (zx_ rfl b7 b5 (dj_ (bi_ (ip_ rfl (len_f _) (rq_ ⟨b1,b2,b3,b4,b5,b6⟩)))))))
 ·rintro f w1 ⟨b1,b2,b3,b4,b5,b6⟩
  have I1:=sm_ hI rfl b1
  refine bi_ (bc_ (wo_ (bd3 (vs:=[.pointer (some ⟨w.heap.size,0,none⟩)]) rfl cb_189 rfl (args1 b3) (bs0 w.heap.size w.heap.size (hl_ ls) w1 b2 b1.size) λe w2 he => ?_)))
  obtain⟨rfl,c1,c2,c3⟩:=he
  refine⟨_,rfl,wa_ (v:=.string ⟨(hl_ ls).toArray⟩) rfl rfl (dj_ (wb_ ⟨b6,_,res1 rfl rfl,rfl,sm_ hI rfl (b1.trans c2)⟩))⟩
theorem ok_142:ck9 prog 142 [.list (.list .int)] [.str] (λx=>fm_ x.1):=by
 intro w S Fr hv vs x r hG hI ha hF
 match vs,ha with
 | [v],⟨hv1,_⟩ =>
  obtain⟨ls,u⟩:=x
  have hF:cond (ls.all (λl=>l.all inI)&&Nat.ble (hl_ ls).length 2147483648) (some (hl_ ls,())) none=some r:=hF
  obtain⟨hc,hF⟩:=bl_ hF
  simp only[a1_] at hc
  obtain⟨hin,hlen⟩:=hc
  obtain rfl:=a6_ hF
  have hr:RVt (.list (.list .int)) S v ls:=qy_ (hv:=hv) hv1
  refine (by3 hG hI hr hin (b7_ hlen)).mono λe w' he => ?_
  obtain⟨rfl,hI'⟩:=he
  exact⟨S,[],PH.Le.refl _,hI',rfl,bk7 (hv:=λ_=>undef) (S:=S) (hl_ ls)⟩
noncomputable def c_142:Con prog:=cnv 142 [.list (.list .int)] [.str] (λx=>fm_ x.1) ok_142
end
end Go.Proofs.YtgeehfnbhbibeaaGreatDoor.Rx
namespace Go.Proofs.YtgeehfnbhbibeaaGreatDoor.Pad
open Go
section
abbrev sn:Value:=.slice none 0 0
theorem AllP.v {l:List Nat} {sps:List Sp} {f:Fr} {vals:Nat→Value} {S':PH} (h:AllP l (λj=>∀ t,sps[j]?=some t→(∀ d,t.dst=some d→f d=vals j)∧t.fact (t.deps.map vals) S')) (i:Nat) {a d:Nat} {t:Sp} {x:Value}
  (e:(l[i]?,sps[a]?,t.dst,t.fact (t.deps.map vals) S')=(some a,some t,some d,vals a=x)):f d=x :=
 h.u i (h6_ e).1 (h6_ (h6_ e).2).1 (h6_ (h6_ e).2).2
theorem fo {A:Value→Prop} {B C:Value→PH→Prop} {S:PH} {v:Value} (c:C v S) (a:A v:=by exact rfl) (b:B v S:=by exact rfl):∃ v S',A v∧S.Le S'∧B v S'∧C v S':=⟨v,S,a,lr,b,c⟩
section
variable {P:Program} {n:Nat} {ro:Option Nat} {ops:Array Oper} {sps:List Sp} {tks:List Tok} {f0:Fr} {S:PH} {i:Nat} {s:Sp}
theorem ob_ {o:Oper} (ho:(ops[i]?,o.guard)=(some o,none)) (h:∀ {vals:Nat→Value} {f:Fr} {w:World} {S':PH} {X:List HP},S.Le S' →
  AllP s.anc (λj=>∀ t,sps[j]?=some t→(∀ d,t.dst=some d→f d=vals j)∧t.fact (t.deps.map vals) S') →
  (∀ d,(∀ (j:Nat) (t:Sp),sps[j]?=some t→t.dst=some d→i ∈ t.anc∨i=j)→f d=f0 d) →
  Inv w S' (s.cons.map (lb_ tks vals)++(s.rd.map (lb_ tks vals)++X)) →
  OP P n ro o f w λf' w'=>∃ v S'',f'=we_ f s.dst v∧S'.Le S''∧s.fact (s.deps.map (upv vals i v)) S'' ∧
   Inv w' S'' (s.prod.map (lb_ tks (upv vals i v))++(s.rd.map (lb_ tks vals)++X))):Ob P n ro ops sps tks f0 S i s :=
 λ_ _ _ _ _ a b c d=>pl_ ho (h a b c d)
end
section
variable {P:Program} {n:Nat} {ro:Option Nat} {f:Fr} {w:World} {K:Fr→World→Prop} {d k:Nat} {ty:TypeId} {pos:String} {af:Array Edge} {gd:Option (Nat×Bool)} {x y:Operand} {v:Value} {T:TypeId} {S:PH}
end
end
end Go.Proofs.YtgeehfnbhbibeaaGreatDoor.Pad
namespace Go.Proofs.YtgeehfnbhbibeaaGreatDoor.Rx
open Go Pad Rex Go.Proofs Go.Proofs.Tryz Sum
section
set_option maxRecDepth 100000
set_option maxHeartbeats 400000
def ivs (l:List Int):List Value:=l.map λn=>.int .i64 n
def as9 (m n:Nat) (a:Int):List Int:=List.replicate n a++List.replicate (m - n) 0
theorem bd5 {P:Program} {n d:Nat} {ro:Option Nat} {f:Pad.Fr} {w:World} {K:Pad.Fr→World→Prop} {ty T E B:TypeId} {pos:String} {af:Array Edge} {gd:Option (Nat×Bool)} {x y:Operand} {S:PH} {O:List HP} {g o dl dc sl sc:Nat} {ad:Addr} {cs:Array Value} {ys:List Value}
  (hd:Nat.blt d n=true) (hT:P.underlying T=some (.slice E)) (hs:(P.info? E).map (·.size)=some 1) (hx:Pad.ev f x = .slice (some ⟨g,o,none⟩) dl dc) (hy:Pad.ev f y = .slice (some ad) sl sc) (hI:Inv w S (lf_ g B cs::O))
  (hn:ys.length=Nat.min sl dl) (hsrc:∀ j v,ys[j]?=some v→w.cell? (ad.add j)=some v) (hfit:o+ys.length≤cs.size) (h1:∀ v ∈ ys,v.oneCell'=true)
  (k:∀ w',Inv w' S (lf_ g B (cs.toList.take o++ys++cs.toList.drop (o+ys.length)).toArray::O)→K (upd f d (.int .i64 (ys.length:Nat))) w') :
  OP P n ro ⟨some d,.call ⟨.builtin .copy,#[x,y],#[T,T]⟩,ty,pos,af,gd⟩ f w K:=by
 have h:=run_copy_row (P:=P) w T T ty E g o dl dc ad sl sc cs B ys hT hs hI.blk hn hsrc hfit h1
 exact cw_ hd (by simp[execOp,resolve,invoke,builtin,hx,hy,h,Result.andThen];rfl) (k _ hI.setRow)
theorem cq8 {P:Program} {n d:Nat} {ro:Option Nat} {f:Pad.Fr} {w:World} {K:Pad.Fr→World→Prop} {ty T E:TypeId} {pos:String} {af:Array Edge} {gd:Option (Nat×Bool)} {x y:Operand} {dl dc sl sc:Nat} {ap ad:Option Addr}
  (hd:Nat.blt d n=true) (hT:P.underlying T=some (.slice E)) (hs:(P.info? E).map (·.size)=some 1) (hx:Pad.ev f x = .slice ap dl dc) (hy:Pad.ev f y = .slice ad sl sc)
  (hn:Nat.min sl dl=0) (k:K (upd f d (.int .i64 0)) w) :
  OP P n ro ⟨some d,.call ⟨.builtin .copy,#[x,y],#[T,T]⟩,ty,pos,af,gd⟩ f w K:=by
 have h:=run_copy_none (P:=P) w T T ty E ap ad dl dc sl sc hT hs hn
 exact cw_ hd (by simp[execOp,resolve,invoke,builtin,hx,hy,h,Result.andThen];rfl) k
theorem op_make {n d:Nat} {ro:Option Nat} {f:Pad.Fr} {w:World} {K:Pad.Fr→World→Prop} {ty:TypeId} {pos:String} {af:Array Edge} {gd:Option (Nat×Bool)} {x y:Operand} {S:PH} {O:List HP} {m:Nat}
  (hd:Nat.blt d n=true) (hx:Pad.ev f x = .int .i64 m) (hy:Pad.ev f y = .int .i64 m) (hm:m≤2147483648) (hI:Inv w S O)
  (k:∀ g w',Inv w' S (lf_ g 3 (ivs (List.replicate m 0)).toArray::O)→K (upd f d (.slice (some ⟨g,0,none⟩) m m)) w') :
  OP prog n ro ⟨some d,.makeSlice 55 x y,ty,pos,af,gd⟩ f w K:=by
 obtain⟨bytes,zv,⟨ei,hE⟩,hb,hr⟩:=jj_ (show qs_ prog 3 .int=some (0:Int) by kernel_rfl)
 have hzv:zv = .int .i64 0:=mj_ (hr S)
 have hbb:(ei.bytes:Int) * (m:Int)≤281474976710656:=by
  have h1:(ei.bytes:Int)≤65536:=by rw[hE.hb];omega
  have h2:(ei.bytes:Int) * (m:Int)≤65536 * 2147483648:=Int.mul_le_mul h1 (by omega) (by omega) (by omega)
  omega
 have h:=run_make (P:=prog) w 55 3 ei zv underlying55 hE.hi hE.hz .i64 .i64 m m (by omega) (n0_ _) hbb (by omega)
 have hsz:ei.size=1:=hE.hs
 have hc:madeCells zv.cells ((m:Int).toNat * ei.size)=(ivs (List.replicate m 0)).toArray:=by
  have h2:=lj_ zv.cells m
  have h3:zv.cells.size=1:=by rw[hzv];rfl
  rw[h3] at h2
  rw[hsz,b9_]
  apply Array.toList_inj.1
  rw[h2,hzv]
  simp[Value.cells,ivs]
 rw[hc] at h
 exact cw_ hd (by rw[b9_] at h;simp[execOp,Sem.run_bind,hx,hy,h,Result.andThen]) (k _ _ (hI.alloc 3 _))
theorem cb_127:ea_ prog 127:=⟨_,func127,rfl,by kernel_rfl⟩
theorem cm2 {m:Nat} (h:m≤2147483648):wu64 (m:Int)=(m:Int):=by
 unfold wu64 IntKind.wrap
 simp[IntKind.signed,IntKind.bits]
 omega
theorem in3:(prog.info? 3).map (·.size)=some 1:=by kernel_rfl
theorem cc4 {m n q:Nat} {a:Int} (h:n+q≤m):(ivs (as9 m n a)).take n++ivs (List.replicate q a)++(ivs (as9 m n a)).drop (n+q)=ivs (as9 m (n+q) a):=by
 unfold ivs as9
 rw[← List.map_take,← List.map_drop,← i9_,← i9_]
 congr 1
 have h1:(List.replicate n a++List.replicate (m - n) (0:Int)).take n=List.replicate n a:=by
  rw[List.take_append_of_le_length (by simp),g8_ (by simp)]
 have h2:(List.replicate n a++List.replicate (m - n) (0:Int)).drop (n+q)=List.replicate (m - (n+q)) 0:=by
  rw[List.drop_append,List.drop_of_length_le (by simp)]
  simp
  omega
 rw[h1,h2,List.replicate_append_replicate]
theorem ivs_len (l:List Int):(ivs l).length=l.length:=by simp[ivs]
theorem co3 {m n:Nat} {a:Int} (h:n≤m):(as9 m n a).length=m:=by simp[as9];omega
theorem rowR_at {m n j:Nat} {a:Int} (h:j<n):(ivs (as9 m n a))[j]?=some (.int .i64 a):=by
 unfold ivs as9
 rw[d5_,b2_ (by simpa using h),i2_,if_pos h]
 rfl
theorem ivs_one {l:List Int}:∀ v ∈ ivs l,v.oneCell'=true:=by
 intro v hv
 obtain⟨n,_,rfl⟩:=d1_.1 hv
 rfl
theorem sl_l {f:Pad.Fr} {w:World} {d m n g:Nat} {x y:Operand} {ty:TypeId} {pos:String} {af:Array Edge} {gd:Option (Nat×Bool)} (hx:Pad.ev f x = .slice (some ⟨g,0,none⟩) m m) (hy:Pad.ev f y = .int .i64 n) (h:n<m) :
  (execOp (Pad.ev f) ⟨some d,.slice 55 x (some y) none none,ty,pos,af,gd⟩).run prog w = .ok (.value (.slice (some ⟨g,n,none⟩) (m - n) (m - n))) w:=by
 have:=cy8 (P:=prog) (w:=w) (T:=55) (E:=3) (a:=some ⟨g,0,none⟩) (len:=m) (cap:=m) (lo:=(n:Int)) underlying55 sh3' (by omega) (by omega)
 have hne:¬ m=n:=by omega
 have e:(⟨g,0,none⟩:Addr).add (n * 1)=⟨g,n,none⟩:=by rw[q8_,ez_,b0_]
 simp only[sliced,hne,h8_,g6_,b9_,e] at this
 simp[execOp,hx,hy,this,Result.andThen]
theorem sl_h {f:Pad.Fr} {w:World} {d m n g:Nat} {x y:Operand} {ty:TypeId} {pos:String} {af:Array Edge} {gd:Option (Nat×Bool)} (hx:Pad.ev f x = .slice (some ⟨g,0,none⟩) m m) (hy:Pad.ev f y = .int .i64 n) (h:n<m) :
  (execOp (Pad.ev f) ⟨some d,.slice 55 x none (some y) none,ty,pos,af,gd⟩).run prog w = .ok (.value (.slice (some ⟨g,0,none⟩) n m)) w:=by
 have:=cy9 (P:=prog) (w:=w) (T:=55) (E:=3) (a:=some ⟨g,0,none⟩) (len:=m) (cap:=m) (hi:=(n:Int)) underlying55 sh3' (by omega) (by omega)
 have hne:¬ m=0:=by omega
 simp[sliced,hne,Addr.add] at this
 simp[execOp,hx,hy,this,Result.andThen]
theorem op_uI {n d:Nat} {ro:Option Nat} {f:Pad.Fr} {w:World} {K:Pad.Fr→World→Prop} {ty:TypeId} {pos:String} {af:Array Edge} {gd:Option (Nat×Bool)} {x:Operand} {m:Nat} (hd:Nat.blt d n=true) (hx:Pad.ev f x = .int .u64 (m:Int)) (hm:m≤2147483648)
  (k:K (upd f d (.int .i64 (m:Int))) w):OP prog n ro ⟨some d,.convert 211 3 x,ty,pos,af,gd⟩ f w K:=by
 have h64:IntKind.i64.wrap (m:Int)=m:=by rw[IntKind.wrap_i64];omega
 exact cw_ hd (by simp[execOp,hx,convert,run_underlying underlying211,run_underlying underlying3,Conv.intToInt,h64]) k
theorem bc0 {S:PH}:∀ (l:List Int),@RepL Int Ty.int.enc S (ivs l) l
 | []=>rfl
 | a::l=>⟨[.int .i64 a],ivs l,rfl,rfl,bc0 l⟩
def RI (m g:Nat) (a:Int) (S:PH) (Fr:List HP) (k:Nat) (f:Pad.Fr) (w:World):Prop :=
 k≤m∧(0<m→0<k)∧∃ S',S.Le S'∧Inv w S' (lf_ g 3 (ivs (as9 m k a)).toArray::Fr)∧f 7 = .slice (some ⟨g,0,none⟩) m m∧f 8 = .int .i64 (k:Int)∧f.ds=[]
theorem co7 {w:World} {S:PH} {Fr:List HP} {v:Value} {m:Nat} {a:Int} (hI:Inv w S Fr) (hr:RVt (.list .int) S v [a]) (hm:m≤2147483648) :
  Calls prog 98 [v,.int .i64 (m:Int)].toArray w λe w'=>∃ u S',e = .returned u∧S.Le S'∧Inv w' S' (@Row Int Ty.int.enc 3 u (List.replicate m a)::Fr):=by
 obtain⟨a0,cap0,hv2,_,hmax,hnil,hrow⟩:=@ib_ Int Ty.int.enc S v [a] hr
 obtain⟨ad,rfl⟩:∃ ad,a0=some ad:=by
  cases a0 with
  | none=>have:=(hnil rfl).1;simp at this
  | some ad=>exact⟨ad,rfl⟩
 refine rk_ (n:=48) func98 rfl rfl rfl ?_
 refine bi_ (bc_ (wa_ (v:=sn) rfl rfl (dj_ ?_)))
 refine bi_ (bi_ (bc_ (wm_ (v:=.int .i64 m) rfl rfl (wo_ (zx_ (a:=(m:Int)) (b:=0) rfl rfl rfl (dj_ ?_))))))
 refine ip_ rfl (c2_ (by omega)) (lg_ ?_)
 refine bi_ (bc_ (wm_ (v:=v) rfl rfl (wo_ (bd4 rfl underlying55 hv2 ?_))))
 refine wo_ (cz2 (a:=1) rfl rfl underlying3 underlying211 (wm_ (v:=.int .i64 m) rfl rfl (wo_ (cz2 (a:=(m:Int)) rfl rfl underlying3 underlying211 ?_))))
 rw[cm2 hm,show wu64 1=((1:Nat):Int) from rfl]
 refine wo_ (bd3 (vs:=[.int .u64 ((1:Nat):Int),.int .u64 (m:Int)]) rfl cb_127 rfl (args2 rfl rfl) (sh_Mul 1 m (by omega) (by omega) w) λe w2 he => ?_)
 obtain⟨rfl,rfl⟩:=he
 rw[show (1 * m / 18446744073709551616:Nat)=0 by omega,show (1 * m % 18446744073709551616:Nat)=m by omega]
 refine⟨_,rfl,?_⟩
 refine wm_ (v:=.tuple #[.int .u64 ((0:Nat):Int),.int .u64 (m:Int)]) rfl rfl (wo_ (zy_ (v:=.int .u64 ((0:Nat):Int)) rfl rfl rfl (wo_ (zy_ (v:=.int .u64 (m:Int)) rfl rfl rfl (wa_ (v:=.int .u64 ((0:Nat):Int)) rfl rfl (wa_ (v:=.int .u64 (m:Int)) rfl rfl (dj_ ?_)))))))
 refine bi_ (bi_ (bc_ (wm_ (v:=.int .u64 ((0:Nat):Int)) rfl rfl (wo_ (cz3 (a:=((0:Nat):Int)) (b:=0) rfl rfl rfl (wm_ (v:=.bool false) rfl rfl (wk_ rfl rfl rfl (mz_ (v:=.int .u64 (m:Int)) rfl rfl (wk_ rfl rfl rfl (cz3 (a:=(m:Int)) (b:=9223372036854775807) rfl rfl rfl ?_))))))))))
 have hdf:decide ((9223372036854775807:Int)<(m:Int))=false:=c2_ (by omega)
 rw[hdf]
 refine wo_ (bx2 (b:=.bool false) rfl rfl rfl rfl (dj_ (ip_ rfl rfl (lg_ ?_))))
 refine bi_ (bc_ (wm_ (v:=.int .u64 (m:Int)) rfl rfl (wo_ (op_uI (m:=m) rfl rfl hm ?_))))
 refine wo_ (op_make (m:=m) rfl rfl rfl hm hI λg w3 I3=>wa_ (v:=.slice (some ⟨g,0,none⟩) m m) rfl rfl (dj_ ?_))
 have hcell:w3.cell? ad=some (.int .i64 a):=by
  obtain⟨es,h1,h2⟩:=hrow ad rfl 0 a rfl
  have h1:es=[.int .i64 a]:=h1
  have h3:=PH.cell_in I3.in_ (h2 0 (.int .i64 a) (by rw[h1];rfl))
  simpa [Addr.add] using h3
 have hl3:(ivs (List.replicate m (0:Int))).length=m:=by simp[ivs]
 refine bi_ (at8 (λf w'=>∃ k,RI m g a S Fr k f w') ?_ ?_)
 ·refine bc_ (wm_ (v:=.slice (some ⟨g,0,none⟩) m m) rfl rfl (wm_ (v:=v) rfl rfl ?_))
  by_cases h0:m=0
  ·subst h0
   refine wo_ (cq8 (dl:=0) (dc:=0) (sl:=1) (sc:=cap0) rfl underlying55 in3 rfl hv2 rfl (wa_ (v:=.int .i64 0) rfl rfl (dj_ ?_)))
   exact⟨0,c3_ _,λh=>h,S,lr,I3,rfl,rfl,rfl⟩
  ·refine wo_ (bd5 (g:=g) (o:=0) (dl:=m) (dc:=m) (sl:=1) (sc:=cap0) (ad:=ad) (ys:=[.int .i64 a]) rfl underlying55 in3 rfl hv2 I3 ?_ ?_ ?_ ?_ λw4 I4=>wa_ (v:=.int .i64 1) rfl rfl (dj_ ?_))
   ·show 1=Nat.min 1 m
    exact (Nat.min_eq_left (by omega)).symm
   ·intro j u hj
    cases j with
    | zero =>
     obtain rfl:=a6_ hj
     simpa [Addr.add] using hcell
    | succ j=>simp at hj
   ·simp[hl3]
    omega
   ·intro u hu
    simp at hu
    subst hu
    rfl
   ·refine⟨1,by omega,λ_=>by omega,S,lr,?_,rfl,rfl,rfl⟩
    have:=cc4 (m:=m) (n:=0) (q:=1) (a:=a) (by omega)
    have e0:as9 m 0 a=List.replicate m 0:=by simp[as9]
    rw[e0] at this
    rw[← this]
    exact I4
 ·rintro f w4 ⟨k0,hk0⟩
  refine bi_ (en_ (rp_ (I:=λk f w'=>RI m g a S Fr k f w') (λk=>m - k) k0 hk0 ?_))
  rintro k f w5 ⟨r1,r2,S5,le5,r3,r4,r5,r6⟩
  refine bi_ (bi_ (bc_ (wm_ rfl r5 (wm_ rfl r4 (wo_ (bd4 rfl underlying55 rfl (wo_ (zx_ rfl rfl rfl (dj_ ?_)))))))))
  by_cases hkm:k<m
  ·refine me_ rfl (len_t hkm) (lg_ ?_)
   refine en_ (wp_draw (sps:=[spV 38 [] 0 (.int .i64 k),spV 39 [] 1 (.slice (some ⟨g,0,none⟩) m m),spV 40 [] 2 (.int .i64 k),spV 41 [1,2] 3 (.slice (some ⟨g,k,none⟩) (m - k) (m - k)),spV 42 [] 4 (.slice (some ⟨g,0,none⟩) m m),spV 43 [] 5 (.int .i64 k),
    spV 44 [4,5] 6 (.slice (some ⟨g,0,none⟩) k m),⟨some 45,[1,2,3,4,5,6],[7],λvs _=>fr0 vs 0 = .int .i64 (Nat.min k (m - k):Nat),[],[0],[1],λ_ h=>h⟩,spV 46 [0,1,2,3,4,5,6,7] 8 (.int .i64 ((k+Nat.min k (m - k):Nat):Int)),spV 8 (lrg 9) 9 (.int .i64 ((k+Nat.min k (m - k):Nat):Int))])
    (tks:=[⟨none,some 7,[],λ_=>lf_ g 3 (ivs (as9 m k a)).toArray⟩,⟨some 7,none,[],λ_=>lf_ g 3 (ivs (as9 m (k+Nat.min k (m - k)) a)).toArray⟩]) (O:=Fr) rfl (by kernel_rfl) r3
    ⟨ob_ rfl λl A K I=>mz_ rfl ((K 8 (xn_ rfl)).trans r5) (fo I),ob_ rfl λl A K I=>mz_ rfl ((K 7 (xn_ rfl)).trans r4) (fo I),ob_ rfl λl A K I=>mz_ rfl ((K 8 (xn_ rfl)).trans r5) (fo I),
     ob_ rfl λl A K I=>cw_ rfl (sl_l (A.v 0 rfl) (A.v 1 rfl) hkm) (fo I),ob_ rfl λl A K I=>mz_ rfl ((K 7 (xn_ rfl)).trans r4) (fo I),ob_ rfl λl A K I=>mz_ rfl ((K 8 (xn_ rfl)).trans r5) (fo I),
     ob_ rfl λl A K I=>cw_ rfl (sl_h (A.v 0 rfl) (A.v 1 rfl) hkm) (fo I),?_,?_,ob_ rfl λl A K I=>od_ rfl (A.v 8 rfl) (fo I),trivial⟩ ?_)
   ·intro vs f w_ U X le A K I
    have hq:Nat.min k (m - k)≤k∧k+Nat.min k (m - k)≤m:=⟨Nat.min_le_left _ _,by have:Nat.min k (m - k)≤m - k:=m6_ _ _;omega⟩
    refine pl_ rfl (bd5 (g:=g) (o:=k) (dl:=m - k) (dc:=m - k) (sl:=k) (sc:=m) (ad:=⟨g,0,none⟩) (ys:=ivs (List.replicate (Nat.min k (m - k)) a)) rfl underlying55 in3 (A.v 2 rfl) (A.v 5 rfl) I (by simp[ivs]) ?_ ?_ ivs_one λw6 I6 => ?_)
    ·intro j u hj
     have hj2:j<Nat.min k (m - k):=by
      have:=(a4_.1 hj).1
      simpa [ivs] using this
     have e:u = .int .i64 a:=by
      unfold ivs at hj
      rw[d5_,i2_,if_pos hj2] at hj
      exact (a6_ hj).symm
     rw[ez_,b0_,I.cell,e]
     have:=rowR_at (m:=m) (n:=k) (j:=j) (a:=a) (by omega)
     simpa using this
    ·have:(ivs (as9 m k a)).toArray.size=m:=by simp[ivs_len,co3 r1]
     rw[this]
     simpa [ivs] using hq.2
    ·have el:(ivs (List.replicate (Nat.min k (m - k)) a)).length=Nat.min k (m - k):=by simp[ivs]
     have e:=cc4 (m:=m) (n:=k) (q:=Nat.min k (m - k)) (a:=a) hq.2
     rw[el] at I6
     refine⟨_,U,rfl,lr,by rw[el];rfl,?_⟩
     show Inv w6 U (lf_ g 3 (ivs (as9 m (k+Nat.min k (m - k)) a)).toArray::_)
     rw[← e]
     exact I6
   ·intro vs f w_ U X le A K I
    have hq:k+Nat.min k (m - k)≤m:=by
     have:Nat.min k (m - k)≤m - k:=m6_ _ _
     omega
    have e:w64 ((k:Int)+(Nat.min k (m - k):Nat))=((k+Nat.min k (m - k):Nat):Int):=by
     rw[ki_ (by omega) (by omega)]
     rfl
    refine pl_ rfl (bx4 rfl (A.v 0 rfl) (A.v 7 rfl) ?_)
    rw[e]
    exact fo I
   ·intro vs f6 w6 S6 ds6 le6 hF hK hI6
    have hq:0<Nat.min k (m - k)∧k+Nat.min k (m - k)≤m:=by
     have h1:Nat.min k (m - k)≤m - k:=m6_ _ _
     refine⟨Nat.lt_min.2 ⟨r2 (by omega),by omega⟩,by omega⟩
    have e8:f6 8 = .int .i64 ((k+Nat.min k (m - k):Nat):Int):=hF.v 9 rfl
    have e7:f6 7 = .slice (some ⟨g,0,none⟩) m m:=(hK 7 (ct1 rfl)).trans r4
    exact⟨k+Nat.min k (m - k),by omega,hq.2,λ_=>by omega,S6,le5.trans le6,hI6,e7,e8,ds6.trans r6⟩
  ·refine ip_ rfl (c2_ (by omega)) (rq_ ?_)
   obtain rfl:k=m:=by omega
   refine bi_ (bc_ (wm_ rfl r4 (wa_ (v:=.slice (some ⟨g,0,none⟩) k k) rfl rfl (dj_ (wb_ ⟨r6,.slice (some ⟨g,0,none⟩) k k,res1 rfl rfl,_,S5,rfl,le5,?_⟩)))))
   refine Inv.shut (A:=@Row Int Ty.int.enc 3 _ (List.replicate k a)) r3 (.inr ⟨g,k,[],ivs (List.replicate k a),[],by simp,by simp[as9],bc0 _,by simp,by simp only[maxLen];omega,by simp⟩)
noncomputable def eb_ (a0:List Int) (a1:Int):Option (List Int):=match a0 with
 | [a]=>mk? a1 a
 | _=>none
noncomputable def rp_98:Rpt prog:=⟨98,[.list .int,.int],.int,3,λx=>eb_ x.1 x.2.1,λ{w S Fr hv vs x r} hG hI ha hF=>by
 obtain⟨l,c,u⟩:=x
 match vs,ha with
 | [v1,v2],⟨h1,h2,_⟩ =>
  have hF:eb_ l c=some r:=hF
  match l,hF,h1 with
  | [a],hF,h1 =>
   obtain⟨c0,c1,rfl⟩:=ag0 (show mk? c a=some r from hF)
   obtain⟨m,rfl⟩:=Int.eq_ofNat_of_zero_le c0
   obtain rfl:v2 = .int .i64 (m:Int):=mj_ (S:=S) (qy_ (hv:=hv) (t:=.int) h2)
   have hr:RVt (.list .int) S v1 [a]:=qy_ (hv:=hv) h1
   rw[b9_]
   refine (co7 hI hr (by omega)).mono λe w' he => ?_
   obtain⟨u,S',h3,h4,h5⟩:=he
   exact⟨u,S',h3,h4,h5⟩⟩
end
section
set_option maxRecDepth 100000
set_option maxHeartbeats 0
theorem cz_140:qs_ prog 3 .int=some (show Int from 0):=by kernel_rfl
theorem ce_140:Rex.elemOf prog 55=some 3:=by kernel_rfl
noncomputable def ym_:Cpy prog:=⟨140,.int,3,λhc hI h=>bi1 func140 rfl rfl rfl ce_140 cz_140 rfl hc hI h⟩
theorem cz_141:qs_ prog 4 .bool=some (show Bool from false):=by kernel_rfl
theorem ce_141:Rex.elemOf prog 92=some 4:=by kernel_rfl
noncomputable def cg5:Cpy prog:=⟨141,.bool,4,λhc hI h=>bi1 func141 rfl rfl rfl ce_141 cz_141 rfl hc hI h⟩
end
section
set_option maxRecDepth 100000
set_option maxHeartbeats 0
noncomputable def nh_ (a0:ae_):Option (Bool×Unit) :=
 (((cond (decide (12<(a0.1.length:Int)))
 (some (true,()))
 (cond (decide (15<(a0.2.1.length:Int)))
 (some (true,()))
 (cond (decide (14<(a0.2.2.1.length:Int)))
 (some (true,()))
 (cond (decide (20<(a0.2.2.2.1.length:Int)))
 (some (true,()))
 (cond (decide (30<(a0.2.2.2.2.1.length:Int)))
 (some (true,()))
 (cond (decide (15<(a0.2.2.2.2.2.1.length:Int)))
 (some (true,()))
 (some ((decide (20<(a0.2.2.2.2.2.2.2.length:Int))),()))))))))).bind λv0 =>
 (cond v0.1
 (some (true,()))
 ((ag_ (ρ:=(Unit⊕(Bool×Unit))) (λ(v1:(Int×Unit)) =>
 (cond (decide (v1.1<(a0.1.length:Int)))
 ((at? a0.1 v1.1).bind λv2 =>
 (cond (decide (100<(v2.length:Int)))
 (some (inr (inr (true,()))))
 (some (inl ((w64 (v1.1+1)),())))))
 (some (inr (inl ()))))) (0,())).bind λv3 =>
 (cj_ v3 (λv4=>((ag_ (ρ:=(Unit⊕(Bool×Unit))) (λ(v6:(Int×Unit)) =>
 (cond (decide (v6.1<(a0.2.1.length:Int)))
 ((at? a0.2.1 v6.1).bind λv7 =>
 (cond (decide (100<(v7.1.length:Int)))
 (some (inr (inr (true,()))))
 (some (inl ((w64 (v6.1+1)),())))))
 (some (inr (inl ()))))) (0,())).bind λv8 =>
 (cj_ v8 (λv9=>((ag_ (ρ:=(Unit⊕(Bool×Unit))) (λ(v11:(Int×Unit)) =>
 (cond (decide (v11.1<(a0.2.2.1.length:Int)))
 ((((at? a0.2.2.1 v11.1).bind λv12 =>
 (cond (decide (100<(v12.1.length:Int)))
 (some (true,()))
 ((at? a0.2.2.1 v11.1).bind λv13 =>
 (some ((decide (20<(v13.2.2.length:Int))),())))))).bind λv14 =>
 (cond v14.1
 (some (inr (inr (true,()))))
 (some (inl ((w64 (v11.1+1)),())))))
 (some (inr (inl ()))))) (0,())).bind λv15 =>
 (cj_ v15 (λv16=>((ag_ (ρ:=(Unit⊕(Bool×Unit))) (λ(v18:(Int×Unit)) =>
 (cond (decide (v18.1<(a0.2.2.2.1.length:Int)))
 ((at? a0.2.2.2.1 v18.1).bind λv19 =>
 (cond (decide (20<(v19.2.2.length:Int)))
 (some (inr (inr (true,()))))
 (some (inl ((w64 (v18.1+1)),())))))
 (some (inr (inl ()))))) (0,())).bind λv20 =>
 (cj_ v20 (λv21=>((ag_ (ρ:=(Unit⊕(Bool×Unit))) (λ(v23:(Int×Unit)) =>
 (cond (decide (v23.1<(a0.2.2.2.2.1.length:Int)))
 ((at? a0.2.2.2.2.1 v23.1).bind λv24 =>
 (((cond (decide (100<(v24.1.length:Int)))
 (some (true,()))
 (cond (decide (20<(v24.2.2.2.2.1.length:Int)))
 (some (true,()))
 (cond (decide (20<(v24.2.2.2.1.length:Int)))
 (some (true,()))
 (cond (decide (20<(v24.2.2.2.2.2.1.length:Int)))
 (some (true,()))
 (cond (decide (20<(v24.2.2.2.2.2.2.1.length:Int)))
 (some (true,()))
 (some ((decide (20<(v24.2.2.2.2.2.2.2.length:Int))),())))))))).bind λv25 =>
 (cond v25.1
 (some (inr (inr (true,()))))
 (some (inl ((w64 (v23.1+1)),()))))))
 (some (inr (inl ()))))) (0,())).bind λv26 =>
 (cj_ v26 (λv27=>((ag_ (ρ:=(Unit⊕(Bool×Unit))) (λ(v29:(Int×Unit)) =>
 (cond (decide (v29.1<(a0.2.2.2.2.2.1.length:Int)))
 ((at? a0.2.2.2.2.2.1 v29.1).bind λv30 =>
 (cond (decide (20<(v30.1.length:Int)))
 (some (inr (inr (true,()))))
 (some (inl ((w64 (v29.1+1)),())))))
 (some (inr (inl ()))))) (0,())).bind λv31 =>
 (cj_ v31 (λv32=>(some (false,())))
 (λv33=>(some v33)))))
 (λv28=>(some v28)))))
 (λv22=>(some v22)))))
 (λv17=>(some v17)))))
 (λv10=>(some v10)))))
 (λv5=>(some v5))))))
theorem x_51:av_ (P:=prog) (cxC [] []) (.p .z (.p (.j0 [.v 49 .bool] .z .z) (.p (.p .z (.ls [.v 3 .int] [] [] 0 .z)) (.p (.p .z (.ls [.v 4 .int] [] [] 2 .z)) (.p (.p .z (.ls [.v 5 .int] [] [] 4 (.p .z (.p (.j0 [.v 103 .bool] .z .z) .z)))) (.p (.p .z (.ls [.v 6 .int] [] [] 6 .z)) (.p (.p .z (.ls [.v 7 .int] [] [] 8 (.p .z (.p (.p .z (.j0 [.v 164 .bool] .z .z)) .z)))) (.p (.p .z (.ls [.v 9 .int] [] [] 10 .z)) .z)))))))) 51 [ao_] [.bool]=λx=>nh_ x.1:=by kernel_rfl
noncomputable def c_51:Con prog:=aw_ _ _ 51 [ao_] [.bool] _ x_51
noncomputable def bs_ (a0:Int) (a1:Int) (a2:Int):Option (Bool×Unit) :=
 (cond (decide (a1≤a0))
 (some ((decide (a0≤a2)),()))
 (some (false,())))
theorem x_84:av_ (P:=prog) (cxC [] []) .z 84 [.int,.int,.int] [.bool]=λx=>bs_ x.1 x.2.1 x.2.2.1:=by kernel_rfl
noncomputable def c_84:Con prog:=aw_ _ _ 84 [.int,.int,.int] [.bool] _ x_84
noncomputable def ai4  : Option ((List (List UInt8))×Unit) :=
 (some ([[97,116],[115,116,97,116,101,115],[115,116,97,114,116],[103,111,110,101],[105,102],[108,111,99,107],[119,105,116,104],[115,101,116,115],[115,112,101,110,100,115],[98,114,105,110,103,115]],()))
theorem x_156:av_ (P:=prog) (cxC [] []) .z 156 [] [(.list .str)]=λx=>ai4:=by kernel_rfl
noncomputable def c_156:Con prog:=aw_ _ _ 156 [] [(.list .str)] _ x_156
noncomputable def fs_ (a0:(List (List UInt8))) (a1:Int):Option (Bool×Unit) :=
 ((ag_ (ρ:=(Unit⊕(Bool×Unit))) (λ(v0:(Int×Unit)) =>
 (cond (decide (v0.1<a1))
 ((at? a0 v0.1).bind λv1 =>
 ((at? a0 a1).bind λv2 =>
 (cond (v1==v2)
 (some (inr (inr (true,()))))
 (some (inl ((w64 (v0.1+1)),()))))))
 (some (inr (inl ()))))) (0,())).bind λv3 =>
 (cj_ v3 (λv4=>(some (false,())))
 (λv5=>(some v5))))
theorem x_82:av_ (P:=prog) (cxC [] []) (.p .z (.p (.p .z (.ls [.v 5 .int] [] [] 0 (.p .z (.p (.p (.q [] .z .z) .z) .z)))) .z)) 82 [(.list .str),.int] [.bool]=λx=>fs_ x.1 x.2.1:=by kernel_rfl
noncomputable def c_82:Con prog:=aw_ _ _ 82 [(.list .str),.int] [.bool] _ x_82
noncomputable def mp_ (a0:(List Int)) (a1:Int):Option (Bool×Unit) :=
 ((ag_ (ρ:=(Unit⊕(Bool×Unit))) (λ(v0:(Int×Unit)) =>
 (cond (decide (v0.1<(a0.length:Int)))
 ((at? a0 v0.1).bind λv1 =>
 (cond (v1==a1)
 (some (inr (inr (true,()))))
 (some (inl ((w64 (v0.1+1)),())))))
 (some (inr (inl ()))))) (0,())).bind λv2 =>
 (cj_ v2 (λv3=>(some (false,())))
 (λv4=>(some v4))))
theorem x_117:av_ (P:=prog) (cxC [] []) (.p .z (.p (.p .z (.ls [.v 5 .int] [] [] 0 .z)) .z)) 117 [(.list .int),.int] [.bool]=λx=>mp_ x.1 x.2.1:=by kernel_rfl
noncomputable def c_117:Con prog:=aw_ _ _ 117 [(.list .int),.int] [.bool] _ x_117
noncomputable def bk_ (a0:Int) (a1:Int) (a2:Int):Option (Bool×Unit) :=
 (cond (decide (a1≤a0))
 (some ((decide (a0≤a2)),()))
 (some (false,())))
theorem x_87:av_ (P:=prog) (cxC [] []) .z 87 [.int,.int,.int] [.bool]=λx=>bk_ x.1 x.2.1 x.2.2.1:=by kernel_rfl
noncomputable def c_87:Con prog:=aw_ _ _ 87 [.int,.int,.int] [.bool] _ x_87
noncomputable def iy_ (a0:Int) (a1:Int) (a2:Int):Option (Bool×Unit) :=
 (cond (decide (a1≤a0))
 (some ((decide (a0≤a2)),()))
 (some (false,())))
theorem x_57:av_ (P:=prog) (cxC [] []) .z 57 [.int,.int,.int] [.bool]=λx=>iy_ x.1 x.2.1 x.2.2.1:=by kernel_rfl
noncomputable def c_57:Con prog:=aw_ _ _ 57 [.int,.int,.int] [.bool] _ x_57
noncomputable def ll_ (a0:ak_):Option (Bool×Unit) :=
 (cond (a0.1==0)
 (cond (a0.2.1==0)
 (cond (a0.2.2.1==0)
 (cond (a0.2.2.2.1==0)
 (cond (a0.2.2.2.2.1==0)
 (cond ((a0.2.2.2.2.2.1.length:Int)==0)
 (some ((!a0.2.2.2.2.2.2),()))
 (some (false,())))
 (some (false,())))
 (some (false,())))
 (some (false,())))
 (some (false,())))
 (some (false,())))
theorem x_89:av_ (P:=prog) (cxC [] []) .z 89 [aq_] [.bool]=λx=>ll_ x.1:=by kernel_rfl
noncomputable def c_89:Con prog:=aw_ _ _ 89 [aq_] [.bool] _ x_89
noncomputable def gt_ (a0:(List Int)) (a1:(List Int)):Option (Bool×Unit) :=
 (cond ((a0.length:Int) != (a1.length:Int))
 (some (false,()))
 ((ag_ (ρ:=(Unit⊕(Bool×Unit))) (λ(v0:(Int×Unit)) =>
 (cond (decide (v0.1<(a0.length:Int)))
 ((at? a0 v0.1).bind λv1 =>
 ((at? a1 v0.1).bind λv2 =>
 (cond (v1 != v2)
 (some (inr (inr (false,()))))
 (some (inl ((w64 (v0.1+1)),()))))))
 (some (inr (inl ()))))) (0,())).bind λv3 =>
 (cj_ v3 (λv4=>(some (true,())))
 (λv5=>(some v5)))))
theorem x_202:av_ (P:=prog) (cxC [] []) (.p .z (.p .z (.p (.p .z (.ls [.v 5 .int] [] [] 0 (.p .z (.p (.p (.q [] .z .z) .z) .z)))) .z))) 202 [(.list .int),(.list .int)] [.bool]=λx=>gt_ x.1 x.2.1:=by kernel_rfl
noncomputable def c_202:Con prog:=aw_ _ _ 202 [(.list .int),(.list .int)] [.bool] _ x_202
noncomputable def ej_ (a0:(List Int)) (a1:Int):Option (Int×Unit) :=
 ((ag_ (ρ:=(Int×Unit)) (λ(v0:(Int×(Int×Unit))) =>
 (cond (decide (v0.2.1<(a0.length:Int)))
 ((((at? a0 v0.2.1).bind λv1 =>
 (cond (v1==a1)
 (some ((w64 (v0.1+1)),()))
 (some (v0.1,()))))).bind λv2 =>
 (some (inl (v2.1,((w64 (v0.2.1+1)),())))))
 (some (inr (v0.1,()))))) (0,(0,()))).bind λv3 =>
 (some (v3.1,())))
theorem x_119:av_ (P:=prog) (cxC [] []) (.p .z (.p .z (.p (.p .z (.lp [.v 5 .int,.v 6 .int] [.v 5 .int] [] 0 (.p .z (.j0 [.v 5 .int] .z .z)))) .z))) 119 [(.list .int),.int] [.int]=λx=>ej_ x.1 x.2.1:=by kernel_rfl
noncomputable def c_119:Con prog:=aw_ _ _ 119 [(.list .int),.int] [.int] _ x_119
noncomputable def bm_ (a0:ai_) (a1:(List bg_)):Option (Bool×Unit) :=
 ((ag_ (ρ:=(Unit⊕(Bool×Unit))) (λ(v0:(Int×Unit)) =>
 (cond (decide (v0.1<(a1.length:Int)))
 ((at? a1 v0.1).bind λv1 =>
 ((at? a0.1 v1.1).bind λv2 =>
 ((at? a1 v0.1).bind λv3 =>
 ((at? a1 v0.1).bind λv4 =>
 (cond ((v2==v3.2.1)==v4.2.2)
 (some (inr (inr (false,()))))
 (some (inl ((w64 (v0.1+1)),()))))))))
 (some (inr (inl ()))))) (0,())).bind λv5 =>
 (cj_ v5 (λv6=>(some (true,())))
 (λv7=>(some v7))))
theorem x_68:av_ (P:=prog) (cxC [] []) (.p .z (.p (.p .z (.ls [.v 5 .int] [] [] 0 (.p .z (.p (.p (.q [] .z .z) .z) .z)))) .z)) 68 [ar_,(.list cb_)] [.bool]=λx=>bm_ x.1 x.2.1:=by kernel_rfl
noncomputable def c_68:Con prog:=aw_ _ _ 68 [ar_,(.list cb_)] [.bool] _ x_68
noncomputable def ft_ (a0:ai_):Option (ai_×Unit) :=
 ((push? (α:=Int) [] a0.1).bind λv0 =>
 ((push? (α:=Int) [] a0.2.1).bind λv1 =>
 ((push? (α:=Int) [] a0.2.2).bind λv2 =>
 (some ((v0,(v1,v2)),())))))
theorem x_125:av_ (P:=prog) (cxC [] []) .z 125 [ar_] [ar_]=λx=>ft_ x.1:=by kernel_rfl
noncomputable def c_125:Con prog:=aw_ _ _ 125 [ar_] [ar_] _ x_125
def an_94:An:=.z
noncomputable def cs_94 (f:List (Con prog)):List (Con prog):=f++[]
noncomputable def cl_94:List (Cpy prog):=[]
noncomputable def cx_94 (f:List (Con prog)):Cx prog:=cxC (cs_94 f) cl_94
noncomputable def g_94 (ce_:Int→Option ((List UInt8)×Unit)) (a0:Int):Option ((List UInt8)×Unit) :=
 ((sub? [48,49,50,51,52,53,54,55,56,57] (Int.tmod a0 10) (w64 ((Int.tmod a0 10)+1))).bind λv0 =>
 (cond (decide (a0<10))
 (some (v0,()))
 ((ce_ (w64 (Int.tdiv a0 10))).bind λv1 =>
 ((cat? v1.1 v0).bind λv2 =>
 (some (v2,()))))))
theorem xr_94:(λ(F:Int→Option ((List UInt8)×Unit)) (h:ck9 prog 94 [.int] [.str] (λx=>F x.1))=>av_ (cx_94 [cnv 94 [.int] [.str] _ h]) an_94 94 [.int] [.str])=λF h x=>g_94 F x.1:=by kernel_rfl
noncomputable def dr_:Nat→Int→Option ((List UInt8)×Unit)
 | 0=>λ_=>none
 | n+1=>g_94 (dr_ n)
theorem ok_94:∀ n,ck9 prog 94 [.int] [.str] (λx=>dr_ n x.1)
 | 0=>λ_ _ _ h=>(by cases h)
 | n+1=>λhG hI ha h=>(aw_ _ _ 94 [.int] [.str] _ (congrFun (congrFun xr_94 (dr_ n)) (ok_94 n))).ok hG hI ha h
noncomputable def ce_ (a0:Int):Option ((List UInt8)×Unit):=dr_ 20 a0
noncomputable def c_94:Con prog:=cnv 94 [.int] [.str] (λx=>ce_ x.1) (ok_94 20)
noncomputable def he_ (a0:ai_) (a1:Int):Option (Int×Unit) :=
 ((ag_ (ρ:=(Int×Unit)) (λ(v0:(Int×(Int×Unit))) =>
 (cond (decide (v0.2.1<(a0.2.1.length:Int)))
 ((((at? a0.2.1 v0.2.1).bind λv1 =>
 (cond (v1==(w64 ((-2) - a1)))
 (some ((w64 (v0.1+1)),()))
 (some (v0.1,()))))).bind λv2 =>
 (some (inl (v2.1,((w64 (v0.2.1+1)),())))))
 (some (inr (v0.1,()))))) (0,(0,()))).bind λv3 =>
 (some (v3.1,())))
theorem x_159:av_ (P:=prog) (cxC [] []) (.p .z (.p .z (.p (.p .z (.lp [.v 5 .int,.v 6 .int] [.v 5 .int] [] 0 (.p .z (.j0 [.v 5 .int] .z .z)))) .z))) 159 [ar_,.int] [.int]=λx=>he_ x.1 x.2.1:=by kernel_rfl
noncomputable def c_159:Con prog:=aw_ _ _ 159 [ar_,.int] [.int] _ x_159
noncomputable def js_ (a0:ad_) (a1:(List Int)):Option ((List ak_)×Unit) :=
 ((ag_ (ρ:=((List ak_)×Unit)) (λ(v0:((List ak_)×(Int×Unit))) =>
 (cond (decide (v0.2.1<(a1.length:Int)))
 ((at? a1 v0.2.1).bind λv1 =>
 ((at? a0.2.2.2.1 v1).bind λv2 =>
 ((push? (α:=ak_) v0.1 [v2.2.2.2.2]).bind λv3 =>
 (some (inl (v3,((w64 (v0.2.1+1)),())))))))
 (some (inr (v0.1,()))))) ([],(0,()))).bind λv4 =>
 (some (v4.1,())))
theorem x_204:av_ (P:=prog) (cxC [] []) (.p .z (.p .z (.p (.p .z (.lp [.r 5 aq_ 80,.v 6 .int] [.r 5 aq_ 80] [] 0 .z)) .z))) 204 [an_,(.list .int)] [(.list aq_)]=λx=>js_ x.1 x.2.1:=by kernel_rfl
noncomputable def c_204:Con prog:=aw_ _ _ 204 [an_,(.list .int)] [(.list aq_)] _ x_204
noncomputable def hp_ (a0:ad_) (a1:aa_) (a2:Int):Option ((List Int)×Unit) :=
 ((ag_ (ρ:=((List Int)×Unit)) (λ(v0:((List Int)×(Int×Unit))) =>
 (cond (decide (v0.2.1<(a0.2.2.2.1.length:Int)))
 ((((((at? a1.2 v0.2.1).bind λv1 =>
 (cond v1
 ((at? a0.2.2.2.1 v0.2.1).bind λv2 =>
 (some ((v2.2.2.1==a2),())))
 (some (false,()))))).bind λv3 =>
 (cond v3.1
 ((push? (α:=Int) v0.1 [v0.2.1]).bind λv4 =>
 (some (v4,())))
 (some (v0.1,()))))).bind λv5 =>
 (some (inl (v5.1,((w64 (v0.2.1+1)),())))))
 (some (inr (v0.1,()))))) ([],(0,()))).bind λv6 =>
 (some (v6.1,())))
theorem x_161:av_ (P:=prog) (cxC [] []) (.p .z (.p .z (.p (.p .z (.lp [.r 7 .int 3,.v 8 .int] [.r 7 .int 3] [] 0 (.p .z (.j0 [.r 7 .int 3] (.j0 [.v 30 .bool] .z .z) .z)))) .z))) 161 [an_,aj_,.int] [(.list .int)]=λx=>hp_ x.1 x.2.1 x.2.2.1:=by kernel_rfl
noncomputable def c_161:Con prog:=aw_ _ _ 161 [an_,aj_,.int] [(.list .int)] _ x_161
noncomputable def be_ (a0:Int) (a1:Int) (a2:Int):Option (Bool×Unit) :=
 (cond (decide (a1≤a0))
 (some ((decide (a0≤a2)),()))
 (some (false,())))
theorem x_165:av_ (P:=prog) (cxC [] []) .z 165 [.int,.int,.int] [.bool]=λx=>be_ x.1 x.2.1 x.2.2.1:=by kernel_rfl
noncomputable def ch9:Con prog:=aw_ _ _ 165 [.int,.int,.int] [.bool] _ x_165
noncomputable def du_ (a0:(List (List UInt8))) (a1:(List UInt8)):Option (Int×Unit) :=
 ((ag_ (ρ:=(Unit⊕(Int×Unit))) (λ(v0:(Int×Unit)) =>
 (cond (decide (v0.1<(a0.length:Int)))
 ((at? a0 v0.1).bind λv1 =>
 (cond (a1==v1)
 (some (inr (inr (v0.1,()))))
 (some (inl ((w64 (v0.1+1)),())))))
 (some (inr (inl ()))))) (0,())).bind λv2 =>
 (cj_ v2 (λv3=>(some ((-1),())))
 (λv4=>(some v4))))
theorem x_255:av_ (P:=prog) (cxC [] []) (.p .z (.p (.p .z (.ls [.v 8 .int] [] [] 0 .z)) .z)) 255 [(.list .str),.str] [.int]=λx=>du_ x.1 x.2.1:=by kernel_rfl
noncomputable def c_255:Con prog:=aw_ _ _ 255 [(.list .str),.str] [.int] _ x_255
noncomputable def vc_ (a0:(List UInt8)):Option ((List UInt8)×Unit) :=
 (some (a0,()))
theorem x_170:av_ (P:=prog) (cxC [] []) .z 170 [.str] [.str]=λx=>vc_ x.1:=by kernel_rfl
noncomputable def c_170:Con prog:=aw_ _ _ 170 [.str] [.str] _ x_170
noncomputable def vb_ (a0:gz_):Option ((List UInt8)×Unit) :=
 (some (a0.1,()))
theorem x_172:av_ (P:=prog) (cxC [] []) .z 172 [qt_] [.str]=λx=>vb_ x.1:=by kernel_rfl
noncomputable def c_172:Con prog:=aw_ _ _ 172 [qt_] [.str] _ x_172
noncomputable def yb_ (a0:kh_):Option ((List UInt8)×Unit) :=
 (some (a0.1,()))
theorem x_174:av_ (P:=prog) (cxC [] []) .z 174 [pj_] [.str]=λx=>yb_ x.1:=by kernel_rfl
noncomputable def c_174:Con prog:=aw_ _ _ 174 [pj_] [.str] _ x_174
noncomputable def zj_ (a0:cv_):Option ((List UInt8)×Unit) :=
 (some (a0.1,()))
theorem x_212:av_ (P:=prog) (cxC [] []) .z 212 [mh_] [.str]=λx=>zj_ x.1:=by kernel_rfl
noncomputable def c_212:Con prog:=aw_ _ _ 212 [mh_] [.str] _ x_212
noncomputable def hd_ (a0:ae_) (a1:(List Int)):Option (Bool×Unit) :=
 ((ag_ (ρ:=(Unit⊕(Bool×Unit))) (λ(v0:(Int×(Int×Unit))) =>
 (cond (decide (v0.2.1<(a1.length:Int)))
 ((at? a1 v0.2.1).bind λv1 =>
 (((cond (decide (v1≤v0.1))
 (some (true,()))
 (some ((decide ((a0.2.2.1.length:Int)≤v1)),())))).bind λv2 =>
 (cond v2.1
 (some (inr (inr (false,()))))
 (some (inl (v1,((w64 (v0.2.1+1)),())))))))
 (some (inr (inl ()))))) ((-1),(0,()))).bind λv3 =>
 (cj_ v3 (λv4=>(some (true,())))
 (λv5=>(some v5))))
theorem x_213:av_ (P:=prog) (cxC [] []) (.p .z (.p .z (.p (.p .z (.ls [.v 5 .int,.v 10 .int] [] [] 0 (.p .z (.p .z (.p (.p .z (.p (.j0 [.v 23 .bool] .z .z) .z)) .z))))) .z))) 213 [ao_,(.list .int)] [.bool]=λx=>hd_ x.1 x.2.1:=by kernel_rfl
noncomputable def c_213:Con prog:=aw_ _ _ 213 [ao_,(.list .int)] [.bool] _ x_213
noncomputable def et_ (a0:(List Int)) (a1:Int):Option (Int×Unit) :=
 ((ag_ (ρ:=(Unit⊕(Int×Unit))) (λ(v0:(Int×Unit)) =>
 (cond (decide (v0.1<(a0.length:Int)))
 ((at? a0 v0.1).bind λv1 =>
 (cond (a1==v1)
 (some (inr (inr (v0.1,()))))
 (some (inl ((w64 (v0.1+1)),())))))
 (some (inr (inl ()))))) (0,())).bind λv2 =>
 (cj_ v2 (λv3=>(some ((-1),())))
 (λv4=>(some v4))))
theorem x_186:av_ (P:=prog) (cxC [] []) (.p .z (.p (.p .z (.ls [.v 8 .int] [] [] 0 .z)) .z)) 186 [(.list .int),.int] [.int]=λx=>et_ x.1 x.2.1:=by kernel_rfl
noncomputable def c_186:Con prog:=aw_ _ _ 186 [(.list .int),.int] [.int] _ x_186
noncomputable def bv_ (a0:Int) (a1:Int) (a2:Int):Option (Bool×Unit) :=
 (cond (decide (a1≤a0))
 (some ((decide (a0≤a2)),()))
 (some (false,())))
theorem x_177:av_ (P:=prog) (cxC [] []) .z 177 [.int,.int,.int] [.bool]=λx=>bv_ x.1 x.2.1 x.2.2.1:=by kernel_rfl
noncomputable def cv7:Con prog:=aw_ _ _ 177 [.int,.int,.int] [.bool] _ x_177
noncomputable def ca_ (a0:Int) (a1:Int) (a2:Int):Option (Bool×Unit) :=
 (cond (decide (a1≤a0))
 (some ((decide (a0≤a2)),()))
 (some (false,())))
theorem x_136:av_ (P:=prog) (cxC [] []) .z 136 [.int,.int,.int] [.bool]=λx=>ca_ x.1 x.2.1 x.2.2.1:=by kernel_rfl
noncomputable def ci0:Con prog:=aw_ _ _ 136 [.int,.int,.int] [.bool] _ x_136
noncomputable def ng_ (a0:(List UInt8)):Option (Bool×Unit) :=
 (((cond (a0==[])
 (some ((a0==[]),()))
 (cond (a0==[97,116])
 (some ((a0==[97,116]),()))
 (cond (a0==[115,116,97,116,101,115])
 (some ((a0==[115,116,97,116,101,115]),()))
 (cond (a0==[115,116,97,114,116])
 (some ((a0==[115,116,97,114,116]),()))
 (cond (a0==[103,111,110,101])
 (some ((a0==[103,111,110,101]),()))
 (cond (a0==[105,102])
 (some ((a0==[105,102]),()))
 (cond (a0==[108,111,99,107])
 (some ((a0==[108,111,99,107]),()))
 (cond (a0==[119,105,116,104])
 (some ((a0==[119,105,116,104]),()))
 (cond (a0==[115,101,116,115])
 (some ((a0==[115,101,116,115]),()))
 (cond (a0==[115,112,101,110,100,115])
 (some ((a0==[115,112,101,110,100,115]),()))
 (some ((a0==[98,114,105,110,103,115]),()))))))))))))).bind λv0 =>
 (cond v0.1
 (some (false,()))
 ((ag_ (ρ:=(Unit⊕(Bool×Unit))) (λ(v1:(Int×Unit)) =>
 (cond (decide (v1.1<(a0.length:Int)))
 ((((at? a0 v1.1).bind λv2 =>
 (cond (decide (((UInt8.toNat v2):Int)<97))
 (some (true,()))
 ((at? a0 v1.1).bind λv3 =>
 (some ((decide (122<((UInt8.toNat v3):Int))),())))))).bind λv4 =>
 (cond v4.1
 (some (inr (inr (false,()))))
 (some (inl ((w64 (v1.1+1)),())))))
 (some (inr (inl ()))))) (0,())).bind λv5 =>
 (cj_ v5 (λv6=>(some (true,())))
 (λv7=>(some v7))))))
theorem x_181:av_ (P:=prog) (cxC [] []) (.p .z (.p (.p .z (.j0 [.v 5 .bool] .z .z)) (.p (.p .z (.ls [.v 19 .int] [] [] 1 (.p .z (.p .z (.p (.p .z (.j0 [.v 31 .bool] .z .z)) .z))))) .z))) 181 [.str] [.bool]=λx=>ng_ x.1:=by kernel_rfl
noncomputable def c_181:Con prog:=aw_ _ _ 181 [.str] [.bool] _ x_181
noncomputable def kv_ (a0:ak_):Option (Bool×Unit) :=
 (cond (a0.1==0)
 (cond (a0.2.1==0)
 (cond (a0.2.2.1==0)
 (cond (a0.2.2.2.1==0)
 (cond (a0.2.2.2.2.1==0)
 (cond ((a0.2.2.2.2.2.1.length:Int)==0)
 (some ((!a0.2.2.2.2.2.2),()))
 (some (false,())))
 (some (false,())))
 (some (false,())))
 (some (false,())))
 (some (false,())))
 (some (false,())))
theorem x_182:av_ (P:=prog) (cxC [] []) .z 182 [aq_] [.bool]=λx=>kv_ x.1:=by kernel_rfl
noncomputable def c_182:Con prog:=aw_ _ _ 182 [aq_] [.bool] _ x_182
noncomputable def im_ (a0:(List Int)) (a1:(List Int)):Option (Int×Int×Unit) :=
 ((ag_ (ρ:=(Int×((List Int)×((List Int)×Unit)))) (λ(v0:(Int×(Int×((List Int)×((List Int)×Unit))))) =>
 (cond (decide (v0.2.1<(a0.length:Int)))
 ((at? a0 v0.2.1).bind λv1 =>
 ((((at? a1 v0.2.1).bind λv2 =>
 (cond (v1==v2)
 (some ((w64 (v0.1+1)),()))
 (some (v0.1,()))))).bind λv3 =>
 (cond (decide (v1<(10:Int)))
 ((at? v0.2.2.1 v1).bind λv4 =>
 ((at? v0.2.2.1 v1).bind λv5 =>
 (cond (decide (v1<(10:Int)))
 ((at? v0.2.2.1 v1).bind λv6 =>
 ((at? v0.2.2.1 v1).bind λv7 =>
 ((at? a1 v0.2.1).bind λv8 =>
 (cond (decide (v8<(10:Int)))
 ((at? v0.2.2.2.1 v8).bind λv9 =>
 ((at? v0.2.2.2.1 v8).bind λv10 =>
 (cond (decide (v8<(10:Int)))
 ((at? v0.2.2.2.1 v8).bind λv11 =>
 ((at? v0.2.2.2.1 v8).bind λv12 =>
 (some (inl (v3.1,((w64 (v0.2.1+1)),((v0.2.2.1.set v1.toNat (w64 (v5+1))),((v0.2.2.2.1.set v8.toNat (w64 (v10+1))),()))))))))
 none)))
 none))))
 none)))
 none)))
 (some (inr (v0.1,(v0.2.2.1,(v0.2.2.2.1,()))))))) (0,(0,([0,0,0,0,0,0,0,0,0,0],([0,0,0,0,0,0,0,0,0,0],()))))).bind λv13 =>
 ((ag_ (ρ:=(Int×Unit)) (λ(v14:(Int×(Int×Unit))) =>
 (cond (decide (v14.2.1<10))
 (cond (decide (v14.2.1<(10:Int)))
 ((at? v13.2.1 v14.2.1).bind λv15 =>
 ((at? v13.2.1 v14.2.1).bind λv16 =>
 (cond (decide (v14.2.1<(10:Int)))
 ((at? v13.2.2.1 v14.2.1).bind λv17 =>
 ((at? v13.2.2.1 v14.2.1).bind λv18 =>
 (some (inl ((w64 (v14.1+(zf_ v16 v18))),((w64 (v14.2.1+1)),()))))))
 none)))
 none)
 (some (inr (v14.1,()))))) (0,(0,()))).bind λv19 =>
 (some (v13.1,((w64 (v19.1 - v13.1)),())))))
theorem x_259:av_ (P:=prog) (cxC [] []) (.p .z (.p .z (.p (.p .z (.lp [.v 4 .int,.v 13 .int] [.v 4 .int] [.o (.s 6) .int,.o (.s 7) .int] 0 (.p .z (.p .z (.p (.p .z (.j0 [.v 4 .int] .z .z)) .z))))) (.p (.p .z (.lp [.v 5 .int,.v 40 .int] [.v 5 .int] [] 2 .z)) .z)))) 259 [(.list .int),(.list .int)] [.int,.int]=λx=>im_ x.1 x.2.1:=by kernel_rfl
noncomputable def c_259:Con prog:=aw_ _ _ 259 [(.list .int),(.list .int)] [.int,.int] _ x_259
noncomputable def bb_ (a0:hk_) (a1:(List bg_)):Option (Bool×Unit) :=
 ((((ag_ (ρ:=(Unit⊕(Bool×Unit))) (λ(v0:(Int×Unit)) =>
 (cond (decide (v0.1<(a1.length:Int)))
 ((at? a1 v0.1).bind λv1 =>
 ((at? a0.2.1 v1.1).bind λv2 =>
 (cond ((v2==v1.2.1)==v1.2.2)
 (some (inr (inr ((decide (0≤v0.1)),()))))
 (some (inl ((w64 (v0.1+1)),()))))))
 (some (inr (inl ()))))) (0,())).bind λv3 =>
 (cj_ v3 (λv4=>(some ((decide (0≤(-1))),())))
 (λv5=>(some v5))))).bind λv6 =>
 (some ((!v6.1),())))
theorem x_130:av_ (P:=prog) (cxI (λk=>cond (Nat.beq k 166) (.p .z (.j0 [.v 4 .bool] .z .z)) (cond (Nat.beq k 167) (.p .z (.p (.q [] .z .z) .z)) (cond (Nat.beq k 205) (.p .z (.p (.p .z (.ls [.v 8 .int] [] [] 0 .z)) .z)) (.z)))) (λk=>false) (cxC [] []) 4) .z 130 [(.ref fa_),(.list cb_)] [.bool]=λx=>bb_ x.1 x.2.1:=by kernel_rfl
noncomputable def ci1:Con prog:=aw_ _ _ 130 [(.ref fa_),(.list cb_)] [.bool] _ x_130
noncomputable def lp_ (a0:aa_):Option ((List UInt8)×Unit) :=
 ((ag_ (ρ:=((List UInt8)×Unit)) (λ(v0:((List UInt8)×(Int×Unit))) =>
 (cond (decide (v0.2.1<(a0.2.length:Int)))
 ((at? a0.2 v0.2.1).bind λv1 =>
 ((dz_ v1).bind λv2 =>
 ((cat? v2.1 [32]).bind λv3 =>
 ((cat? v0.1 v3).bind λv4 =>
 (some (inl (v4,((w64 (v0.2.1+1)),()))))))))
 (some (inr (v0.1,()))))) ([],(0,()))).bind λv5 =>
 (some (v5.1,())))
theorem x_143:av_ (P:=prog) (cxC [c_190] []) (.p .z (.p .z (.p (.p .z (.lp [.v 3 .str,.v 9 .int] [.v 3 .str] [] 0 .z)) .z))) 143 [aj_] [.str]=λx=>lp_ x.1:=by kernel_rfl
noncomputable def c_143:Con prog:=aw_ _ _ 143 [aj_] [.str] _ x_143
noncomputable def df_ (a0:hk_) (a1:Int):Option (Int×Unit) :=
 ((ag_ (ρ:=(Int×Unit)) (λ(v0:(Int×(Int×Unit))) =>
 (cond (decide (v0.2.1<(a0.2.2.1.length:Int)))
 ((((at? a0.2.2.1 v0.2.1).bind λv1 =>
 (cond (v1==(w64 ((-2) - a1)))
 (some ((w64 (v0.1+1)),()))
 (some (v0.1,()))))).bind λv2 =>
 (some (inl (v2.1,((w64 (v0.2.1+1)),())))))
 (some (inr (v0.1,()))))) (0,(0,()))).bind λv3 =>
 (some (v3.1,())))
theorem x_196:av_ (P:=prog) (cxC [] []) (.p .z (.p (.p .z (.lp [.v 4 .int,.v 13 .int] [.v 4 .int] [] 0 (.p .z (.p .z (.j0 [.v 4 .int] .z .z))))) .z)) 196 [(.ref fa_),.int] [.int]=λx=>df_ x.1 x.2.1:=by kernel_rfl
noncomputable def c_196:Con prog:=aw_ _ _ 196 [(.ref fa_),.int] [.int] _ x_196
noncomputable def ai5 (a0:ab_):Option (Bool×Unit) :=
 (some (true,()))
theorem x_64:av_ (P:=prog) (cxC [] []) .z 64 [ch_] [.bool]=λx=>ai5 x.1:=by kernel_rfl
noncomputable def c_64:Con prog:=aw_ _ _ 64 [ch_] [.bool] _ x_64
noncomputable def iw_ (a0:ab_) (a1:Int):Option (Bool×Unit) :=
 (cond (a0.1.2.1==4)
 (some ((a0.1.2.2==a1),()))
 (some (false,())))
theorem x_44:av_ (P:=prog) (cxC [] []) .z 44 [ch_,.int] [.bool]=λx=>iw_ x.1 x.2.1:=by kernel_rfl
noncomputable def c_44:Con prog:=aw_ _ _ 44 [ch_,.int] [.bool] _ x_44
noncomputable def yd_  : Option (ae_×Unit) :=
 (some (([[104,97,108,108],[118,97,117,108,116]],([([98,111,120],(0,(2,0))),([100,111,111,114],(0,(2,0)))],([([107,101,121],(0,[(0,(1,false))]))],([(0,(1,[(1,(1,false))]))],([([111,112,101,110],(0,(0,([],([],([(0,1)],([],[]))))))),([116,117,114,110],(0,((-1),([0],([],([(1,1)],([0],[])))))))],([],(1,[]))))))),()))
theorem x_62:av_ (P:=prog) (cxC [] []) .z 62 [] [ao_]=λx=>yd_:=by kernel_rfl
noncomputable def c_62:Con prog:=aw_ _ _ 62 [] [ao_] _ x_62
noncomputable def cm_ (a0:(List bg_)):Option ((List bg_)×Unit) :=
 ((push? (α:=bg_) [] a0).bind λv0 =>
 (some (v0,())))
theorem x_65:av_ (P:=prog) (cxC [] []) .z 65 [(.list cb_)] [(.list cb_)]=λx=>cm_ x.1:=by kernel_rfl
noncomputable def c_65:Con prog:=aw_ _ _ 65 [(.list cb_)] [(.list cb_)] _ x_65
noncomputable def dq_ (a0:(List Int)):Option ((List Int)×Unit) :=
 ((push? (α:=Int) [] a0).bind λv0 =>
 (some (v0,())))
theorem x_66:av_ (P:=prog) (cxC [] []) .z 66 [(.list .int)] [(.list .int)]=λx=>dq_ x.1:=by kernel_rfl
noncomputable def c_66:Con prog:=aw_ _ _ 66 [(.list .int)] [(.list .int)] _ x_66
noncomputable def gs_ (a0:ak_):Option (ak_×Unit) :=
 ((push? (α:=Int) [] a0.2.2.2.2.2.1).bind λv0 =>
 (some ((a0.1,(a0.2.1,(a0.2.2.1,(a0.2.2.2.1,(a0.2.2.2.2.1,(v0,a0.2.2.2.2.2.2)))))),())))
theorem x_30:av_ (P:=prog) (cxC [] []) .z 30 [aq_] [aq_]=λx=>gs_ x.1:=by kernel_rfl
noncomputable def c_30:Con prog:=aw_ _ _ 30 [aq_] [aq_] _ x_30
noncomputable def fx_ (a0:(List af_)) (a1:(List af_)):Option (Bool×Unit) :=
 (cond ((a0.length:Int) != (a1.length:Int))
 (some (false,()))
 ((ag_ (ρ:=(Unit⊕(Bool×Unit))) (λ(v0:(Int×Unit)) =>
 (cond (decide (v0.1<(a0.length:Int)))
 ((at? a0 v0.1).bind λv1 =>
 ((at? a1 v0.1).bind λv2 =>
 (cond (!((v1.1==v2.1)&&((v1.2.1==v2.2.1)&&(v1.2.2==v2.2.2))))
 (some (inr (inr (false,()))))
 (some (inl ((w64 (v0.1+1)),()))))))
 (some (inr (inl ()))))) (0,())).bind λv3 =>
 (cj_ v3 (λv4=>(some (true,())))
 (λv5=>(some v5)))))
theorem x_14:av_ (P:=prog) (cxC [] []) (.p .z (.p .z (.p (.p .z (.ls [.v 5 .int] [] [] 0 (.p .z (.p (.p (.q [] .z .z) .z) .z)))) .z))) 14 [(.list ap_),(.list ap_)] [.bool]=λx=>fx_ x.1 x.2.1:=by kernel_rfl
noncomputable def c_14:Con prog:=aw_ _ _ 14 [(.list ap_),(.list ap_)] [.bool] _ x_14
end
section
set_option maxRecDepth 100000
set_option maxHeartbeats 0
noncomputable def kx_ (a0:ad_):Option (Bool×Unit) :=
 ((((nh_ a0.1).bind λv0 =>
 (cond v0.1
 (some (true,()))
 (cond (decide (10<(a0.2.1.length:Int)))
 (some (true,()))
 (cond (decide (10<(a0.2.2.1.length:Int)))
 (some (true,()))
 (some ((decide (20<(a0.2.2.2.1.length:Int))),()))))))).bind λv1 =>
 (cond v1.1
 (some (true,()))
 ((ag_ (ρ:=(Unit⊕(Bool×Unit))) (λ(v2:(Int×Unit)) =>
 (cond (decide (v2.1<(a0.2.1.length:Int)))
 ((((at? a0.2.1 v2.1).bind λv3 =>
 (cond (decide (3<v3.1))
 ((at? a0.2.1 v2.1).bind λv4 =>
 (some ((decide (5<v4.2)),())))
 (some (false,()))))).bind λv5 =>
 (cond v5.1
 (some (inr (inr (true,()))))
 (some (inl ((w64 (v2.1+1)),())))))
 (some (inr (inl ()))))) (0,())).bind λv6 =>
 (cj_ v6 (λv7=>((ag_ (ρ:=(Unit⊕(Bool×Unit))) (λ(v9:(Int×Unit)) =>
 (cond (decide (v9.1<(a0.2.2.1.length:Int)))
 ((at? a0.2.2.1 v9.1).bind λv10 =>
 (cond (decide (10<(v10.length:Int)))
 (some (inr (inr (true,()))))
 (some (inl ((w64 (v9.1+1)),())))))
 (some (inr (inl ()))))) (0,())).bind λv11 =>
 (cj_ v11 (λv12=>((ag_ (ρ:=(Unit⊕(Bool×Unit))) (λ(v14:(Int×Unit)) =>
 (cond (decide (v14.1<(a0.2.2.2.1.length:Int)))
 ((at? a0.2.2.2.1 v14.1).bind λv15 =>
 (((cond (decide (100<(v15.1.length:Int)))
 (some (true,()))
 (cond (decide (20<(v15.2.2.2.1.length:Int)))
 (some (true,()))
 (some ((decide (10<(v15.2.2.2.2.2.2.2.2.2.1.length:Int))),()))))).bind λv16 =>
 (cond v16.1
 (some (inr (inr (true,()))))
 (some (inl ((w64 (v14.1+1)),()))))))
 (some (inr (inl ()))))) (0,())).bind λv17 =>
 (cj_ v17 (λv18=>(some (false,())))
 (λv19=>(some v19)))))
 (λv13=>(some v13)))))
 (λv8=>(some v8))))))
theorem x_23:av_ (P:=prog) (cxC [c_51] []) (.p .z (.p (.j0 [.v 27 .bool] .z .z) (.p (.p .z (.ls [.v 3 .int] [] [] 0 (.p .z (.p (.j0 [.v 50 .bool] .z .z) .z)))) (.p (.p .z (.ls [.v 4 .int] [] [] 2 .z)) (.p (.p .z (.ls [.v 5 .int] [] [] 4 (.p .z (.p (.p .z (.j0 [.v 93 .bool] .z .z)) .z)))) .z))))) 23 [an_] [.bool]=λx=>kx_ x.1:=by kernel_rfl
noncomputable def c_23:Con prog:=aw_ _ _ 23 [an_] [.bool] _ x_23
noncomputable def gw_ (a0:ae_) (a1:Int) (a2:Int):Option (Bool×Unit) :=
 ((bs_ a1 0 (w64 ((a0.2.1.length:Int) - 1))).bind λv0 =>
 (cond v0.1
 ((at? a0.2.1 a1).bind λv1 =>
 ((bs_ a2 0 (w64 (v1.2.2.1 - 1))).bind λv2 =>
 (some (v2.1,()))))
 (some (false,()))))
theorem x_86:av_ (P:=prog) (cxC [c_84] []) .z 86 [ao_,.int,.int] [.bool]=λx=>gw_ x.1 x.2.1 x.2.2.1:=by kernel_rfl
noncomputable def c_86:Con prog:=aw_ _ _ 86 [ao_,.int,.int] [.bool] _ x_86
noncomputable def hr_ (a0:(List UInt8)):Option (Bool×Unit) :=
 ((ag_ (ρ:=(Unit⊕(Bool×Unit))) (λ(v0:(Int×Unit)) =>
 (cond (decide (v0.1<(a0.length:Int)))
 ((((at? a0 v0.1).bind λv1 =>
 (cond (decide (((UInt8.toNat v1):Int)<97))
 (some (true,()))
 ((at? a0 v0.1).bind λv2 =>
 (some ((decide (122<((UInt8.toNat v2):Int))),())))))).bind λv3 =>
 (cond v3.1
 (some (inr (inr (false,()))))
 (some (inl ((w64 (v0.1+1)),())))))
 (some (inr (inl ()))))) (0,())).bind λv4 =>
 (cj_ v4 (λv5=>((ag_ (ρ:=(Unit⊕(Bool×Unit))) (λ(v7:(Int×Unit)) =>
 (cond (decide (v7.1<(([[97,116],[115,116,97,116,101,115],[115,116,97,114,116],[103,111,110,101],[105,102],[108,111,99,107],[119,105,116,104],[115,101,116,115],[115,112,101,110,100,115],[98,114,105,110,103,115]]).length:Int)))
 ((at? [[97,116],[115,116,97,116,101,115],[115,116,97,114,116],[103,111,110,101],[105,102],[108,111,99,107],[119,105,116,104],[115,101,116,115],[115,112,101,110,100,115],[98,114,105,110,103,115]] v7.1).bind λv8 =>
 (cond (v8==a0)
 (some (inr (inr (false,()))))
 (some (inl ((w64 (v7.1+1)),())))))
 (some (inr (inl ()))))) (0,())).bind λv9 =>
 (cj_ v9 (λv10=>(some ((!(a0==[])),())))
 (λv11=>(some v11)))))
 (λv6=>(some v6))))
theorem x_115:av_ (P:=prog) (cxC [c_156] []) (.p .z (.p (.p .z (.ls [.v 3 .int] [] [] 0 (.p .z (.p (.j0 [.v 21 .bool] .z .z) .z)))) (.p .z (.p (.p .z (.ls [.v 5 .int] [] [] 2 .z)) .z)))) 115 [.str] [.bool]=λx=>hr_ x.1:=by kernel_rfl
noncomputable def c_115:Con prog:=aw_ _ _ 115 [.str] [.bool] _ x_115
noncomputable def ct_ (a0:ae_) (a1:Int):Option (Bool×Unit) :=
 ((bs_ a1 0 (w64 ((a0.1.length:Int) - 1))).bind λv0 =>
 (some (v0.1,())))
theorem x_83:av_ (P:=prog) (cxC [c_84] []) .z 83 [ao_,.int] [.bool]=λx=>ct_ x.1 x.2.1:=by kernel_rfl
noncomputable def c_83:Con prog:=aw_ _ _ 83 [ao_,.int] [.bool] _ x_83
noncomputable def dg_ (a0:ae_) (a1:(List Int)):Option (Bool×Unit) :=
 ((ag_ (ρ:=(Unit⊕(Bool×Unit))) (λ(v0:(Int×Unit)) =>
 (cond (decide (v0.1<(a1.length:Int)))
 ((((at? a1 v0.1).bind λv1 =>
 ((bs_ v1 0 (w64 ((a0.2.2.1.length:Int) - 1))).bind λv2 =>
 (cond (!v2.1)
 (some (true,()))
 (cond (decide (0<v0.1))
 ((at? a1 v0.1).bind λv3 =>
 ((at? a1 (w64 (v0.1 - 1))).bind λv4 =>
 (some ((decide (v3≤v4)),()))))
 (some (false,()))))))).bind λv5 =>
 (cond v5.1
 (some (inr (inr (false,()))))
 (some (inl ((w64 (v0.1+1)),())))))
 (some (inr (inl ()))))) (0,())).bind λv6 =>
 (cj_ v6 (λv7=>(some (true,())))
 (λv8=>(some v8))))
theorem x_116:av_ (P:=prog) (cxC [c_84] []) (.p .z (.p (.p .z (.ls [.v 5 .int] [] [] 0 (.p .z (.p (.j0 [.v 37 .bool] (.q [] .z .z) .z) .z)))) .z)) 116 [ao_,(.list .int)] [.bool]=λx=>dg_ x.1 x.2.1:=by kernel_rfl
noncomputable def c_116:Con prog:=aw_ _ _ 116 [ao_,(.list .int)] [.bool] _ x_116
noncomputable def ek_ (a0:ac_):Option (Int×Unit) :=
 ((((bk_ a0.1 1 4).bind λv0 =>
 (cond (!v0.1)
 (some (true,()))
 ((bk_ a0.2 2 10).bind λv1 =>
 (some ((!v1.1),())))))).bind λv2 =>
 (cond v2.1
 (some (10,()))
 (some (0,()))))
theorem x_53:av_ (P:=prog) (cxC [c_87] []) (.p .z (.p (.j0 [.v 12 .bool] .z .z) .z)) 53 [al_] [.int]=λx=>ek_ x.1:=by kernel_rfl
noncomputable def c_53:Con prog:=aw_ _ _ 53 [al_] [.int] _ x_53
noncomputable def gn_ (a0:ac_) (a1:(List Int)):Option (Bool×Unit) :=
 (cond ((a1.length:Int) != a0.1)
 (some (false,()))
 ((ag_ (ρ:=(Unit⊕(Bool×Unit))) (λ(v0:(Int×Unit)) =>
 (cond (decide (v0.1<(a1.length:Int)))
 ((at? a1 v0.1).bind λv1 =>
 ((bk_ v1 0 (w64 (a0.2 - 1))).bind λv2 =>
 (cond (!v2.1)
 (some (inr (inr (false,()))))
 (some (inl ((w64 (v0.1+1)),()))))))
 (some (inr (inl ()))))) (0,())).bind λv3 =>
 (cj_ v3 (λv4=>(some (true,())))
 (λv5=>(some v5)))))
theorem x_88:av_ (P:=prog) (cxC [c_87] []) (.p .z (.p .z (.p (.p .z (.ls [.v 5 .int] [] [] 0 (.p .z (.p (.p (.q [] .z .z) .z) .z)))) .z))) 88 [al_,(.list .int)] [.bool]=λx=>gn_ x.1 x.2.1:=by kernel_rfl
noncomputable def c_88:Con prog:=aw_ _ _ 88 [al_,(.list .int)] [.bool] _ x_88
noncomputable def je_ (a0:ak_) (a1:ak_):Option (Bool×Unit) :=
 (cond (a0.1==a1.1)
 (cond (a0.2.1==a1.2.1)
 (cond (a0.2.2.1==a1.2.2.1)
 (cond (a0.2.2.2.1==a1.2.2.2.1)
 (cond (a0.2.2.2.2.1==a1.2.2.2.2.1)
 (cond (a0.2.2.2.2.2.2==a1.2.2.2.2.2.2)
 ((gt_ a0.2.2.2.2.2.1 a1.2.2.2.2.2.1).bind λv0 =>
 (some (v0.1,())))
 (some (false,())))
 (some (false,())))
 (some (false,())))
 (some (false,())))
 (some (false,())))
 (some (false,())))
theorem x_157:av_ (P:=prog) (cxC [c_202] []) .z 157 [aq_,aq_] [.bool]=λx=>je_ x.1 x.2.1:=by kernel_rfl
noncomputable def c_157:Con prog:=aw_ _ _ 157 [aq_,aq_] [.bool] _ x_157
noncomputable def il_ (a0:(List Int)) (a1:(List Int)):Option (Int×Int×Unit) :=
 ((ag_ (ρ:=(Int×Unit)) (λ(v0:(Int×(Int×Unit))) =>
 (cond (decide (v0.2.1<(a0.length:Int)))
 ((((at? a0 v0.2.1).bind λv1 =>
 ((at? a1 v0.2.1).bind λv2 =>
 (cond (v1==v2)
 (some ((w64 (v0.1+1)),()))
 (some (v0.1,())))))).bind λv3 =>
 (some (inl (v3.1,((w64 (v0.2.1+1)),())))))
 (some (inr (v0.1,()))))) (0,(0,()))).bind λv4 =>
 ((ag_ (ρ:=(Int×Unit)) (λ(v5:(Int×(Int×Unit))) =>
 (cond (decide (v5.2.1<10))
 ((ej_ a0 v5.2.1).bind λv6 =>
 ((ej_ a1 v5.2.1).bind λv7 =>
 (some (inl ((w64 (v5.1+(zf_ v6.1 v7.1))),((w64 (v5.2.1+1)),()))))))
 (some (inr (v5.1,()))))) (0,(0,()))).bind λv8 =>
 (some (v4.1,((w64 (v8.1 - v4.1)),())))))
theorem x_120:av_ (P:=prog) (cxC [c_119] []) (.p .z (.p .z (.p (.p .z (.lp [.v 6 .int,.v 8 .int] [.v 6 .int] [] 0 (.p .z (.j0 [.v 6 .int] (.p (.q [] .z .z) .z) .z)))) (.p (.p .z (.lp [.v 7 .int,.v 9 .int] [.v 7 .int] [] 2 .z)) .z)))) 120 [(.list .int),(.list .int)] [.int,.int]=λx=>il_ x.1 x.2.1:=by kernel_rfl
noncomputable def c_120:Con prog:=aw_ _ _ 120 [(.list .int),(.list .int)] [.int,.int] _ x_120
noncomputable def gl_ (a0:ae_) (a1:ai_):Option (ai_×Bool×Unit) :=
 ((push? (α:=Int) [] a1.1).bind λv0 =>
 ((push? (α:=Int) [] a1.2.1).bind λv1 =>
 ((push? (α:=Int) [] a1.2.2).bind λv2 =>
 ((ag_ (ρ:=(((List Int)×(((List Int)×((List Int)×((List Int)×Unit)))×Unit))⊕(ai_×(Bool×Unit)))) (λ(v3:(Int×((List Int)×(((List Int)×((List Int)×((List Int)×Unit)))×Unit)))) =>
 (cond (decide (v3.1≤100))
 ((ag_ (ρ:=(Int×Unit)) (λ(v4:(Int×(Int×Unit))) =>
 (((cond (decide (v4.2.1<(a0.2.2.2.2.2.1.length:Int)))
 (some ((decide (v4.1<0)),()))
 (some (false,())))).bind λv5 =>
 (cond v5.1
 ((((at? a0.2.2.2.2.2.1 v4.2.1).bind λv6 =>
 ((((bm_ (v3.2.1,(v1,v2)) v6.1).bind λv7 =>
 (cond v7.1
 ((at? v3.2.1 v6.2.1).bind λv8 =>
 ((at? v3.2.1 v6.2.1).bind λv9 =>
 (some ((v9 != v6.2.2),()))))
 (some (false,()))))).bind λv10 =>
 (cond v10.1
 (some (v4.2.1,()))
 (some (v4.1,())))))).bind λv11 =>
 (some (inl (v11.1,((w64 (v4.2.1+1)),())))))
 (some (inr (v4.1,())))))) ((-1),(0,()))).bind λv12 =>
 (cond (decide (v12.1<0))
 (some (inr (inr ((v3.2.1,(v1,v2)),(true,())))))
 ((at? a0.2.2.2.2.2.1 v12.1).bind λv13 =>
 ((at? a0.2.2.2.2.2.1 v12.1).bind λv14 =>
 ((at? v3.2.1 v13.2.1).bind λv15 =>
 ((at? v3.2.1 v13.2.1).bind λv16 =>
 (some (inl ((w64 (v3.1+1)),((v3.2.1.set v13.2.1.toNat v14.2.2),((v3.2.2.1.1,(v3.2.2.1.2.1,(v3.2.2.1.2.2.1,()))),())))))))))))
 (some (inr (inl (v3.2.1,((v3.2.2.1.1,(v3.2.2.1.2.1,(v3.2.2.1.2.2.1,()))),()))))))) (0,(v0,(([],([],([],()))),())))).bind λv17 =>
 (cj_ v17 (λv18=>(some (([],([],[])),(false,()))))
 (λv19=>(some v19)))))))
theorem x_126:av_ (P:=prog) (cxI (λk=>.z) (λk=>Nat.beq k 68||false) (cxC [c_68] []) 2) (.p .z (.p .z (.p (.p .z (.ls [.v 7 .int] [] [.o (.c (.s 6) 0) .int,.b (.s 4) [.row .int 3,.row .int 3,.row .int 3]] 0 (.p .z (.p (.p .z (.p (.p .z (.lp [.v 8 .int,.v 9 .int] [.v 8 .int] [] 2 (.p (.j0 [.v 25 .bool] .z .z) (.j0 [.v 8 .int] (.p .z (.j0 [.v 49 .bool] .z .z)) .z)))) .z)) .z)))) .z))) 126 [ao_,ar_] [ar_,.bool]=λx=>gl_ x.1 x.2.1:=by kernel_rfl
noncomputable def c_126:Con prog:=aw_ _ _ 126 [ao_,ar_] [ar_,.bool] _ x_126
noncomputable def ix_ (a0:ad_) (a1:aa_):Option (aa_×Unit) :=
 ((ft_ a1.1).bind λv0 =>
 ((push? (α:=Bool) [] a1.2).bind λv1 =>
 ((ag_ (ρ:=((List Bool)×Unit)) (λ(v2:(Int×((List Bool)×Unit))) =>
 (cond (decide (v2.1<(a0.2.2.2.1.length:Int)))
 ((at? a0.2.2.2.1 v2.1).bind λv3 =>
 ((ag_ (ρ:=((List Bool)×Unit)) (λ(v4:(Int×((List Bool)×Unit))) =>
 (cond (decide (v4.1<(v0.1.2.2.length:Int)))
 ((((((at? v0.1.2.2 v4.1).bind λv5 =>
 (cond (v5==v3.2.1)
 ((bm_ v0.1 v3.2.2.2.1).bind λv6 =>
 (some (v6.1,())))
 (some (false,()))))).bind λv7 =>
 (cond v7.1
 ((at? v4.2.1 v2.1).bind λv8 =>
 ((at? v4.2.1 v2.1).bind λv9 =>
 (some ((v4.2.1.set v2.1.toNat true),()))))
 (some (v4.2.1,()))))).bind λv10 =>
 (some (inl ((w64 (v4.1+1)),(v10.1,())))))
 (some (inr (v4.2.1,()))))) (0,(v2.2.1,()))).bind λv11 =>
 (some (inl ((w64 (v2.1+1)),(v11.1,()))))))
 (some (inr (v2.2.1,()))))) (0,(v1,()))).bind λv12 =>
 (some ((v0.1,v12.1),())))))
theorem x_93:av_ (P:=prog) (cxI (λk=>.z) (λk=>Nat.beq k 68||Nat.beq k 125||false) (cxC [c_68,c_125] []) 2) (.p .z (.p .z (.p (.p .z (.lp [.v 6 .int] [] [.o (.c (.s 5) 3) .bool] 0 (.p .z (.p (.p .z (.p .z (.lp [.v 8 .int] [] [.o (.c (.s 5) 3) .bool] 2 (.p .z (.j0 [.o (.c (.s 5) 3) .bool] (.j0 [.v 46 .bool] .z .z) .z))))) .z)))) .z))) 93 [an_,aj_] [aj_]=λx=>ix_ x.1 x.2.1:=by kernel_rfl
noncomputable def c_93:Con prog:=aw_ _ _ 93 [an_,aj_] [aj_] _ x_93
noncomputable def ih_ (a0:aa_):Option ((List UInt8)×Unit) :=
 ((ag_ (ρ:=((List UInt8)×Unit)) (λ(v0:((List UInt8)×(Int×Unit))) =>
 (cond (decide (v0.2.1<(a0.1.1.length:Int)))
 ((at? a0.1.1 v0.2.1).bind λv1 =>
 ((ce_ v1).bind λv2 =>
 ((cat? v0.1 v2.1).bind λv3 =>
 ((cat? v3 [32]).bind λv4 =>
 (some (inl (v4,((w64 (v0.2.1+1)),()))))))))
 (some (inr (v0.1,()))))) ([],(0,()))).bind λv5 =>
 ((ag_ (ρ:=((List UInt8)×Unit)) (λ(v6:((List UInt8)×(Int×Unit))) =>
 (cond (decide (v6.2.1<(a0.1.2.1.length:Int)))
 ((at? a0.1.2.1 v6.2.1).bind λv7 =>
 ((ce_ (w64 (v7+10))).bind λv8 =>
 ((cat? v6.1 v8.1).bind λv9 =>
 ((cat? v9 [32]).bind λv10 =>
 (some (inl (v10,((w64 (v6.2.1+1)),()))))))))
 (some (inr (v6.1,()))))) (v5.1,(0,()))).bind λv11 =>
 ((ag_ (ρ:=((List UInt8)×Unit)) (λ(v12:((List UInt8)×(Int×Unit))) =>
 (cond (decide (v12.2.1<(a0.1.2.2.length:Int)))
 ((at? a0.1.2.2 v12.2.1).bind λv13 =>
 ((ce_ v13).bind λv14 =>
 ((cat? v12.1 v14.1).bind λv15 =>
 ((cat? v15 [32]).bind λv16 =>
 (some (inl (v16,((w64 (v12.2.1+1)),()))))))))
 (some (inr (v12.1,()))))) (v11.1,(0,()))).bind λv17 =>
 ((ag_ (ρ:=((List UInt8)×Unit)) (λ(v18:((List UInt8)×(Int×Unit))) =>
 (cond (decide (v18.2.1<(a0.2.length:Int)))
 ((((at? a0.2 v18.2.1).bind λv19 =>
 (cond v19
 ((ce_ v18.2.1).bind λv20 =>
 ((cat? v18.1 v20.1).bind λv21 =>
 ((cat? v21 [32]).bind λv22 =>
 (some (v22,())))))
 (some (v18.1,()))))).bind λv23 =>
 (some (inl (v23.1,((w64 (v18.2.1+1)),())))))
 (some (inr (v18.1,()))))) (v17.1,(0,()))).bind λv24 =>
 (some (v24.1,()))))))
theorem x_59:av_ (P:=prog) (cxC [c_94] []) (.p .z (.p .z (.p (.p .z (.lp [.v 3 .str,.v 4 .int] [.v 3 .str] [] 0 .z)) (.p (.p .z (.lp [.v 3 .str,.v 5 .int] [.v 3 .str] [] 2 .z)) (.p (.p .z (.lp [.v 3 .str,.v 6 .int] [.v 3 .str] [] 4 .z)) (.p (.p .z (.lp [.v 3 .str,.v 7 .int] [.v 3 .str] [] 6 (.p .z (.j0 [.v 3 .str] .z .z)))) .z)))))) 59 [aj_] [.str]=λx=>ih_ x.1:=by kernel_rfl
noncomputable def c_59:Con prog:=aw_ _ _ 59 [aj_] [.str] _ x_59
noncomputable def jv_ (a0:ae_) (a1:ai_) (a2:af_):Option (Bool×Unit) :=
 ((bs_ a2.1 0 (w64 (a0.2.2.2.2.2.2.1 - 1))).bind λv0 =>
 (cond (!v0.1)
 (some (false,()))
 ((at? a1.2.2 a2.1).bind λv1 =>
 (cond (a2.2.1==1)
 ((bs_ a2.2.2 0 (w64 ((a0.2.2.2.1.length:Int) - 1))).bind λv2 =>
 (cond v2.1
 ((at? a0.2.2.2.1 a2.2.2).bind λv3 =>
 (cond (v3.1==v1)
 ((at? a0.2.2.2.1 a2.2.2).bind λv4 =>
 ((bm_ a1 v4.2.2).bind λv5 =>
 (some (v5.1,()))))
 ((at? a0.2.2.2.1 a2.2.2).bind λv6 =>
 (cond (v6.2.1==v1)
 ((at? a0.2.2.2.1 a2.2.2).bind λv7 =>
 ((bm_ a1 v7.2.2).bind λv8 =>
 (some (v8.1,()))))
 (some (false,()))))))
 (some (false,()))))
 (cond (a2.2.1==2)
 ((bs_ a2.2.2 0 (w64 ((a0.2.2.1.length:Int) - 1))).bind λv9 =>
 (cond v9.1
 ((at? a1.2.1 a2.2.2).bind λv10 =>
 (cond (v10==v1)
 ((at? a0.2.2.1 a2.2.2).bind λv11 =>
 ((bm_ a1 v11.2.2).bind λv12 =>
 (cond v12.1
 ((he_ a1 a2.1).bind λv13 =>
 (some ((decide (v13.1<3)),())))
 (some (false,())))))
 (some (false,()))))
 (some (false,()))))
 (cond (a2.2.1==3)
 ((bs_ a2.2.2 0 (w64 ((a0.2.2.1.length:Int) - 1))).bind λv14 =>
 (cond v14.1
 ((at? a1.2.1 a2.2.2).bind λv15 =>
 (some ((v15==(w64 ((-2) - a2.1))),())))
 (some (false,()))))
 (cond (a2.2.1==4)
 ((bs_ a2.2.2 0 (w64 ((a0.2.2.2.2.1.length:Int) - 1))).bind λv16 =>
 (cond (!v16.1)
 (some (false,()))
 ((at? a0.2.2.2.2.1 a2.2.2).bind λv17 =>
 ((ag_ (ρ:=(Unit⊕(Bool×Unit))) (λ(v18:(Int×Unit)) =>
 (cond (decide (v18.1<(v17.2.2.2.1.length:Int)))
 ((at? v17.2.2.2.1 v18.1).bind λv19 =>
 ((at? a1.2.1 v19).bind λv20 =>
 (cond (v20 != (w64 ((-2) - a2.1)))
 (some (inr (inr (false,()))))
 (some (inl ((w64 (v18.1+1)),()))))))
 (some (inr (inl ()))))) (0,())).bind λv21 =>
 (cj_ v21 (λv22=>((ag_ (ρ:=(Unit⊕(Bool×Unit))) (λ(v24:(Int×Unit)) =>
 (cond (decide (v24.1<(v17.2.2.2.2.2.2.2.length:Int)))
 ((at? v17.2.2.2.2.2.2.2 v24.1).bind λv25 =>
 ((at? a1.2.1 v25).bind λv26 =>
 (cond (v26 != (-1))
 (some (inr (inr (false,()))))
 (some (inl ((w64 (v24.1+1)),()))))))
 (some (inr (inl ()))))) (0,())).bind λv27 =>
 (cj_ v27 (λv28=>(cond (v17.2.1==v1)
 ((bm_ a1 v17.2.2.2.2.1).bind λv30 =>
 (cond v30.1
 ((he_ a1 a2.1).bind λv31 =>
 (some ((decide ((w64 ((w64 (v31.1 - (v17.2.2.2.2.2.2.1.length:Int)))+(v17.2.2.2.2.2.2.2.length:Int)))≤3)),())))
 (some (false,()))))
 (some (false,()))))
 (λv29=>(some v29)))))
 (λv23=>(some v23)))))))
 (some (false,())))))))))
theorem x_123:av_ (P:=prog) (cxC [c_68,c_84,c_159] []) (.p .z (.p .z (.p (.q [] .z .z) (.p (.p .z (.p .z (.p (.p (.q [] .z .z) .z) (.p .z (.p (.p (.q [] .z .z) .z) (.p .z (.p .z (.p .z (.p (.p .z (.p .z (.p (.p .z (.ls [.v 10 .int] [] [] 1 .z)) (.p (.p .z (.ls [.v 11 .int] [] [] 3 .z)) .z)))) .z))))))))) .z)))) 123 [ao_,ar_,ap_] [.bool]=λx=>jv_ x.1 x.2.1 x.2.2.1:=by kernel_rfl
noncomputable def c_123:Con prog:=aw_ _ _ 123 [ao_,ar_,ap_] [.bool] _ x_123
noncomputable def fg_ (a0:ae_) (a1:Int) (a2:Int):Option (Bool×Unit) :=
 ((be_ a1 0 (w64 ((a0.2.1.length:Int) - 1))).bind λv0 =>
 (cond v0.1
 ((at? a0.2.1 a1).bind λv1 =>
 ((be_ a2 0 (w64 (v1.2.2.1 - 1))).bind λv2 =>
 (some (v2.1,()))))
 (some (false,()))))
theorem x_164:av_ (P:=prog) (cxC [ch9] []) .z 164 [ao_,.int,.int] [.bool]=λx=>fg_ x.1 x.2.1 x.2.2.1:=by kernel_rfl
noncomputable def cv8:Con prog:=aw_ _ _ 164 [ao_,.int,.int] [.bool] _ x_164
noncomputable def cx_ (a0:(List (List UInt8))) (a1:(List UInt8)):Option (Bool×Unit) :=
 ((du_ a0 a1).bind λv0 =>
 (some ((decide (0≤v0.1)),())))
theorem x_235:av_ (P:=prog) (cxC [c_255] []) .z 235 [(.list .str),.str] [.bool]=λx=>cx_ x.1 x.2.1:=by kernel_rfl
noncomputable def c_235:Con prog:=aw_ _ _ 235 [(.list .str),.str] [.bool] _ x_235
noncomputable def bj_ (a0:(List Int)) (a1:Int):Option (Bool×Unit) :=
 ((et_ a0 a1).bind λv0 =>
 (some ((decide (0≤v0.1)),())))
theorem x_139:av_ (P:=prog) (cxC [c_186] []) .z 139 [(.list .int),.int] [.bool]=λx=>bj_ x.1 x.2.1:=by kernel_rfl
noncomputable def cv9:Con prog:=aw_ _ _ 139 [(.list .int),.int] [.bool] _ x_139
noncomputable def el_ (a0:ac_):Option (Int×Unit) :=
 ((((bv_ a0.1 1 4).bind λv0 =>
 (cond (!v0.1)
 (some (true,()))
 ((bv_ a0.2 2 10).bind λv1 =>
 (some ((!v1.1),())))))).bind λv2 =>
 (cond v2.1
 (some (10,()))
 (some (0,()))))
theorem x_132:av_ (P:=prog) (cxC [cv7] []) (.p .z (.p (.j0 [.v 12 .bool] .z .z) .z)) 132 [al_] [.int]=λx=>el_ x.1:=by kernel_rfl
noncomputable def cw0:Con prog:=aw_ _ _ 132 [al_] [.int] _ x_132
noncomputable def co_ (a0:ac_) (a1:Int):Option (Bool×Unit) :=
 ((bv_ a1 0 (w64 (a0.2 - 1))).bind λv0 =>
 (some (v0.1,())))
theorem x_246:av_ (P:=prog) (cxC [cv7] []) .z 246 [al_,.int] [.bool]=λx=>co_ x.1 x.2.1:=by kernel_rfl
noncomputable def c_246:Con prog:=aw_ _ _ 246 [al_,.int] [.bool] _ x_246
noncomputable def bt_ (a0:ac_) (a1:Int):Option (Bool×Unit) :=
 ((bv_ a1 0 (w64 (a0.1 - 1))).bind λv0 =>
 (some (v0.1,())))
theorem x_258:av_ (P:=prog) (cxC [cv7] []) .z 258 [al_,.int] [.bool]=λx=>bt_ x.1 x.2.1:=by kernel_rfl
noncomputable def c_258:Con prog:=aw_ _ _ 258 [al_,.int] [.bool] _ x_258
noncomputable def ni_ (a0:ak_) (a1:(List Int)):Option (Bool×Unit) :=
 (cond (a0.1==1)
 ((at? a1 a0.2.1).bind λv0 =>
 (some ((v0==a0.2.2.2.1),())))
 (cond (a0.1==2)
 ((sub? a1 a0.2.1 (w64 (a0.2.2.1+1))).bind λv1 =>
 ((ag_ (ρ:=(Int×Unit)) (λ(v2:(Int×(Int×Unit))) =>
 (cond (decide (v2.2.1<(v1.length:Int)))
 ((at? v1 v2.2.1).bind λv3 =>
 (some (inl ((w64 (v2.1+v3)),((w64 (v2.2.1+1)),())))))
 (some (inr (v2.1,()))))) (0,(0,()))).bind λv4 =>
 (some ((v4.1==a0.2.2.2.1),()))))
 (cond (a0.1==3)
 ((at? a1 a0.2.1).bind λv5 =>
 ((at? a1 a0.2.2.1).bind λv6 =>
 (some ((decide (v5<v6)),()))))
 (cond (a0.1==4)
 ((at? a1 a0.2.1).bind λv7 =>
 ((at? a1 a0.2.2.1).bind λv8 =>
 (some ((v7==v8),()))))
 (cond (a0.1==5)
 ((ag_ (ρ:=(Int×Unit)) (λ(v9:(Int×(Int×Unit))) =>
 (cond (decide (v9.2.1<(a1.length:Int)))
 ((((at? a1 v9.2.1).bind λv10 =>
 (cond (v10==a0.2.2.2.1)
 (some ((w64 (v9.1+1)),()))
 (some (v9.1,()))))).bind λv11 =>
 (some (inl (v11.1,((w64 (v9.2.1+1)),())))))
 (some (inr (v9.1,()))))) (0,(0,()))).bind λv12 =>
 (some ((v12.1==a0.2.2.2.2.1),())))
 (cond (a0.1==6)
 ((im_ a1 a0.2.2.2.2.2.1).bind λv13 =>
 (cond (v13.1==a0.2.2.2.1)
 (some ((v13.2.1==a0.2.2.2.2.1),()))
 (some (false,()))))
 ((at? a1 a0.2.1).bind λv14 =>
 ((md v14 a0.2.2.2.1).bind λv15 =>
 (some ((v15==a0.2.2.2.2.1),()))))))))))
theorem x_248:av_ (P:=prog) (cxC [c_259] []) (.p .z (.p (.p .z (.p .z (.p (.p (.q [] .z .z) .z) (.p .z (.p (.p .z (.p (.p .z (.lp [.v 5 .int,.v 35 .int] [.v 5 .int] [] 1 .z)) .z)) (.p .z (.p (.p (.q [] .z .z) .z) (.p .z (.p (.p (.q [] .z .z) .z) (.p .z (.p (.p .z (.p (.p .z (.lp [.v 8 .int,.v 77 .int] [.v 8 .int] [] 3 (.p .z (.p .z (.j0 [.v 8 .int] .z .z))))) .z)) .z))))))))))) (.p (.q [] .z .z) .z))) 248 [aq_,(.list .int)] [.bool]=λx=>ni_ x.1 x.2.1:=by kernel_rfl
noncomputable def c_248:Con prog:=aw_ _ _ 248 [aq_,(.list .int)] [.bool] _ x_248
noncomputable def lq_ (a0:ae_) (a1:(List bg_)):Option (Bool×Unit) :=
 (cond (decide ((a1.length:Int)≤8))
 ((((ag_ (ρ:=(Unit⊕(Bool×Unit))) (λ(v0:(Int×Unit)) =>
 (cond (decide (v0.1<(a1.length:Int)))
 ((at? a1 v0.1).bind λv1 =>
 ((((ca_ v1.1 0 (w64 ((a0.2.1.length:Int) - 1))).bind λv2 =>
 (cond (!v2.1)
 (some (true,()))
 ((at? a0.2.1 v1.1).bind λv3 =>
 ((ca_ v1.2.1 0 (w64 (v3.2.2.1 - 1))).bind λv4 =>
 (some ((!v4.1),()))))))).bind λv5 =>
 (cond v5.1
 (some (inr (inr ((decide (0≤v0.1)),()))))
 (some (inl ((w64 (v0.1+1)),()))))))
 (some (inr (inl ()))))) (0,())).bind λv6 =>
 (cj_ v6 (λv7=>(some ((decide (0≤(-1))),())))
 (λv8=>(some v8))))).bind λv9 =>
 (some ((!v9.1),())))
 (some (false,())))
theorem x_135:av_ (P:=prog) (cxI (λk=>cond (Nat.beq k 166) (.p .z (.j0 [.v 4 .bool] .z .z)) (cond (Nat.beq k 184) (.p .z (.j0 [.v 3 .bool] (.q [] .z .z) .z)) (cond (Nat.beq k 205) (.p .z (.p (.p .z (.ls [.v 8 .int] [] [] 0 .z)) .z)) (.z)))) (λk=>Nat.beq k 136||false) (cxC [ci0] []) 4) .z 135 [ao_,(.list cb_)] [.bool]=λx=>lq_ x.1 x.2.1:=by kernel_rfl
noncomputable def c_135:Con prog:=aw_ _ _ 135 [ao_,(.list cb_)] [.bool] _ x_135
noncomputable def ku_ (a0:aa_):Option ((List UInt8)×Unit) :=
 ((fm_ [a0.1.1,a0.1.2.1,a0.1.2.2]).bind λv0 =>
 ((lp_ a0).bind λv1 =>
 ((cat? v0.1 v1.1).bind λv2 =>
 (some (v2,())))))
theorem x_104:av_ (P:=prog) (cxC [c_142,c_143] []) .z 104 [aj_] [.str]=λx=>ku_ x.1:=by kernel_rfl
noncomputable def c_104:Con prog:=aw_ _ _ 104 [aj_] [.str] _ x_104
noncomputable def cy_ (a0:hk_) (a1:af_):Option (Bool×Unit) :=
 ((be_ a1.1 0 (w64 ((a0.2.2.2.length:Int) - 1))).bind λv0 =>
 (cond (!v0.1)
 (some (false,()))
 ((at? a0.2.2.2 a1.1).bind λv1 =>
 (cond (a1.2.1==1)
 ((be_ a1.2.2 0 (w64 ((a0.1.2.2.2.1.length:Int) - 1))).bind λv2 =>
 (cond (!v2.1)
 (some (false,()))
 ((at? a0.1.2.2.2.1 a1.2.2).bind λv3 =>
 (cond (v3.1==v1)
 ((bb_ a0 v3.2.2).bind λv4 =>
 (some (v4.1,())))
 (cond (v3.2.1==v1)
 ((bb_ a0 v3.2.2).bind λv5 =>
 (some (v5.1,())))
 (some (false,())))))))
 (cond (a1.2.1==2)
 ((be_ a1.2.2 0 (w64 ((a0.2.2.1.length:Int) - 1))).bind λv6 =>
 (cond v6.1
 ((at? a0.2.2.1 a1.2.2).bind λv7 =>
 (cond (v7==v1)
 ((at? a0.1.2.2.1 a1.2.2).bind λv8 =>
 ((bb_ a0 v8.2.2).bind λv9 =>
 (cond v9.1
 ((df_ a0 a1.1).bind λv10 =>
 (some ((decide (v10.1<3)),())))
 (some (false,())))))
 (some (false,()))))
 (some (false,()))))
 (cond (a1.2.1==3)
 ((be_ a1.2.2 0 (w64 ((a0.2.2.1.length:Int) - 1))).bind λv11 =>
 (cond v11.1
 ((at? a0.2.2.1 a1.2.2).bind λv12 =>
 (some ((v12==(w64 ((-2) - a1.1))),())))
 (some (false,()))))
 (cond (a1.2.1==4)
 ((be_ a1.2.2 0 (w64 ((a0.1.2.2.2.2.1.length:Int) - 1))).bind λv13 =>
 (cond (!v13.1)
 (some (false,()))
 ((at? a0.1.2.2.2.2.1 a1.2.2).bind λv14 =>
 (cond (v14.2.1==v1)
 ((((ag_ (ρ:=(Unit⊕(Bool×Unit))) (λ(v15:(Int×Unit)) =>
 (cond (decide (v15.1<(v14.2.2.2.1.length:Int)))
 ((at? v14.2.2.2.1 v15.1).bind λv16 =>
 ((at? a0.2.2.1 v16).bind λv17 =>
 (cond (!(v17==(w64 ((-2) - a1.1))))
 (some (inr (inr ((decide (0≤v15.1)),()))))
 (some (inl ((w64 (v15.1+1)),()))))))
 (some (inr (inl ()))))) (0,())).bind λv18 =>
 (cj_ v18 (λv19=>(some ((decide (0≤(-1))),())))
 (λv20=>(some v20))))).bind λv21 =>
 (cond (!v21.1)
 ((bb_ a0 v14.2.2.2.2.1).bind λv22 =>
 (cond v22.1
 ((((ag_ (ρ:=(Unit⊕(Bool×Unit))) (λ(v23:(Int×Unit)) =>
 (cond (decide (v23.1<(v14.2.2.2.2.2.2.2.length:Int)))
 ((at? v14.2.2.2.2.2.2.2 v23.1).bind λv24 =>
 ((at? a0.2.2.1 v24).bind λv25 =>
 (cond (!(v25==(-1)))
 (some (inr (inr ((decide (0≤v23.1)),()))))
 (some (inl ((w64 (v23.1+1)),()))))))
 (some (inr (inl ()))))) (0,())).bind λv26 =>
 (cj_ v26 (λv27=>(some ((decide (0≤(-1))),())))
 (λv28=>(some v28))))).bind λv29 =>
 (cond (!v29.1)
 ((df_ a0 a1.1).bind λv30 =>
 (some ((decide ((w64 ((w64 (v30.1 - (v14.2.2.2.2.2.2.1.length:Int)))+(v14.2.2.2.2.2.2.2.length:Int)))≤3)),())))
 (some (false,()))))
 (some (false,()))))
 (some (false,()))))
 (some (false,()))))))
 (some (false,())))))))))
theorem x_146:av_ (P:=prog) (cxI (λk=>cond (Nat.beq k 73) (.p .z (.j0 [.v 4 .bool] .z .z)) (cond (Nat.beq k 109) (.p .z (.p (.p .z (.ls [.v 8 .int] [] [] 0 .z)) .z)) (cond (Nat.beq k 193) (.p .z (.p (.q [] .z .z) .z)) (.z)))) (λk=>Nat.beq k 130||Nat.beq k 165||Nat.beq k 196||false) (cxC [ci1,ch9,c_196] []) 7) (.p .z (.p (.p (.q [] .z .z) .z) (.p (.q [] .z .z) (.p .z (.p .z (.p .z (.p (.p .z (.p .z (.p (.p (.p (.q [] .z .z) .z) .z) (.p .z (.p (.p (.q [] .z .z) .z) (.p .z (.p (.p (.q [] .z .z) .z) (.p .z (.p (.p (.p (.q [] .z .z) .z) .z) .z))))))))) .z))))))) 146 [(.ref fa_),ap_] [.bool]=λx=>cy_ x.1 x.2.1:=by kernel_rfl
noncomputable def c_146:Con prog:=aw_ _ _ 146 [(.ref fa_),ap_] [.bool] _ x_146
noncomputable def gq_ (a0:ad_) (a1:aa_):Option (Bool×Unit) :=
 ((bm_ a1.1 a0.1.2.2.2.2.2.2.2).bind λv0 =>
 (some (v0.1,())))
theorem x_36:av_ (P:=prog) (cxC [c_68] []) .z 36 [an_,aj_] [.bool]=λx=>gq_ x.1 x.2.1:=by kernel_rfl
noncomputable def c_36:Con prog:=aw_ _ _ 36 [an_,aj_] [.bool] _ x_36
noncomputable def yc_  : Option (ad_×Unit) :=
 (some ((([[104,97,108,108],[118,97,117,108,116]],([([98,111,120],(0,(2,0))),([100,111,111,114],(0,(2,0)))],([([107,101,121],(0,[(0,(1,false))]))],([(0,(1,[(1,(1,false))]))],([([111,112,101,110],(0,(0,([],([],([(0,1)],([],[]))))))),([116,117,114,110],(0,((-1),([0],([],([(1,1)],([0],[])))))))],([],(1,[]))))))),([(2,4)],([[3,1]],([([108,101,97,102],(0,(0,([],(2,(0,(1,(4,(0,([],false)))))))))),([98,97,99,107],(0,(0,([(0,(0,false))],(3,(1,(0,(0,(0,([],false)))))))))),([99,97,114,100],(1,((-1),([],(0,(0,(0,(0,(0,([],false))))))))))],1)))),()))
theorem x_26:av_ (P:=prog) (cxC [c_62] []) .z 26 [] [an_]=λx=>yc_:=by kernel_rfl
noncomputable def c_26:Con prog:=aw_ _ _ 26 [] [an_] _ x_26
noncomputable def lo_ (a0:ae_):Option (ae_×Unit) :=
 ((push? (α:=(List UInt8)) [] a0.1).bind λv0 =>
 ((push? (α:=gz_) [] a0.2.1).bind λv1 =>
 ((push? (α:=kh_) [] a0.2.2.1).bind λv2 =>
 ((push? (α:=pb_) [] a0.2.2.2.1).bind λv3 =>
 ((push? (α:=cv_) [] a0.2.2.2.2.1).bind λv4 =>
 ((push? (α:=qj_) [] a0.2.2.2.2.2.1).bind λv5 =>
 ((cm_ a0.2.2.2.2.2.2.2).bind λv6 =>
 ((ag_ (ρ:=((List kh_)×Unit)) (λ(v7:(Int×((List kh_)×Unit))) =>
 (cond (decide (v7.1<(v7.2.1.length:Int)))
 ((at? v7.2.1 v7.1).bind λv8 =>
 ((at? v7.2.1 v7.1).bind λv9 =>
 ((cm_ v9.2.2).bind λv10 =>
 ((at? v7.2.1 v7.1).bind λv11 =>
 ((at? v7.2.1 v7.1).bind λv12 =>
 (some (inl ((w64 (v7.1+1)),((v7.2.1.set v7.1.toNat (v12.1,(v12.2.1,v10.1))),())))))))))
 (some (inr (v7.2.1,()))))) (0,(v2,()))).bind λv13 =>
 ((ag_ (ρ:=((List pb_)×Unit)) (λ(v14:(Int×((List pb_)×Unit))) =>
 (cond (decide (v14.1<(v14.2.1.length:Int)))
 ((at? v14.2.1 v14.1).bind λv15 =>
 ((at? v14.2.1 v14.1).bind λv16 =>
 ((cm_ v16.2.2).bind λv17 =>
 ((at? v14.2.1 v14.1).bind λv18 =>
 ((at? v14.2.1 v14.1).bind λv19 =>
 (some (inl ((w64 (v14.1+1)),((v14.2.1.set v14.1.toNat (v19.1,(v19.2.1,v17.1))),())))))))))
 (some (inr (v14.2.1,()))))) (0,(v3,()))).bind λv20 =>
 ((ag_ (ρ:=((List cv_)×Unit)) (λ(v21:(Int×((List cv_)×Unit))) =>
 (cond (decide (v21.1<(v21.2.1.length:Int)))
 ((at? v21.2.1 v21.1).bind λv22 =>
 ((at? v21.2.1 v21.1).bind λv23 =>
 ((dq_ v23.2.2.2.1).bind λv24 =>
 ((dq_ v23.2.2.2.2.2.2.1).bind λv25 =>
 ((dq_ v23.2.2.2.2.2.2.2).bind λv26 =>
 ((cm_ v23.2.2.2.2.1).bind λv27 =>
 ((push? (α:=ac_) [] v23.2.2.2.2.2.1).bind λv28 =>
 ((at? v21.2.1 v21.1).bind λv29 =>
 ((at? v21.2.1 v21.1).bind λv30 =>
 (some (inl ((w64 (v21.1+1)),((v21.2.1.set v21.1.toNat (v23.1,(v23.2.1,(v23.2.2.1,(v24.1,(v27.1,(v28,(v25.1,v26.1)))))))),())))))))))))))
 (some (inr (v21.2.1,()))))) (0,(v4,()))).bind λv31 =>
 ((ag_ (ρ:=((List qj_)×Unit)) (λ(v32:(Int×((List qj_)×Unit))) =>
 (cond (decide (v32.1<(v32.2.1.length:Int)))
 ((at? v32.2.1 v32.1).bind λv33 =>
 ((at? v32.2.1 v32.1).bind λv34 =>
 ((cm_ v34.1).bind λv35 =>
 ((at? v32.2.1 v32.1).bind λv36 =>
 ((at? v32.2.1 v32.1).bind λv37 =>
 (some (inl ((w64 (v32.1+1)),((v32.2.1.set v32.1.toNat (v35.1,v37.2)),())))))))))
 (some (inr (v32.2.1,()))))) (0,(v5,()))).bind λv38 =>
 (some ((v0,(v1,(v13.1,(v20.1,(v31.1,(v38.1,(a0.2.2.2.2.2.2.1,v6.1))))))),())))))))))))))
theorem x_29:av_ (P:=prog) (cxC [c_65,c_66] []) (.p .z (.p .z (.p (.p .z (.lp [.v 4 .int] [] [.o (.s 20) pj_] 0 .z)) (.p (.p .z (.lp [.v 5 .int] [] [.o (.s 24) al4] 2 .z)) (.p (.p .z (.lp [.v 6 .int] [] [.o (.s 28) mh_] 4 .z)) (.p (.p .z (.lp [.v 8 .int] [] [.o (.s 32) zm_] 6 .z)) .z)))))) 29 [ao_] [ao_]=λx=>lo_ x.1:=by kernel_rfl
noncomputable def c_29:Con prog:=aw_ _ _ 29 [ao_] [ao_] _ x_29
noncomputable def iv_ (a0:cd_) (a1:(List Int)) (a2:Int):Option ((List af_)×Bool×Unit) :=
 ((at? a1 0).bind λv0 =>
 (cond (decide (v0<0))
 (some ([],(false,())))
 ((ag_ (ρ:=((List af_)×Unit)) (λ(v1:((List af_)×(Int×Unit))) =>
 ((at? a1 v1.2.1).bind λv2 =>
 (cond (decide (0<v2))
 ((ag_ (ρ:=((List af_)×(Int×Unit))) (λ(v3:((List af_)×(Int×(Int×Unit)))) =>
 ((at? a0.2 v3.2.1).bind λv4 =>
 (cond (decide (v3.2.2.1<(v4.length:Int)))
 ((at? a0.2 v3.2.1).bind λv5 =>
 ((at? v5 v3.2.2.1).bind λv6 =>
 ((((at? a1 v6.2).bind λv7 =>
 ((at? a1 v3.2.1).bind λv8 =>
 (cond (v7==(w64 (v8 - 1)))
 ((iw_ v6 a2).bind λv9 =>
 (some ((!v9.1),())))
 (some (false,())))))).bind λv10 =>
 (cond v10.1
 ((push? (α:=af_) v3.1 [v6.1]).bind λv11 =>
 (some (inr (v11,(v6.2,())))))
 (some (inl (v3.1,(v3.2.1,((w64 (v3.2.2.1+1)),())))))))))
 (some (inr (v3.1,(v3.2.1,()))))))) (v1.1,(v1.2.1,(0,())))).bind λv12 =>
 (some (inl (v12.1,(v12.2.1,())))))
 (some (inr (v1.1,())))))) ([],(0,()))).bind λv13 =>
 (some (v13.1,(true,()))))))
theorem x_31:av_ (P:=prog) (cxC [c_44] []) (.p .z (.p .z (.p .z (.p .z (.p (.lp [.r 8 ap_ 61,.v 9 .int] [.r 8 ap_ 61] [] 0 (.p .z (.p .z (.lp [.r 8 ap_ 61,.v 9 .int,.v 10 .int] [.r 8 ap_ 61,.v 9 .int] [] 2 (.p .z (.p (.p .z (.j0 [.v 55 .bool] .z .z)) .z)))))) .z))))) 31 [fb_,(.list .int),.int] [(.list ap_),.bool]=λx=>iv_ x.1 x.2.1 x.2.2.1:=by kernel_rfl
noncomputable def c_31:Con prog:=aw_ _ _ 31 [fb_,(.list .int),.int] [(.list ap_),.bool] _ x_31
end
section
set_option maxRecDepth 100000
set_option maxHeartbeats 0
noncomputable def cu_ (a0:ae_) (a1:(List bg_)):Option (Bool×Unit) :=
 ((ag_ (ρ:=(Unit⊕(Bool×Unit))) (λ(v0:(Int×Unit)) =>
 (cond (decide (v0.1<(a1.length:Int)))
 ((at? a1 v0.1).bind λv1 =>
 ((at? a1 v0.1).bind λv2 =>
 ((gw_ a0 v1.1 v2.2.1).bind λv3 =>
 (cond (!v3.1)
 (some (inr (inr (false,()))))
 (some (inl ((w64 (v0.1+1)),())))))))
 (some (inr (inl ()))))) (0,())).bind λv4 =>
 (cj_ v4 (λv5=>(some ((decide ((a1.length:Int)≤8)),())))
 (λv6=>(some v6))))
theorem x_56:av_ (P:=prog) (cxC [c_86] []) (.p .z (.p (.p .z (.ls [.v 5 .int] [] [] 0 (.p .z (.p (.p (.q [] .z .z) .z) .z)))) .z)) 56 [ao_,(.list cb_)] [.bool]=λx=>cu_ x.1 x.2.1:=by kernel_rfl
noncomputable def c_56:Con prog:=aw_ _ _ 56 [ao_,(.list cb_)] [.bool] _ x_56
noncomputable def dw_ (a0:(List UInt8)):Option (Bool×Unit) :=
 (cond (decide ((a0.length:Int)≤12))
 ((hr_ a0).bind λv0 =>
 (some (v0.1,())))
 (some (false,())))
theorem x_81:av_ (P:=prog) (cxC [c_115] []) .z 81 [.str] [.bool]=λx=>dw_ x.1:=by kernel_rfl
noncomputable def c_81:Con prog:=aw_ _ _ 81 [.str] [.bool] _ x_81
noncomputable def fv_ (a0:ac_) (a1:(List Int)):Option (Int×Unit) :=
 ((ek_ a0).bind λv0 =>
 (cond (v0.1 != 0)
 (some (v0.1,()))
 ((gn_ a0 a1).bind λv1 =>
 (cond (!v1.1)
 (some (12,()))
 (some (0,()))))))
theorem x_54:av_ (P:=prog) (cxC [c_53,c_88] []) .z 54 [al_,(.list .int)] [.int]=λx=>fv_ x.1 x.2.1:=by kernel_rfl
noncomputable def c_54:Con prog:=aw_ _ _ 54 [al_,(.list .int)] [.int] _ x_54
noncomputable def go_ (a0:ac_) (a1:ak_):Option (Bool×Unit) :=
 ((bk_ a1.2.1 0 (w64 (a0.1 - 1))).bind λv0 =>
 ((bk_ a1.2.2.1 0 (w64 (a0.1 - 1))).bind λv1 =>
 (((cond (a1.1==1)
 (((cond v0.1
 ((bk_ a1.2.2.2.1 0 (w64 (a0.2 - 1))).bind λv2 =>
 (some (v2.1,())))
 (some (false,())))).bind λv3 =>
 (some (v3.1,((a1.2.1,(0,(a1.2.2.2.1,(0,([],()))))),()))))
 (cond (a1.1==2)
 (((cond v0.1
 (cond v1.1
 (cond (decide (a1.2.1≤a1.2.2.1))
 ((bk_ a1.2.2.2.1 0 100).bind λv4 =>
 (some (v4.1,())))
 (some (false,())))
 (some (false,())))
 (some (false,())))).bind λv5 =>
 (some (v5.1,((a1.2.1,(a1.2.2.1,(a1.2.2.2.1,(0,([],()))))),()))))
 (((cond (a1.1==3)
 (some ((a1.1==3),()))
 (some ((a1.1==4),())))).bind λv6 =>
 (cond v6.1
 (((cond v0.1
 (cond v1.1
 (some ((a1.2.1 != a1.2.2.1),()))
 (some (false,())))
 (some (false,())))).bind λv7 =>
 (some (v7.1,((a1.2.1,(a1.2.2.1,(0,(0,([],()))))),()))))
 (cond (a1.1==5)
 ((((bk_ a1.2.2.2.1 0 (w64 (a0.2 - 1))).bind λv8 =>
 (cond v8.1
 ((bk_ a1.2.2.2.2.1 0 a0.1).bind λv9 =>
 (some (v9.1,())))
 (some (false,()))))).bind λv10 =>
 (some (v10.1,((0,(0,(a1.2.2.2.1,(a1.2.2.2.2.1,([],()))))),()))))
 (cond (a1.1==6)
 ((((gn_ a0 a1.2.2.2.2.2.1).bind λv11 =>
 (cond v11.1
 ((bk_ a1.2.2.2.1 0 a0.1).bind λv12 =>
 (cond v12.1
 ((bk_ a1.2.2.2.2.1 0 a0.1).bind λv13 =>
 (some (v13.1,())))
 (some (false,()))))
 (some (false,()))))).bind λv14 =>
 (some (v14.1,((0,(0,(a1.2.2.2.1,(a1.2.2.2.2.1,(a1.2.2.2.2.2.1,()))))),()))))
 (cond (a1.1==7)
 (((cond v0.1
 ((bk_ a1.2.2.2.1 2 10).bind λv15 =>
 (cond v15.1
 ((bk_ a1.2.2.2.2.1 0 (w64 (a1.2.2.2.1 - 1))).bind λv16 =>
 (some (v16.1,())))
 (some (false,()))))
 (some (false,())))).bind λv17 =>
 (some (v17.1,((a1.2.1,(0,(a1.2.2.2.1,(a1.2.2.2.2.1,([],()))))),()))))
 (some (false,((0,(0,(0,(0,([],()))))),()))))))))))).bind λv18 =>
 (cond v18.1
 ((je_ a1 (a1.1,(v18.2.1.1,(v18.2.1.2.1,(v18.2.1.2.2.1,(v18.2.1.2.2.2.1,(v18.2.1.2.2.2.2.1,a1.2.2.2.2.2.2))))))).bind λv19 =>
 (some (v19.1,())))
 (some (false,()))))))
theorem x_118:av_ (P:=prog) (cxC [c_87,c_88,c_157] []) (.p .z (.p (.q [] .z .z) (.p .z (.p .z (.j0 [.v 8 .bool,.b (.s 7) [.keep,.val .int,.val .int,.val .int,.val .int,.val (.list .int),.keep]] (.p .z (.p .z (.p (.j0 [.v 8 .bool] .z .z) (.p .z (.p (.j0 [.v 8 .bool] .z .z) (.j0 [.v 72 .bool] .z (.p (.j0 [.v 8 .bool] .z .z) (.p .z (.p (.j0 [.v 8 .bool] .z .z) (.p .z (.p (.j0 [.v 8 .bool] .z .z) (.p .z (.p (.j0 [.v 8 .bool] .z .z) .z))))))))))))) .z))))) 118 [al_,aq_] [.bool]=λx=>go_ x.1 x.2.1:=by kernel_rfl
noncomputable def c_118:Con prog:=aw_ _ _ 118 [al_,aq_] [.bool] _ x_118
noncomputable def fl_ (a0:ak_) (a1:(List Int)):Option (Bool×Unit) :=
 (((cond (a0.1==1)
 ((at? a1 a0.2.1).bind λv0 =>
 (some ((v0==a0.2.2.2.1),())))
 (cond (a0.1==2)
 ((ag_ (ρ:=(Int×Unit)) (λ(v1:(Int×(Int×Unit))) =>
 (cond (decide (v1.2.1≤a0.2.2.1))
 ((at? a1 v1.2.1).bind λv2 =>
 (some (inl ((w64 (v1.1+v2)),((w64 (v1.2.1+1)),())))))
 (some (inr (v1.1,()))))) (0,(a0.2.1,()))).bind λv3 =>
 (some ((v3.1==a0.2.2.2.1),())))
 (cond (a0.1==3)
 ((at? a1 a0.2.1).bind λv4 =>
 ((at? a1 a0.2.2.1).bind λv5 =>
 (some ((decide (v4<v5)),()))))
 (cond (a0.1==4)
 ((at? a1 a0.2.1).bind λv6 =>
 ((at? a1 a0.2.2.1).bind λv7 =>
 (some ((v6==v7),()))))
 (cond (a0.1==5)
 ((ej_ a1 a0.2.2.2.1).bind λv8 =>
 (some ((v8.1==a0.2.2.2.2.1),())))
 (cond (a0.1==6)
 ((il_ a1 a0.2.2.2.2.2.1).bind λv9 =>
 (cond (v9.1==a0.2.2.2.1)
 (some ((v9.2.1==a0.2.2.2.2.1),()))
 (some (false,()))))
 (cond (a0.1==7)
 ((at? a1 a0.2.1).bind λv10 =>
 ((md v10 a0.2.2.2.1).bind λv11 =>
 (some ((v11==a0.2.2.2.2.1),()))))
 (some (false,())))))))))).bind λv12 =>
 (some ((v12.1 != a0.2.2.2.2.2.2),())))
theorem x_91:av_ (P:=prog) (cxC [c_119,c_120] []) (.p .z (.p .z (.j0 [.v 5 .bool] (.p .z (.p .z (.p (.q [] .z .z) (.p .z (.p (.p .z (.p (.p .z (.lp [.v 6 .int,.v 7 .int] [.v 6 .int] [] 1 .z)) .z)) (.p .z (.p (.q [] .z .z) (.p .z (.p (.q [] .z .z) (.p .z (.p (.q [] .z .z) (.p .z (.p .z (.p .z (.p (.q [] .z .z) .z))))))))))))))) .z))) 91 [aq_,(.list .int)] [.bool]=λx=>fl_ x.1 x.2.1:=by kernel_rfl
noncomputable def c_91:Con prog:=aw_ _ _ 91 [aq_,(.list .int)] [.bool] _ x_91
noncomputable def eu_ (a0:ae_) (a1:ai_):Option ((List af_)×Unit) :=
 ((ag_ (ρ:=((List af_)×Unit)) (λ(v0:((List af_)×(Int×Unit))) =>
 (cond (decide (v0.2.1<a0.2.2.2.2.2.2.1))
 ((ag_ (ρ:=((List af_)×Unit)) (λ(v1:((List af_)×(Int×Unit))) =>
 (cond (decide (v1.2.1≤4))
 ((ag_ (ρ:=((List af_)×Unit)) (λ(v2:((List af_)×(Int×Unit))) =>
 (cond (decide (v2.2.1<24))
 ((((jv_ a0 a1 (v0.2.1,(v1.2.1,v2.2.1))).bind λv3 =>
 (cond v3.1
 ((push? (α:=af_) v2.1 [(v0.2.1,(v1.2.1,v2.2.1))]).bind λv4 =>
 (some (v4,())))
 (some (v2.1,()))))).bind λv5 =>
 (some (inl (v5.1,((w64 (v2.2.1+1)),())))))
 (some (inr (v2.1,()))))) (v1.1,(0,()))).bind λv6 =>
 (some (inl (v6.1,((w64 (v1.2.1+1)),())))))
 (some (inr (v1.1,()))))) (v0.1,(1,()))).bind λv7 =>
 (some (inl (v7.1,((w64 (v0.2.1+1)),())))))
 (some (inr (v0.1,()))))) ([],(0,()))).bind λv8 =>
 (some (v8.1,())))
theorem x_95:av_ (P:=prog) (cxC [c_123] []) (.p .z (.p .z (.p (.p .z (.lp [.r 5 ap_ 61,.v 6 .int] [.r 5 ap_ 61] [] 0 (.p .z (.p (.p .z (.lp [.r 5 ap_ 61,.v 7 .int] [.r 5 ap_ 61] [] 2 (.p .z (.p (.p .z (.lp [.r 5 ap_ 61,.v 8 .int] [.r 5 ap_ 61] [] 4 (.p .z (.j0 [.r 5 ap_ 61] .z .z)))) .z)))) .z)))) .z))) 95 [ao_,ar_] [(.list ap_)]=λx=>eu_ x.1 x.2.1:=by kernel_rfl
noncomputable def c_95:Con prog:=aw_ _ _ 95 [ao_,ar_] [(.list ap_)] _ x_95
noncomputable def gm_ (a0:ae_) (a1:ai_) (a2:af_):Option (ai_×Bool×Unit) :=
 ((push? (α:=Int) [] a1.1).bind λv0 =>
 ((push? (α:=Int) [] a1.2.1).bind λv1 =>
 ((push? (α:=Int) [] a1.2.2).bind λv2 =>
 ((at? a1.2.2 a2.1).bind λv3 =>
 (((cond (a2.2.1==1)
 ((at? a0.2.2.2.1 a2.2.2).bind λv4 =>
 ((at? a0.2.2.2.1 a2.2.2).bind λv5 =>
 ((at? v2 a2.1).bind λv6 =>
 ((at? v2 a2.1).bind λv7 =>
 (some (v0,(v1,((v2.set a2.1.toNat (w64 ((w64 (v4.1+v5.2.1)) - v3))),()))))))))
 (cond (a2.2.1==2)
 ((at? v1 a2.2.2).bind λv8 =>
 ((at? v1 a2.2.2).bind λv9 =>
 (some (v0,((v1.set a2.2.2.toNat (w64 ((-2) - a2.1))),(v2,()))))))
 (cond (a2.2.1==3)
 ((at? v1 a2.2.2).bind λv10 =>
 ((at? v1 a2.2.2).bind λv11 =>
 (some (v0,((v1.set a2.2.2.toNat v3),(v2,()))))))
 (cond (a2.2.1==4)
 ((at? a0.2.2.2.2.1 a2.2.2).bind λv12 =>
 ((ag_ (ρ:=((List Int)×Unit)) (λ(v13:(Int×((List Int)×Unit))) =>
 (cond (decide (v13.1<(v12.2.2.2.2.2.2.1.length:Int)))
 ((at? v12.2.2.2.2.2.2.1 v13.1).bind λv14 =>
 ((at? v13.2.1 v14).bind λv15 =>
 ((at? v13.2.1 v14).bind λv16 =>
 (some (inl ((w64 (v13.1+1)),((v13.2.1.set v14.toNat (-1)),())))))))
 (some (inr (v13.2.1,()))))) (0,(v1,()))).bind λv17 =>
 ((ag_ (ρ:=((List Int)×Unit)) (λ(v18:(Int×((List Int)×Unit))) =>
 (cond (decide (v18.1<(v12.2.2.2.2.2.2.2.length:Int)))
 ((at? v12.2.2.2.2.2.2.2 v18.1).bind λv19 =>
 ((at? v18.2.1 v19).bind λv20 =>
 ((at? v18.2.1 v19).bind λv21 =>
 (some (inl ((w64 (v18.1+1)),((v18.2.1.set v19.toNat (w64 ((-2) - a2.1))),())))))))
 (some (inr (v18.2.1,()))))) (0,(v17.1,()))).bind λv22 =>
 ((ag_ (ρ:=((List Int)×Unit)) (λ(v23:(Int×((List Int)×Unit))) =>
 (cond (decide (v23.1<(v12.2.2.2.2.2.1.length:Int)))
 ((at? v12.2.2.2.2.2.1 v23.1).bind λv24 =>
 ((at? v12.2.2.2.2.2.1 v23.1).bind λv25 =>
 ((at? v23.2.1 v24.1).bind λv26 =>
 ((at? v23.2.1 v24.1).bind λv27 =>
 (some (inl ((w64 (v23.1+1)),((v23.2.1.set v24.1.toNat v25.2),()))))))))
 (some (inr (v23.2.1,()))))) (0,(v0,()))).bind λv28 =>
 (some (v28.1,(v22.1,(v2,()))))))))
 (some (v0,(v1,(v2,()))))))))).bind λv29 =>
 ((gl_ a0 (v29.1,(v29.2.1,v29.2.2.1))).bind λv30 =>
 (some (v30.1,(v30.2.1,())))))))))
theorem x_97:av_ (P:=prog) (cxI (λk=>.z) (λk=>Nat.beq k 126||false) (cxC [c_126] []) 2) (.p .z (.p .z (.p (.q [] .z .z) (.j0 [.o (.c (.s 8) 0) .int,.o (.c (.s 8) 1) .int,.o (.c (.s 8) 2) .int] (.p .z (.p .z (.p .z (.p .z (.p .z (.p .z (.p .z (.p .z (.p (.p .z (.p (.p .z (.lp [.v 12 .int] [] [.o (.c (.s 8) 1) .int] 1 .z)) (.p (.p .z (.lp [.v 13 .int] [] [.o (.c (.s 8) 1) .int] 3 .z)) (.p .z (.lp [.v 14 .int] [] [.o (.c (.s 8) 0) .int] 5 .z))))) .z))))))))) .z)))) 97 [ao_,ar_,ap_] [ar_,.bool]=λx=>gm_ x.1 x.2.1 x.2.2.1:=by kernel_rfl
noncomputable def c_97:Con prog:=aw_ _ _ 97 [ao_,ar_,ap_] [ar_,.bool] _ x_97
noncomputable def ff_ (a0:(List UInt8)):Option (Bool×Unit) :=
 ((ag_ (ρ:=(Unit⊕(Bool×Unit))) (λ(v0:(Int×Unit)) =>
 (cond (decide (v0.1<(a0.length:Int)))
 ((((at? a0 v0.1).bind λv1 =>
 (cond (decide (((UInt8.toNat v1):Int)<97))
 (some (true,()))
 ((at? a0 v0.1).bind λv2 =>
 (some ((decide (122<((UInt8.toNat v2):Int))),())))))).bind λv3 =>
 (cond v3.1
 (some (inr (inr (false,()))))
 (some (inl ((w64 (v0.1+1)),())))))
 (some (inr (inl ()))))) (0,())).bind λv4 =>
 (cj_ v4 (λv5=>(cond (!(a0==[]))
 ((cx_ [[97,116],[115,116,97,116,101,115],[115,116,97,114,116],[103,111,110,101],[105,102],[108,111,99,107],[119,105,116,104],[115,101,116,115],[115,112,101,110,100,115],[98,114,105,110,103,115]] a0).bind λv7 =>
 (some ((!v7.1),())))
 (some (false,()))))
 (λv6=>(some v6))))
theorem x_206:av_ (P:=prog) (cxC [c_235] []) (.p .z (.p (.p .z (.ls [.v 6 .int] [] [] 0 (.p .z (.p .z (.p (.p .z (.j0 [.v 18 .bool] .z .z)) .z))))) .z)) 206 [.str] [.bool]=λx=>ff_ x.1:=by kernel_rfl
noncomputable def c_206:Con prog:=aw_ _ _ 206 [.str] [.bool] _ x_206
noncomputable def dv_ (a0:ae_) (a1:(List bg_)):Option (Bool×Unit) :=
 (cond (decide ((a1.length:Int)≤8))
 ((((ag_ (ρ:=(Unit⊕(Bool×Unit))) (λ(v0:(Int×Unit)) =>
 (cond (decide (v0.1<(a1.length:Int)))
 ((at? a1 v0.1).bind λv1 =>
 ((fg_ a0 v1.1 v1.2.1).bind λv2 =>
 (cond (!v2.1)
 (some (inr (inr ((decide (0≤v0.1)),()))))
 (some (inl ((w64 (v0.1+1)),()))))))
 (some (inr (inl ()))))) (0,())).bind λv3 =>
 (cj_ v3 (λv4=>(some ((decide (0≤(-1))),())))
 (λv5=>(some v5))))).bind λv6 =>
 (some ((!v6.1),())))
 (some (false,())))
theorem x_175:av_ (P:=prog) (cxI (λk=>cond (Nat.beq k 166) (.p .z (.j0 [.v 4 .bool] .z .z)) (cond (Nat.beq k 205) (.p .z (.p (.p .z (.ls [.v 8 .int] [] [] 0 .z)) .z)) (.z))) (λk=>Nat.beq k 164||false) (cxC [cv8] []) 4) .z 175 [ao_,(.list cb_)] [.bool]=λx=>dv_ x.1 x.2.1:=by kernel_rfl
noncomputable def c_175:Con prog:=aw_ _ _ 175 [ao_,(.list cb_)] [.bool] _ x_175
noncomputable def dh_ (a0:ac_) (a1:(List Int)):Option (Bool×Unit) :=
 (cond ((a1.length:Int)==a0.1)
 ((((ag_ (ρ:=(Unit⊕(Bool×Unit))) (λ(v0:(Int×Unit)) =>
 (cond (decide (v0.1<(a1.length:Int)))
 ((at? a1 v0.1).bind λv1 =>
 ((co_ a0 v1).bind λv2 =>
 (cond (!v2.1)
 (some (inr (inr ((decide (0≤v0.1)),()))))
 (some (inl ((w64 (v0.1+1)),()))))))
 (some (inr (inl ()))))) (0,())).bind λv3 =>
 (cj_ v3 (λv4=>(some ((decide (0≤(-1))),())))
 (λv5=>(some v5))))).bind λv6 =>
 (some ((!v6.1),())))
 (some (false,())))
theorem x_220:av_ (P:=prog) (cxI (λk=>cond (Nat.beq k 73) (.p .z (.j0 [.v 4 .bool] .z .z)) (cond (Nat.beq k 109) (.p .z (.p (.p .z (.ls [.v 8 .int] [] [] 0 .z)) .z)) (.z))) (λk=>Nat.beq k 246||false) (cxC [c_246] []) 4) .z 220 [al_,(.list .int)] [.bool]=λx=>dh_ x.1 x.2.1:=by kernel_rfl
noncomputable def c_220:Con prog:=aw_ _ _ 220 [al_,(.list .int)] [.bool] _ x_220
noncomputable def fy_ (a0:ak_) (a1:(List Int)):Option (Bool×Unit) :=
 ((ni_ a0 a1).bind λv0 =>
 (some ((v0.1 != a0.2.2.2.2.2.2),())))
theorem x_223:av_ (P:=prog) (cxC [c_248] []) (.p .z (.p (.q [] .z .z) .z)) 223 [aq_,(.list .int)] [.bool]=λx=>fy_ x.1 x.2.1:=by kernel_rfl
noncomputable def c_223:Con prog:=aw_ _ _ 223 [aq_,(.list .int)] [.bool] _ x_223
noncomputable def bz_ (a0:ad_) (a1:cd_) (a2:Int):Option ((List Int)×Unit) :=
 ((mk? (α:=Int) (a1.1.length:Int) 0).bind λv0 =>
 ((ag_ (ρ:=((List Int)×Unit)) (λ(v1:(Int×((List Int)×Unit))) =>
 (cond (decide (v1.1<(v1.2.1.length:Int)))
 ((((at? v1.2.1 v1.1).bind λv2 =>
 ((at? v1.2.1 v1.1).bind λv3 =>
 ((at? a1.1 v1.1).bind λv4 =>
 ((gq_ a0 v4).bind λv5 =>
 (cond v5.1
 ((at? (v1.2.1.set v1.1.toNat (-1)) v1.1).bind λv6 =>
 ((at? (v1.2.1.set v1.1.toNat (-1)) v1.1).bind λv7 =>
 (some (((v1.2.1.set v1.1.toNat (-1)).set v1.1.toNat 0),()))))
 (some ((v1.2.1.set v1.1.toNat (-1)),())))))))).bind λv8 =>
 (some (inl ((w64 (v1.1+1)),(v8.1,())))))
 (some (inr (v1.2.1,()))))) (0,(v0,()))).bind λv9 =>
 ((ag_ (ρ:=((List Int)×Unit)) (λ(v10:(Int×(Bool×((List Int)×Unit)))) =>
 (cond v10.2.1
 ((ag_ (ρ:=(Bool×((List Int)×Unit))) (λ(v11:(Bool×(Int×((List Int)×Unit)))) =>
 (cond (decide (v11.2.1<(v11.2.2.1.length:Int)))
 ((ag_ (ρ:=(Bool×((List Int)×Unit))) (λ(v12:(Bool×(Int×((List Int)×Unit)))) =>
 ((((at? a1.2 v11.2.1).bind λv13 =>
 (cond (decide (v12.2.1<(v13.length:Int)))
 ((at? v12.2.2.1 v11.2.1).bind λv14 =>
 ((at? v12.2.2.1 v11.2.1).bind λv15 =>
 (some ((decide (v15<0)),()))))
 (some (false,()))))).bind λv16 =>
 (cond v16.1
 ((((at? a1.2 v11.2.1).bind λv17 =>
 ((at? v17 v12.2.1).bind λv18 =>
 ((((at? v12.2.2.1 v18.2).bind λv19 =>
 ((at? v12.2.2.1 v18.2).bind λv20 =>
 (cond (v20==(w64 (v10.1 - 1)))
 ((iw_ v18 a2).bind λv21 =>
 (some ((!v21.1),())))
 (some (false,())))))).bind λv22 =>
 (cond v22.1
 ((at? v12.2.2.1 v11.2.1).bind λv23 =>
 ((at? v12.2.2.1 v11.2.1).bind λv24 =>
 (some (true,((v12.2.2.1.set v11.2.1.toNat v10.1),())))))
 (some (v12.1,(v12.2.2.1,())))))))).bind λv25 =>
 (some (inl (v25.1,((w64 (v12.2.1+1)),(v25.2.1,()))))))
 (some (inr (v12.1,(v12.2.2.1,()))))))) (v11.1,(0,(v11.2.2.1,())))).bind λv26 =>
 (some (inl (v26.1,((w64 (v11.2.1+1)),(v26.2.1,()))))))
 (some (inr (v11.1,(v11.2.2.1,())))))) (false,(0,(v10.2.2.1,())))).bind λv27 =>
 (some (inl ((w64 (v10.1+1)),(v27.1,(v27.2.1,()))))))
 (some (inr (v10.2.2.1,()))))) (1,(true,(v9.1,())))).bind λv28 =>
 (some (v28.1,())))))
theorem x_32:av_ (P:=prog) (cxC [c_36,c_44] []) (.p .z (.p .z (.p (.p .z (.lp [.v 8 .int] [] [.o (.s 7) .int] 0 (.p .z (.j0 [.o (.s 7) .int] (.p .z (.p (.q [] .z .z) .z)) .z)))) (.p (.p .z (.lp [.v 9 .int,.v 10 .bool] [] [.o (.s 7) .int] 2 (.p .z (.p (.p .z (.p .z (.lp [.v 10 .bool,.v 11 .int] [.v 10 .bool] [.o (.s 7) .int] 4 (.p .z (.p (.p .z (.lp [.v 10 .bool,.v 12 .int] [.v 10 .bool] [.o (.s 7) .int] 6 (.p (.j0 [.v 60 .bool] .z .z) (.j0 [.v 10 .bool,.o (.s 7) .int] (.p .z (.j0 [.v 84 .bool] .z .z)) .z)))) .z))))) .z)))) .z)))) 32 [an_,fb_,.int] [(.list .int)]=λx=>bz_ x.1 x.2.1 x.2.2.1:=by kernel_rfl
noncomputable def c_32:Con prog:=aw_ _ _ 32 [an_,fb_,.int] [(.list .int)] _ x_32
noncomputable def iz_ (a0:ad_):Option (ad_×Unit) :=
 ((lo_ a0.1).bind λv0 =>
 ((push? (α:=ac_) [] a0.2.1).bind λv1 =>
 ((push? (α:=cq_) [] a0.2.2.2.1).bind λv2 =>
 ((ag_ (ρ:=(((List (List Int))×Unit)×Unit)) (λ(v3:(Int×(((List (List Int))×Unit)×Unit))) =>
 (cond (decide (v3.1<(a0.2.2.1.length:Int)))
 ((at? a0.2.2.1 v3.1).bind λv4 =>
 ((push? (α:=Int) [] v4).bind λv5 =>
 ((push? (α:=(List Int)) v3.2.1.1 [v5]).bind λv6 =>
 (some (inl ((w64 (v3.1+1)),((v6,()),())))))))
 (some (inr ((v3.2.1.1,()),()))))) (0,(([],()),()))).bind λv7 =>
 ((ag_ (ρ:=((List cq_)×Unit)) (λ(v8:(Int×((List cq_)×Unit))) =>
 (cond (decide (v8.1<(v8.2.1.length:Int)))
 ((at? v8.2.1 v8.1).bind λv9 =>
 ((at? v8.2.1 v8.1).bind λv10 =>
 ((push? (α:=bg_) [] v10.2.2.2.1).bind λv11 =>
 ((at? v8.2.1 v8.1).bind λv12 =>
 ((at? v8.2.1 v8.1).bind λv13 =>
 ((at? (v8.2.1.set v8.1.toNat (v13.1,(v13.2.1,(v13.2.2.1,(v11,v13.2.2.2.2))))) v8.1).bind λv14 =>
 ((at? (v8.2.1.set v8.1.toNat (v13.1,(v13.2.1,(v13.2.2.1,(v11,v13.2.2.2.2))))) v8.1).bind λv15 =>
 ((gs_ v15.2.2.2.2).bind λv16 =>
 ((at? (v8.2.1.set v8.1.toNat (v13.1,(v13.2.1,(v13.2.2.1,(v11,v13.2.2.2.2))))) v8.1).bind λv17 =>
 ((at? (v8.2.1.set v8.1.toNat (v13.1,(v13.2.1,(v13.2.2.1,(v11,v13.2.2.2.2))))) v8.1).bind λv18 =>
 (some (inl ((w64 (v8.1+1)),(((v8.2.1.set v8.1.toNat (v13.1,(v13.2.1,(v13.2.2.1,(v11,v13.2.2.2.2))))).set v8.1.toNat (v18.1,(v18.2.1,(v18.2.2.1,(v18.2.2.2.1,v16.1))))),()))))))))))))))
 (some (inr (v8.2.1,()))))) (0,(v2,()))).bind λv19 =>
 (some ((v0.1,(v1,(v7.1.1,(v19.1,a0.2.2.2.2)))),())))))))
theorem x_10:av_ (P:=prog) (cxC [c_29,c_30] []) (.p .z (.p .z (.p (.p .z (.lp [.v 4 .int] [] [.b (.s 3) [.keep,.keep,.keep,.keep,.keep,.keep,.keep,.keep,.keep,.row (.list .int) 55,.keep,.keep]] 0 .z)) (.p (.p .z (.lp [.v 5 .int] [] [.o (.s 16) pk_] 2 .z)) .z)))) 10 [an_] [an_]=λx=>iz_ x.1:=by kernel_rfl
noncomputable def c_10:Con prog:=aw_ _ _ 10 [an_] [an_] _ x_10
end
section
set_option maxRecDepth 100000
set_option maxHeartbeats 0
noncomputable def ne_ (a0:ae_) (a1:Int):Option (Bool×Unit) :=
 ((at? a0.2.2.2.2.1 a1).bind λv0 =>
 ((ag_ (ρ:=(Unit⊕(Bool×Unit))) (λ(v1:(Int×Unit)) =>
 (cond (decide (v1.1<a1))
 ((at? a0.2.2.2.2.1 v1.1).bind λv2 =>
 (cond (v2.1==v0.1)
 (some (inr (inr (false,()))))
 (some (inl ((w64 (v1.1+1)),())))))
 (some (inr (inl ()))))) (0,())).bind λv3 =>
 (cj_ v3 (λv4=>((((dw_ v0.1).bind λv6 =>
 (cond (!v6.1)
 (some (true,()))
 ((ct_ a0 v0.2.1).bind λv7 =>
 (cond (!v7.1)
 (some (true,()))
 ((bs_ v0.2.2.1 (-1) 7).bind λv8 =>
 (cond (!v8.1)
 (some (true,()))
 ((dg_ a0 v0.2.2.2.1).bind λv9 =>
 (cond (!v9.1)
 (some (true,()))
 ((dg_ a0 v0.2.2.2.2.2.2.1).bind λv10 =>
 (cond (!v10.1)
 (some (true,()))
 ((dg_ a0 v0.2.2.2.2.2.2.2).bind λv11 =>
 (cond (!v11.1)
 (some (true,()))
 (some ((decide (6<(v0.2.2.2.2.2.1.length:Int))),()))))))))))))))).bind λv12 =>
 (cond v12.1
 (some (false,()))
 ((ag_ (ρ:=(Unit⊕(Bool×Unit))) (λ(v13:(Int×Unit)) =>
 (cond (decide (v13.1<(v0.2.2.2.2.2.2.1.length:Int)))
 ((at? v0.2.2.2.2.2.2.1 v13.1).bind λv14 =>
 ((mp_ v0.2.2.2.1 v14).bind λv15 =>
 (cond (!v15.1)
 (some (inr (inr (false,()))))
 (some (inl ((w64 (v13.1+1)),()))))))
 (some (inr (inl ()))))) (0,())).bind λv16 =>
 (cj_ v16 (λv17=>((ag_ (ρ:=(Unit⊕(Bool×Unit))) (λ(v19:(Int×Unit)) =>
 (cond (decide (v19.1<(v0.2.2.2.2.2.2.2.length:Int)))
 ((at? v0.2.2.2.2.2.2.2 v19.1).bind λv20 =>
 ((mp_ v0.2.2.2.1 v20).bind λv21 =>
 (cond v21.1
 (some (inr (inr (false,()))))
 (some (inl ((w64 (v19.1+1)),()))))))
 (some (inr (inl ()))))) (0,())).bind λv22 =>
 (cj_ v22 (λv23=>((ag_ (ρ:=(Unit⊕(Bool×Unit))) (λ(v25:(Int×Unit)) =>
 (cond (decide (v25.1<(v0.2.2.2.2.2.1.length:Int)))
 ((at? v0.2.2.2.2.2.1 v25.1).bind λv26 =>
 ((at? v0.2.2.2.2.2.1 v25.1).bind λv27 =>
 ((gw_ a0 v26.1 v27.2).bind λv28 =>
 (cond (!v28.1)
 (some (inr (inr (false,()))))
 ((ag_ (ρ:=(Unit⊕((Int×Unit)⊕(Unit⊕(Bool×Unit))))) (λ(v29:(Int×Unit)) =>
 (cond (decide (v29.1<v25.1))
 ((at? v0.2.2.2.2.2.1 v29.1).bind λv30 =>
 ((at? v0.2.2.2.2.2.1 v25.1).bind λv31 =>
 (cond (v30.1==v31.1)
 (some (inr (inr (inr (inr (false,()))))))
 (some (inl ((w64 (v29.1+1)),()))))))
 (some (inr (inl ()))))) (0,())).bind λv32 =>
 (cj_ v32 (λv33=>(some (inl ((w64 (v25.1+1)),()))))
 (λv34=>(some v34))))))))
 (some (inr (inl ()))))) (0,())).bind λv35 =>
 (cj_ v35 (λv36=>(some (true,())))
 (λv37=>(some v37)))))
 (λv24=>(some v24)))))
 (λv18=>(some v18)))))))
 (λv5=>(some v5)))))
theorem x_85:av_ (P:=prog) (cxC [c_81,c_83,c_84,c_86,c_116,c_117] []) (.p .z (.p .z (.p (.p .z (.ls [.v 6 .int] [] [] 0 .z)) (.p (.j0 [.v 73 .bool] .z .z) (.p (.p .z (.ls [.v 7 .int] [] [] 2 .z)) (.p (.p .z (.ls [.v 8 .int] [] [] 4 .z)) (.p (.p .z (.ls [.v 9 .int] [] [] 6 (.p .z (.p (.p .z (.p .z (.ls [.v 10 .int] [] [] 8 .z))) .z)))) .z))))))) 85 [ao_,.int] [.bool]=λx=>ne_ x.1 x.2.1:=by kernel_rfl
noncomputable def c_85:Con prog:=aw_ _ _ 85 [ao_,.int] [.bool] _ x_85
noncomputable def fw_ (a0:ac_) (a1:ak_):Option (Int×Unit) :=
 ((ek_ a0).bind λv0 =>
 (cond (v0.1 != 0)
 (some (v0.1,()))
 ((go_ a0 a1).bind λv1 =>
 (cond (!v1.1)
 (some (11,()))
 (some (0,()))))))
theorem x_90:av_ (P:=prog) (cxC [c_53,c_118] []) .z 90 [al_,aq_] [.int]=λx=>fw_ x.1 x.2.1:=by kernel_rfl
noncomputable def c_90:Con prog:=aw_ _ _ 90 [al_,aq_] [.int] _ x_90
noncomputable def ew_ (a0:ac_) (a1:(List ak_)):Option (Int×Unit) :=
 ((ek_ a0).bind λv0 =>
 (cond (v0.1 != 0)
 (some (v0.1,()))
 (cond (decide (20<(a1.length:Int)))
 (some (2,()))
 ((ag_ (ρ:=(Unit⊕(Int×Unit))) (λ(v1:(Int×Unit)) =>
 (cond (decide (v1.1<(a1.length:Int)))
 ((at? a1 v1.1).bind λv2 =>
 ((go_ a0 v2).bind λv3 =>
 (cond (!v3.1)
 (some (inr (inr (11,()))))
 (some (inl ((w64 (v1.1+1)),()))))))
 (some (inr (inl ()))))) (0,())).bind λv4 =>
 (cj_ v4 (λv5=>(some (0,())))
 (λv6=>(some v6)))))))
theorem x_233:av_ (P:=prog) (cxC [c_53,c_118] []) (.p .z (.p .z (.p .z (.p (.p .z (.ls [.v 6 .int] [] [] 0 (.p .z (.p (.p (.q [] .z .z) .z) .z)))) .z)))) 233 [al_,(.list aq_)] [.int]=λx=>ew_ x.1 x.2.1:=by kernel_rfl
noncomputable def c_233:Con prog:=aw_ _ _ 233 [al_,(.list aq_)] [.int] _ x_233
noncomputable def jx_ (a0:(List ak_)) (a1:(List Int)):Option (Int×Unit) :=
 ((ag_ (ρ:=(Unit⊕(Int×Unit))) (λ(v0:(Int×Unit)) =>
 (cond (decide (v0.1<(a0.length:Int)))
 ((at? a0 v0.1).bind λv1 =>
 ((fl_ v1 a1).bind λv2 =>
 (cond (!v2.1)
 (some (inr (inr (v0.1,()))))
 (some (inl ((w64 (v0.1+1)),()))))))
 (some (inr (inl ()))))) (0,())).bind λv3 =>
 (cj_ v3 (λv4=>(some ((-1),())))
 (λv5=>(some v5))))
theorem x_254:av_ (P:=prog) (cxC [c_91] []) (.p .z (.p (.p .z (.ls [.v 5 .int] [] [] 0 .z)) .z)) 254 [(.list aq_),(.list .int)] [.int]=λx=>jx_ x.1 x.2.1:=by kernel_rfl
noncomputable def c_254:Con prog:=aw_ _ _ 254 [(.list aq_),(.list .int)] [.int] _ x_254
noncomputable def ln_ (a0:ad_) (a1:aa_) (a2:af_):Option (aa_×Unit) :=
 ((gm_ a0.1 a1.1 a2).bind λv0 =>
 ((ix_ a0 (v0.1,a1.2)).bind λv1 =>
 (some (v1.1,()))))
theorem x_61:av_ (P:=prog) (cxC [c_93,c_97] []) .z 61 [an_,aj_,ap_] [aj_]=λx=>ln_ x.1 x.2.1 x.2.2.1:=by kernel_rfl
noncomputable def c_61:Con prog:=aw_ _ _ 61 [an_,aj_,ap_] [aj_] _ x_61
noncomputable def qd_ (a0:ae_) (a1:Int) (a2:cv_):Option (Bool×Unit) :=
 ((((sub? a0.2.2.2.2.1 0 a1).bind λv0 =>
 ((((ff_ a2.1).bind λv1 =>
 (cond v1.1
 (cond (decide ((a2.1.length:Int)≤12))
 ((((ag_ (ρ:=(Unit⊕(Int×Unit))) (λ(v2:(Int×Unit)) =>
 (cond (decide (v2.1<(v0.length:Int)))
 ((at? v0 v2.1).bind λv3 =>
 (cond (v3.1==a2.1)
 (some (inr (inr (v2.1,()))))
 (some (inl ((w64 (v2.1+1)),())))))
 (some (inr (inl ()))))) (0,())).bind λv4 =>
 (cj_ v4 (λv5=>(some ((-1),())))
 (λv6=>(some v6))))).bind λv7 =>
 (some ((decide (v7.1<0)),())))
 (some (false,())))
 (some (false,()))))).bind λv8 =>
 (cond (!v8.1)
 (some (true,()))
 ((be_ a2.2.1 0 (w64 ((a0.1.length:Int) - 1))).bind λv9 =>
 (cond (!v9.1)
 (some (true,()))
 ((be_ a2.2.2.1 (-1) 7).bind λv10 =>
 (some ((!v10.1),()))))))))).bind λv11 =>
 (cond v11.1
 (some (false,()))
 ((((hd_ a0 a2.2.2.2.1).bind λv12 =>
 (cond (!v12.1)
 (some (true,()))
 ((hd_ a0 a2.2.2.2.2.2.2.1).bind λv13 =>
 (cond (!v13.1)
 (some (true,()))
 ((hd_ a0 a2.2.2.2.2.2.2.2).bind λv14 =>
 (cond (!v14.1)
 (some (true,()))
 (some ((decide (6<(a2.2.2.2.2.2.1.length:Int))),()))))))))).bind λv15 =>
 (cond v15.1
 (some (false,()))
 ((((((ag_ (ρ:=(Unit⊕(Bool×Unit))) (λ(v16:(Int×Unit)) =>
 (cond (decide (v16.1<(a2.2.2.2.2.2.2.1.length:Int)))
 ((at? a2.2.2.2.2.2.2.1 v16.1).bind λv17 =>
 ((bj_ a2.2.2.2.1 v17).bind λv18 =>
 (cond (!v18.1)
 (some (inr (inr ((decide (0≤v16.1)),()))))
 (some (inl ((w64 (v16.1+1)),()))))))
 (some (inr (inl ()))))) (0,())).bind λv19 =>
 (cj_ v19 (λv20=>(some ((decide (0≤(-1))),())))
 (λv21=>(some v21))))).bind λv22 =>
 (cond v22.1
 (some (true,()))
 ((((ag_ (ρ:=(Unit⊕(Bool×Unit))) (λ(v23:(Int×Unit)) =>
 (cond (decide (v23.1<(a2.2.2.2.2.2.2.2.length:Int)))
 ((at? a2.2.2.2.2.2.2.2 v23.1).bind λv24 =>
 ((bj_ a2.2.2.2.1 v24).bind λv25 =>
 (cond v25.1
 (some (inr (inr ((decide (0≤v23.1)),()))))
 (some (inl ((w64 (v23.1+1)),()))))))
 (some (inr (inl ()))))) (0,())).bind λv26 =>
 (cj_ v26 (λv27=>(some ((decide (0≤(-1))),())))
 (λv28=>(some v28))))).bind λv29 =>
 (some (v29.1,())))))).bind λv30 =>
 (cond v30.1
 (some (false,()))
 ((ag_ (ρ:=(Unit⊕(Bool×Unit))) (λ(v31:(Int×Unit)) =>
 (cond (decide (v31.1<(a2.2.2.2.2.2.1.length:Int)))
 ((at? a2.2.2.2.2.2.1 v31.1).bind λv32 =>
 ((sub? a2.2.2.2.2.2.1 0 v31.1).bind λv33 =>
 ((((ag_ (ρ:=(Unit⊕(Bool×Unit))) (λ(v34:(Int×Unit)) =>
 (cond (decide (v34.1<(v33.length:Int)))
 ((at? v33 v34.1).bind λv35 =>
 (cond (v35.1==v32.1)
 (some (inr (inr ((decide (0≤v34.1)),()))))
 (some (inl ((w64 (v34.1+1)),())))))
 (some (inr (inl ()))))) (0,())).bind λv36 =>
 (cj_ v36 (λv37=>(some ((decide (0≤(-1))),())))
 (λv38=>(some v38))))).bind λv39 =>
 ((((fg_ a0 v32.1 v32.2).bind λv40 =>
 (cond (!v40.1)
 (some (true,()))
 (some (v39.1,()))))).bind λv41 =>
 (cond v41.1
 (some (inr (inr (false,()))))
 (some (inl ((w64 (v31.1+1)),()))))))))
 (some (inr (inl ()))))) (0,())).bind λv42 =>
 (cj_ v42 (λv43=>(some (true,())))
 (λv44=>(some v44))))))))))
theorem x_176:av_ (P:=prog) (cxI (λk=>cond (Nat.beq k 73) (.p .z (.j0 [.v 4 .bool] .z .z)) (cond (Nat.beq k 109) (.p .z (.p (.p .z (.ls [.v 8 .int] [] [] 0 .z)) .z)) (cond (Nat.beq k 211) (.p .z (.j0 [.v 6 .bool] .z .z)) (cond (Nat.beq k 216) (.p .z (.j0 [.v 4 .bool] .z .z)) (cond (Nat.beq k 242) (.p .z (.j0 [.v 6 .int] .z .z)) (cond (Nat.beq k 243) (.p .z (.p (.p .z (.ls [.v 8 .int] [] [] 0 .z)) .z)) (cond (Nat.beq k 256) (.p .z (.p (.p .z (.ls [.v 8 .int] [] [] 0 .z)) .z)) (cond (Nat.beq k 257) (.p .z (.p (.q [] .z .z) .z)) (.z))))))))) (λk=>Nat.beq k 139||Nat.beq k 164||Nat.beq k 165||Nat.beq k 206||Nat.beq k 212||Nat.beq k 213||false) (cxC [cv9,cv8,ch9,c_206,c_212,c_213] []) 12) (.p .z (.p (.j0 [.v 35 .bool] (.q [] .z .z) .z) (.p (.j0 [.v 60 .bool] .z .z) (.p .z (.p .z (.p (.j0 [.v 72 .bool] .z .z) (.p (.p .z (.ls [.v 76 .int] [] [] 0 (.p .z (.p .z (.p (.p .z (.p .z (.j0 [.v 96 .bool] .z .z))) .z))))) .z))))))) 176 [ao_,.int,mh_] [.bool]=λx=>qd_ x.1 x.2.1 x.2.2.1:=by kernel_rfl
noncomputable def c_176:Con prog:=aw_ _ _ 176 [ao_,.int,mh_] [.bool] _ x_176
noncomputable def ht_ (a0:ac_) (a1:(List (List Int))):Option (Int×Unit) :=
 ((el_ a0).bind λv0 =>
 (cond (v0.1 != 0)
 (some (v0.1,()))
 ((((ag_ (ρ:=(Unit⊕(Bool×Unit))) (λ(v1:(Int×Unit)) =>
 (cond (decide (v1.1<(a1.length:Int)))
 ((at? a1 v1.1).bind λv2 =>
 ((dh_ a0 v2).bind λv3 =>
 (cond (!v3.1)
 (some (inr (inr ((decide (0≤v1.1)),()))))
 (some (inl ((w64 (v1.1+1)),()))))))
 (some (inr (inl ()))))) (0,())).bind λv4 =>
 (cj_ v4 (λv5=>(some ((decide (0≤(-1))),())))
 (λv6=>(some v6))))).bind λv7 =>
 (cond v7.1
 (some (12,()))
 (some (0,()))))))
theorem x_178:av_ (P:=prog) (cxI (λk=>cond (Nat.beq k 218) (.p .z (.j0 [.v 4 .bool] .z .z)) (cond (Nat.beq k 244) (.p .z (.p (.p .z (.ls [.v 8 .int] [] [] 0 .z)) .z)) (.z))) (λk=>Nat.beq k 132||Nat.beq k 220||false) (cxC [cw0,c_220] []) 4) .z 178 [al_,(.list (.list .int))] [.int]=λx=>ht_ x.1 x.2.1:=by kernel_rfl
noncomputable def c_178:Con prog:=aw_ _ _ 178 [al_,(.list (.list .int))] [.int] _ x_178
noncomputable def di_ (a0:ac_) (a1:ak_):Option (Bool×Unit) :=
 (((cond (a1.1==1)
 ((bt_ a0 a1.2.1).bind λv0 =>
 (cond v0.1
 ((co_ a0 a1.2.2.2.1).bind λv1 =>
 (some (v1.1,((a1.2.1,(0,(a1.2.2.2.1,(0,([],()))))),()))))
 (some (false,((a1.2.1,(0,(a1.2.2.2.1,(0,([],()))))),())))))
 (cond (a1.1==2)
 ((bt_ a0 a1.2.1).bind λv2 =>
 (cond v2.1
 ((bt_ a0 a1.2.2.1).bind λv3 =>
 (cond v3.1
 (cond (decide (a1.2.1≤a1.2.2.1))
 ((bv_ a1.2.2.2.1 0 100).bind λv4 =>
 (some (v4.1,((a1.2.1,(a1.2.2.1,(a1.2.2.2.1,(0,([],()))))),()))))
 (some (false,((a1.2.1,(a1.2.2.1,(a1.2.2.2.1,(0,([],()))))),()))))
 (some (false,((a1.2.1,(a1.2.2.1,(a1.2.2.2.1,(0,([],()))))),())))))
 (some (false,((a1.2.1,(a1.2.2.1,(a1.2.2.2.1,(0,([],()))))),())))))
 (((cond (a1.1==3)
 (some ((a1.1==3),()))
 (some ((a1.1==4),())))).bind λv5 =>
 (cond v5.1
 ((bt_ a0 a1.2.1).bind λv6 =>
 (cond v6.1
 ((bt_ a0 a1.2.2.1).bind λv7 =>
 (cond v7.1
 (some ((a1.2.1 != a1.2.2.1),((a1.2.1,(a1.2.2.1,(0,(0,([],()))))),())))
 (some (false,((a1.2.1,(a1.2.2.1,(0,(0,([],()))))),())))))
 (some (false,((a1.2.1,(a1.2.2.1,(0,(0,([],()))))),())))))
 (cond (a1.1==5)
 ((co_ a0 a1.2.2.2.1).bind λv8 =>
 (cond v8.1
 ((bv_ a1.2.2.2.2.1 0 a0.1).bind λv9 =>
 (some (v9.1,((0,(0,(a1.2.2.2.1,(a1.2.2.2.2.1,([],()))))),()))))
 (some (false,((0,(0,(a1.2.2.2.1,(a1.2.2.2.2.1,([],()))))),())))))
 (cond (a1.1==6)
 ((bv_ a1.2.2.2.1 0 a0.1).bind λv10 =>
 (cond v10.1
 ((bv_ a1.2.2.2.2.1 0 a0.1).bind λv11 =>
 (cond v11.1
 ((dh_ a0 a1.2.2.2.2.2.1).bind λv12 =>
 (some (v12.1,((0,(0,(a1.2.2.2.1,(a1.2.2.2.2.1,(a1.2.2.2.2.2.1,()))))),()))))
 (some (false,((0,(0,(a1.2.2.2.1,(a1.2.2.2.2.1,(a1.2.2.2.2.2.1,()))))),())))))
 (some (false,((0,(0,(a1.2.2.2.1,(a1.2.2.2.2.1,(a1.2.2.2.2.2.1,()))))),())))))
 (cond (a1.1==7)
 ((bt_ a0 a1.2.1).bind λv13 =>
 (cond v13.1
 ((bv_ a1.2.2.2.1 2 10).bind λv14 =>
 (cond v14.1
 ((bv_ a1.2.2.2.2.1 0 (w64 (a1.2.2.2.1 - 1))).bind λv15 =>
 (some (v15.1,((a1.2.1,(0,(a1.2.2.2.1,(a1.2.2.2.2.1,([],()))))),()))))
 (some (false,((a1.2.1,(0,(a1.2.2.2.1,(a1.2.2.2.2.1,([],()))))),())))))
 (some (false,((a1.2.1,(0,(a1.2.2.2.1,(a1.2.2.2.2.1,([],()))))),())))))
 (some (false,((0,(0,(0,(0,([],()))))),()))))))))))).bind λv16 =>
 (cond v16.1
 (cond (a1.2.1==v16.2.1.1)
 (cond (a1.2.2.1==v16.2.1.2.1)
 (cond (a1.2.2.2.1==v16.2.1.2.2.1)
 (cond (a1.2.2.2.2.1==v16.2.1.2.2.2.1)
 (some (((a1.2.2.2.2.2.1.length:Int)==(v16.2.1.2.2.2.2.1.length:Int)),()))
 (some (false,())))
 (some (false,())))
 (some (false,())))
 (some (false,())))
 (some (false,()))))
theorem x_247:av_ (P:=prog) (cxC [cv7,c_220,c_246,c_258] []) (.p .z (.p .z (.p .z (.j0 [.v 6 .bool,.b (.s 5) [.keep,.val .int,.val .int,.val .int,.val .int,.val (.list .int),.keep]] (.p .z (.p .z (.p .z (.p .z (.p .z (.j0 [.v 65 .bool] .z .z)))))) .z)))) 247 [al_,aq_] [.bool]=λx=>di_ x.1 x.2.1:=by kernel_rfl
noncomputable def c_247:Con prog:=aw_ _ _ 247 [al_,aq_] [.bool] _ x_247
noncomputable def fz_ (a0:(List ak_)) (a1:(List Int)):Option (Int×Unit) :=
 ((ag_ (ρ:=(Unit⊕(Int×Unit))) (λ(v0:(Int×Unit)) =>
 (cond (decide (v0.1<(a0.length:Int)))
 ((at? a0 v0.1).bind λv1 =>
 ((fy_ v1 a1).bind λv2 =>
 (cond (!v2.1)
 (some (inr (inr (v0.1,()))))
 (some (inl ((w64 (v0.1+1)),()))))))
 (some (inr (inl ()))))) (0,())).bind λv3 =>
 (cj_ v3 (λv4=>(some ((-1),())))
 (λv5=>(some v5))))
theorem x_275:av_ (P:=prog) (cxI (λk=>cond (Nat.beq k 272) (.p .z (.p (.p .z (.ls [.v 8 .int] [] [] 0 .z)) .z)) (.z)) (λk=>Nat.beq k 223||false) (cxC [c_223] []) 3) .z 275 [(.list aq_),(.list .int)] [.int]=λx=>fz_ x.1 x.2.1:=by kernel_rfl
noncomputable def c_275:Con prog:=aw_ _ _ 275 [(.list aq_),(.list .int)] [.int] _ x_275
end
end Go.Proofs.YtgeehfnbhbibeaaGreatDoor.Rx
namespace Go.Proofs.YtgeehfnbhbibeaaGreatDoor.Rx
open Go Pad Rex Sum
section
def wi (a b c:Int):Bool:=decide (b≤a)&&decide (a≤c)
theorem cg_ {a b c:Int}:wi a b c=true↔b≤a∧a≤c:=by simp[wi]
theorem bj9 (a b c:Int):(cond (decide (b≤a)) (some ((decide (a≤c)),())) (some (false,())))=some (wi a b c,()):=by
 unfold wi
 cases decide (b≤a)<;>rfl
theorem dy_ (a b c:Int):be_ a b c=some (wi a b c,()):=bj9 a b c
theorem kn_ (a b c:Int):ca_ a b c=some (wi a b c,()):=bj9 a b c
theorem fp_ (a b c:Int):bs_ a b c=some (wi a b c,()):=bj9 a b c
theorem zs_ (a b c:Int):iy_ a b c=some (wi a b c,()):=bj9 a b c
theorem beqc {α:Type} [BEq α] [LawfulBEq α] (x y:α):(y==x)=(x==y):=by
 rw[k4_,f6_,f6_]
 exact eq_comm
theorem hj_ {α:Type} [BEq α] [LawfulBEq α] (l:List α) (x:α):l.any (x == ·)=l.contains x:=by
 induction l with
 | nil=>rfl
 | cons y l ih=>simp[List.contains_cons,ih]
theorem ck6 {l:List Int} {x:Int} (hl:Sm l.length):∃ i:Int,et_ l x=some (i,())∧decide (0≤i)=l.contains x:=by
  unfold et_
  have h1:=om_ l (λi y=>cond (x==y) (some (inr ((i:Int),()):Unit⊕(Int×Unit))) none) (λi=>((i:Int),())) (r0:=inl ())
    (body:=λ(v0:(Int×Unit)) =>
     (cond (decide (v0.1<(l.length:Int)))
     ((at? l v0.1).bind λv1 =>
     (cond (x==v1)
     (some (inr (inr (v0.1,()))))
     (some (inl ((w64 (v0.1+1)),())))))
     (some (inr (inl ())))))
    (λi y hy=>by
      have hi:=am_ hy
      simp only[dlt hi,a5_,ah_ hy,a0_,az_ (show Sm i by omega)]
      cases x==y<;>rfl)
    (by simp only[dnl,a2_])
  rcases ad3 (q:=λy=>x==y) (f:=λi=>(inr ((i:Int),()):Unit⊕(Int×Unit))) l 0 with ⟨h2,h3⟩ | ⟨i,h2,h3⟩
  · refine⟨-1,e6_ (congrArg (λo=>Option.bind o _) h1) ?_,by rw[← hj_,h3];rfl⟩
    rw[h2];rfl
  · refine⟨i,e6_ (congrArg (λo=>Option.bind o _) h1) ?_,by rw[← hj_,h3];exact b8_ (by omega)⟩
    rw[h2];rfl
theorem pc_ {l:List Int} {x:Int} (hl:Sm l.length):bj_ l x=some (l.contains x,()):=by
 obtain⟨i,h1,h2⟩:=ck6 (x:=x) hl
 unfold bj_
 rw[h1,a0_,h2]
theorem as6 {l:List (List UInt8)} {x:List UInt8} (hl:Sm l.length):∃ i:Int,du_ l x=some (i,())∧decide (0≤i)=l.contains x:=by
 unfold du_
 rcases ad3 (q:=λy=>x==y) (f:=λi=>(inr ((i:Int),()):Unit⊕(Int×Unit))) l 0 with ⟨h2,h3⟩ | ⟨i,h2,h3⟩
 ·refine⟨-1,bn_ l (λi y=>cond (x==y) (some (inr ((i:Int),()):Unit⊕(Int×Unit))) none) (λi=>((i:Int),())) (r0:=inl ()) (λi y hy => ?_) ?_ ?_,by rw[← hj_,h3];rfl⟩
  ·have hi:=am_ hy
   simp only[dlt hi,a5_,ah_ hy,a0_,az_ (show Sm i by omega)]
   cases x==y<;>rfl
  ·simp only[dnl,a2_]
  ·rw[h2];rfl
 ·refine⟨i,bn_ l (λi y=>cond (x==y) (some (inr ((i:Int),()):Unit⊕(Int×Unit))) none) (λi=>((i:Int),())) (r0:=inl ()) (λi y hy => ?_) ?_ ?_,by rw[← hj_,h3];exact b8_ (by omega)⟩
  ·have hi:=am_ hy
   simp only[dlt hi,a5_,ah_ hy,a0_,az_ (show Sm i by omega)]
   cases x==y<;>rfl
  ·simp only[dnl,a2_]
  ·rw[h2];rfl
theorem yt_ {l:List (List UInt8)} {x:List UInt8} (hl:Sm l.length):cx_ l x=some (l.contains x,()):=by
 obtain⟨i,h1,h2⟩:=as6 (x:=x) hl
 unfold cx_
 rw[h1,a0_,h2]
theorem bc3 {l:List Int} {x:Int} (hl:Sm l.length):mp_ l x=some (l.contains x,()):=by
 unfold mp_
 refine bn_ l (λi y=>cond (x==y) (some (inr (true,()):Unit⊕(Bool×Unit))) none) (λi=>((i:Int),())) (r0:=inl ()) (λi y hy => ?_) ?_ ?_
 ·have hi:=am_ hy
  simp only[dlt hi,a5_,ah_ hy,a0_,az_ (show Sm i by omega)]
  rw[beqc x y]
  cases x==y<;>rfl
 ·simp only[dnl,a2_]
 ·rw[hm_ (q:=λy=>x==y),hj_]
  cases l.contains x<;>rfl
def zg_ (c:UInt8):Bool:=decide (97≤(c.toNat:Int))&&decide ((c.toNat:Int)≤122)
def okW (t:List UInt8):Bool:=t.all zg_&&(!(t==[])&&!(reserved.contains t))
def okN (t:List UInt8):Bool:=decide ((t.length:Int)≤12)&&okW t
theorem cs5 (c:UInt8):(cond (decide (((UInt8.toNat c):Int)<97)) (some (true,())) (some ((decide (122<((UInt8.toNat c):Int))),())))=some (!(zg_ c),()):=by
 unfold zg_
 by_cases h1:((UInt8.toNat c):Int)<97
 ·rw[b8_ h1,c2_ (by omega:¬ (97:Int)≤(c.toNat:Int))];rfl
 ·rw[c2_ h1,b8_ (by omega:(97:Int)≤(c.toNat:Int))]
  by_cases h2:122<((UInt8.toNat c):Int)
  ·rw[b8_ h2,c2_ (by omega:¬ ((UInt8.toNat c):Int)≤122)];rfl
  ·rw[c2_ h2,b8_ (by omega:((UInt8.toNat c):Int)≤122)];rfl
theorem on_ {t:List UInt8} (hl:Sm t.length):ag_ (ρ:=(Unit⊕(Bool×Unit))) (λ(v0:(Int×Unit)) =>
 (cond (decide (v0.1<(t.length:Int)))
 ((((at? t v0.1).bind λv1 =>
 (cond (decide (((UInt8.toNat v1):Int)<97))
 (some (true,()))
 ((at? t v0.1).bind λv2 =>
 (some ((decide (122<((UInt8.toNat v2):Int))),())))))).bind λv3 =>
 (cond v3.1
 (some (inr (inr (false,()))))
 (some (inl ((w64 (v0.1+1)),())))))
 (some (inr (inl ()))))) (0,())=some (cond (t.all zg_) (inl ()) (inr (false,()))):=by
  refine e6_ (om_ t (λi c=>cond (zg_ c) none (some (inr (false,()):Unit⊕(Bool×Unit)))) (λi=>((i:Int),())) (r0:=inl ()) (λi y hy => ?_) ?_) ?_
  · have hi:=am_ hy
    simp only[dlt hi,a5_,ah_ hy,a0_,az_ (show Sm i by omega),cs5]
    cases zg_ y<;>rfl
  · simp only[dnl,a2_]
  · rw[jl_]
    cases t.all zg_<;>rfl
theorem bt1 {t:List UInt8} (hl:Sm t.length):ff_ t=some (okW t,()):=by
 unfold ff_
 refine e6_ (congrArg (λo=>Option.bind o _) (on_ hl)) ?_
 unfold okW
 rw[a0_]
 cases t.all zg_ with
 | false=>rfl
 | true =>
  simp only[a5_,c1_]
  cases t==[] with
  | true=>rfl
  | false =>
   simp only[h2_,a5_,c1_]
   rw[yt_ (by decide),a0_]
   rfl
theorem ad8 {t:List UInt8} (hl:Sm t.length):hr_ t=some (okW t,()):=by
 unfold hr_
 refine e6_ (congrArg (λo=>Option.bind o _) (on_ hl)) ?_
 unfold okW
 rw[a0_]
 cases t.all zg_ with
 | false=>rfl
 | true =>
  simp only[a5_,c1_]
  refine bn_ reserved (λi y=>cond (t==y) (some (inr (false,()):Unit⊕(Bool×Unit))) none) (λi=>((i:Int),())) (r0:=inl ()) (λi y hy => ?_) ?_ ?_
  ·have hi:=am_ hy
   have h10:i<10:=hi
   have hy':=hy
   unfold reserved at hy'
   refine e6_ (congrArg (λc=>cond c _ _) (dlt hi)) ?_
   simp only[a5_,ah_ hy',a0_,az_ (show Sm i by omega)]
   rw[beqc t y]
   cases t==y<;>rfl
  ·rfl
  ·rw[hm_ (q:=λy=>t==y),hj_]
   cases reserved.contains t with
   | true=>simp
   | false=>simp
theorem bw1 {t:List UInt8} (hl:Sm t.length):ng_ t=some (okW t,()):=by
  unfold ng_
  have h0:(((cond (t==[]) (some ((t==[]),())) (cond (t==[97,116]) (some ((t==[97,116]),())) (cond (t==[115,116,97,116,101,115]) (some ((t==[115,116,97,116,101,115]),())) (cond (t==[115,116,97,114,116]) (some ((t==[115,116,97,114,116]),()))
     (cond (t==[103,111,110,101]) (some ((t==[103,111,110,101]),())) (cond (t==[105,102]) (some ((t==[105,102]),())) (cond (t==[108,111,99,107]) (some ((t==[108,111,99,107]),())) (cond (t==[119,105,116,104]) (some ((t==[119,105,116,104]),()))
     (cond (t==[115,101,116,115]) (some ((t==[115,101,116,115]),())) (cond (t==[115,112,101,110,100,115]) (some ((t==[115,112,101,110,100,115]),())) (some ((t==[98,114,105,110,103,115]),()))))))))))))):Option (Bool×Unit))=some ((t==[]||reserved.contains t),()):=by
    unfold reserved
    simp only[List.contains_cons,List.contains_nil,i4_]
    cases t==[] with
    | true=>rfl
    | false =>
    cases t==[97,116] with
    | true=>rfl
    | false =>
    cases t==[115,116,97,116,101,115] with
    | true=>rfl
    | false =>
    cases t==[115,116,97,114,116] with
    | true=>rfl
    | false =>
    cases t==[103,111,110,101] with
    | true=>rfl
    | false =>
    cases t==[105,102] with
    | true=>rfl
    | false =>
    cases t==[108,111,99,107] with
    | true=>rfl
    | false =>
    cases t==[119,105,116,104] with
    | true=>rfl
    | false =>
    cases t==[115,101,116,115] with
    | true=>rfl
    | false =>
    cases t==[115,112,101,110,100,115] with
    | true=>rfl
    | false=>rfl
  refine e6_ (congrArg (λo=>Option.bind o _) h0) ?_
  rw[a0_]
  unfold okW
  cases hz:(t==[]||reserved.contains t) with
  | true =>
    have:(!(t==[])&&!(reserved.contains t))=false:=by
      rw[← Bool.not_or,hz];rfl
    rw[this,g2_]
    rfl
  | false =>
    have:(!(t==[])&&!(reserved.contains t))=true:=by
      rw[← Bool.not_or,hz];rfl
    rw[this,h3_]
    simp only[a2_]
    refine e6_ (congrArg (λo=>Option.bind o _) (on_ hl)) ?_
    rw[a0_]
    cases t.all zg_<;>rfl
theorem kl_ {t:List UInt8} (hl:Sm t.length):dw_ t=some (okN t,()):=by
 unfold dw_ okN
 rw[ad8 hl]
 cases decide ((t.length:Int)≤12)<;>rfl
end
section
def nv_ (things:List gz_) (th n:Int):Bool:=wi th 0 (w64 ((things.length:Int) - 1))&&match at? things th with
 | some t=>wi n 0 (w64 (t.2.2.1 - 1))
 | none=>false
theorem ak3 {α:Type} {l:List α} {i:Int} (hl:Sm l.length) (h:wi i 0 (w64 ((l.length:Int) - 1))=true):∃ x,at? l i=some x:=by
 rw[er_ (by omega) (by omega)] at h
 obtain⟨h1,h2⟩:=cg_.1 h
 obtain⟨x,hx⟩:=bd_ (l:=l) (i:=i.toNat) (by omega)
 exact⟨x,by rw[show i=((i.toNat:Nat):Int) by omega];exact ah_ hx⟩
theorem pt_ {r:ae_} (hl:Sm r.2.1.length) (th n:Int):fg_ r th n=some (nv_ r.2.1 th n,()):=by
 unfold fg_ nv_
 rw[dy_,a0_]
 cases h:wi th 0 (w64 ((r.2.1.length:Int) - 1)) with
 | false=>rfl
 | true =>
  obtain⟨x,hx⟩:=ak3 hl h
  simp only[a5_,hx,a0_,dy_,c1_]
theorem rw_ {r:ae_} (hl:Sm r.2.1.length) (th n:Int):gw_ r th n=some (nv_ r.2.1 th n,()):=by
 unfold gw_ nv_
 rw[fp_,a0_]
 cases h:wi th 0 (w64 ((r.2.1.length:Int) - 1)) with
 | false=>rfl
 | true =>
  obtain⟨x,hx⟩:=ak3 hl h
  simp only[a5_,hx,a0_,fp_,c1_]
def cOk (things:List gz_) (c:List bg_):Bool:=decide ((c.length:Int)≤8)&&c.all λl=>nv_ things l.1 l.2.1
theorem ug_ {α:Type} (l:List α) (q:α→Bool):(!(l.any λx=>!(q x)))=l.all q:=by
 induction l with
 | nil=>rfl
 | cons x l ih =>
  rw[q2_,List.all_cons,← ih]
  cases q x<;>rfl
theorem ke_ {r:ae_} (hl:Sm r.2.1.length) (c:List bg_):dv_ r c=some (cOk r.2.1 c,()):=by
 unfold dv_ cOk
 cases h8:decide ((c.length:Int)≤8) with
 | false=>rfl
 | true =>
  have h8:=g3_ h8
  simp only[a5_,c1_]
  refine e6_ (congrArg (λo=>Option.bind o _) (ow_ (show Sm c.length by omega) (λl=>!(nv_ r.2.1 l.1 l.2.1)) (λi y hy => ?_) ?_)) ?_
  ·simp only[dlt (am_ hy),a5_,ah_ hy,a0_,pt_ hl]
   cases nv_ r.2.1 y.1 y.2.1<;>rfl
  ·simp only[dnl,a2_]
  ·rw[a0_]
   exact congrArg (λb=>some (b,())) (ug_ c _)
theorem ha_ {r:ae_} (hl:Sm r.2.1.length) {c:List bg_} (hc:Sm c.length):cu_ r c=some (cOk r.2.1 c,()):=by
 unfold cu_ cOk
 refine bn_ c (λi l=>cond (nv_ r.2.1 l.1 l.2.1) none (some (inr (false,()):Unit⊕(Bool×Unit)))) (λi=>((i:Int),())) (r0:=inl ()) (λi y hy => ?_) ?_ ?_
 ·have hi:=am_ hy
  simp only[dlt hi,a5_,ah_ hy,a0_,az_ (show Sm i by omega),rw_ hl]
  cases nv_ r.2.1 y.1 y.2.1<;>rfl
 ·simp only[dnl,a2_]
 ·rw[jl_ (q:=λl:bg_=>nv_ r.2.1 l.1 l.2.1)]
  cases c.all λl=>nv_ r.2.1 l.1 l.2.1 with
  | true=>rw[h3_];rfl
  | false=>rw[g2_];rfl
theorem bm4 {r:ae_} (hl:Sm r.2.1.length) (c:List bg_):lq_ r c=some (cOk r.2.1 c,()):=by
 unfold lq_ cOk
 cases h8:decide ((c.length:Int)≤8) with
 | false=>rfl
 | true =>
  have h8:=g3_ h8
  simp only[a5_,c1_]
  refine e6_ (congrArg (λo=>Option.bind o _) (ow_ (show Sm c.length by omega) (λl=>!(nv_ r.2.1 l.1 l.2.1)) (λi y hy => ?_) ?_)) ?_
  ·simp only[dlt (am_ hy),a5_,ah_ hy,a0_,kn_,nv_]
   cases h:wi y.1 0 (w64 ((r.2.1.length:Int) - 1)) with
   | false=>rfl
   | true =>
    obtain⟨x,hx⟩:=ak3 hl h
    simp only[e8_,a2_,hx,a0_,c1_]
    cases wi y.2.1 0 (w64 (x.2.2.1 - 1))<;>rfl
  ·simp only[dnl,a2_]
  ·rw[a0_]
   exact congrArg (λb=>some (b,())) (ug_ c _)
end
section
def prv (l:List Int) (i:Nat):Int:=match i with
 | 0=>-1
 | j+1=>(l[j]?).getD 0
def dc5 (np:Nat) (l:List Int) (i:Nat) (x:Int):Bool:=decide (x≤prv l i)||decide ((np:Int)≤x)
def badQ (np:Nat) (l:List Int) (i:Nat) (x:Int):Bool:=!(wi x 0 ((np:Int) - 1))||(decide (0<i)&&decide (x≤prv l i))
def ld_ (np:Nat) (l:List Int):Bool:=(ge_ (λi x=>cond (dc5 np l i x) (some ()) none) 0 l).isNone
theorem wi_ {α ρ:Type} {q:Nat→α→Bool} {r:ρ}:∀ (l:List α) (i:Nat),ge_ (λi x=>cond (q i x) (some r) none) i l=cond (ge_ (λi x=>cond (q i x) (some ()) none) i l).isNone none (some r)
 | [],_=>rfl
 | x::l,i=>by
  unfold ge_
  cases q i x with
  | true=>rfl
  | false=>exact wi_ l (i+1)
theorem ad2 {α:Type} {q:Nat→α→Bool} (l:List α):(ge_ (λi x=>cond (q i x) (some ()) none) 0 l).isNone=true↔∀ i x,l[i]?=some x→q i x=false:=by
 rw[Option.isNone_iff_eq_none,iq_]
 constructor
 ·intro h i x hx
  have:=h i x hx
  rw[b0_] at this
  cases hq:q i x with
  | false=>rfl
  | true=>rw[hq] at this;cases this
 ·intro h i x hx
  rw[b0_,h i x hx]
  rfl
theorem dc8 (np:Nat) (l:List Int):(ge_ (λi x=>cond (badQ np l i x) (some ()) none) 0 l).isNone=ld_ np l:=by
 rw[k4_]
 unfold ld_
 rw[ad2,ad2]
 constructor
 ·intro h i x hx
  have h0:=h i x hx
  unfold badQ at h0
  rw[c0_] at h0
  obtain⟨h1,h2⟩:=h0
  have h1:wi x 0 ((np:Int) - 1)=true:=by simpa using h1
  obtain⟨h3,h4⟩:=cg_.1 h1
  unfold dc5
  rw[c0_]
  refine⟨?_,c2_ (by omega)⟩
  cases i with
  | zero=>exact c2_ (by show ¬ x≤-1;omega)
  | succ j =>
   have:decide (0<j+1)=true:=b8_ (by omega)
   rw[this,c1_] at h2
   exact h2
 ·intro h
  have pos:∀ (i:Nat) (x:Int),l[i]?=some x→0≤x∧x<np:=by
   intro i
   induction i with
   | zero =>
    intro x hx
    have h0:=h 0 x hx
    unfold dc5 at h0
    rw[c0_] at h0
    have h1:=d2_ h0.1
    have h2:=d2_ h0.2
    have h1:¬ x≤-1:=h1
    omega
   | succ j ih =>
    intro x hx
    have h0:=h (j+1) x hx
    unfold dc5 at h0
    rw[c0_] at h0
    have h1:=d2_ h0.1
    have h2:=d2_ h0.2
    obtain⟨y,hy⟩:=bd_ (l:=l) (i:=j) (by have:=am_ hx;omega)
    have h3:=ih y hy
    have h1:¬ x≤(l[j]?).getD 0:=h1
    rw[hy] at h1
    have h1:¬ x≤y:=h1
    omega
  intro i x hx
  have h0:=h i x hx
  unfold dc5 at h0
  rw[c0_] at h0
  have hp:=pos i x hx
  unfold badQ
  have:wi x 0 ((np:Int) - 1)=true:=cg_.2 ⟨hp.1,by omega⟩
  rw[this,h0.1,g2_]
  rfl
theorem te_ {r:ae_} {l:List Int} (hl:Sm l.length):hd_ r l=some (ld_ r.2.2.1.length l,()):=by
 unfold hd_
 refine bn_ l (λi x=>cond (dc5 r.2.2.1.length l i x) (some (inr (false,()):Unit⊕(Bool×Unit))) none) (λi=>(prv l i,((i:Int),()))) (r0:=inl ()) (λi y hy => ?_) ?_ ?_
 ·have hi:=am_ hy
  simp only[dlt hi,a5_,ah_ hy,a0_,az_ (show Sm i by omega),dc5]
  have hn:prv l (i+1)=y:=by show (l[i]?).getD 0=y;rw[hy];rfl
  cases decide (y≤prv l i) with
  | true=>rfl
  | false =>
   simp only[a2_,l1_,a0_,hn]
   cases decide ((r.2.2.1.length:Int)≤y)<;>rfl
 ·simp only[dnl,a2_]
 ·rw[wi_]
  unfold ld_
  cases (ge_ (λi x=>cond (dc5 r.2.2.1.length l i x) (some ()) none) 0 l).isNone<;>rfl
theorem kk_ {r:ae_} (hp:Sm r.2.2.1.length) {l:List Int} (hl:Sm l.length):dg_ r l=some (ld_ r.2.2.1.length l,()):=by
 unfold dg_
 refine bn_ l (λi x=>cond (badQ r.2.2.1.length l i x) (some (inr (false,()):Unit⊕(Bool×Unit))) none) (λi=>((i:Int),())) (r0:=inl ()) (λi y hy => ?_) ?_ ?_
 ·have hi:=am_ hy
  rw[show w64 ((r.2.2.1.length:Int) - 1)=(r.2.2.1.length:Int) - 1 from er_ (by omega) (by omega)]
  simp only[dlt hi,a5_,ah_ hy,a0_,az_ (show Sm i by omega),fp_,badQ]
  cases wi y 0 ((r.2.2.1.length:Int) - 1) with
  | false=>rfl
  | true =>
   simp only[e8_,a2_,l1_]
   cases i with
   | zero=>rfl
   | succ j =>
    obtain⟨z,hz⟩:=bd_ (l:=l) (i:=j) (by omega)
    have e:w64 (((j+1:Nat):Int) - 1)=(j:Int):=by rw[er_ (by omega) (by omega)];omega
    have hn:prv l (j+1)=z:=by show (l[j]?).getD 0=z;rw[hz];rfl
    rw[show decide (0<((j+1:Nat):Int))=true from b8_ (by omega),e,ah_ hz,hn,show decide (0<j+1)=true from b8_ (by omega)]
    simp only[a5_,a0_,c1_]
    cases decide (y≤z)<;>rfl
 ·simp only[dnl,a2_]
 ·rw[wi_,dc8]
  cases ld_ r.2.2.1.length l<;>rfl
end
end Go.Proofs.YtgeehfnbhbibeaaGreatDoor.Rx
namespace Go.Proofs.YtgeehfnbhbibeaaGreatDoor.Rx
open Go Pad Rex Go.Proofs Go.Proofs.Tryz Sum
section
set_option maxRecDepth 100000
set_option maxHeartbeats 0
noncomputable def fu_ (a0:ae_):Option (Int×Unit) :=
 (((cond (decide (8<(a0.1.length:Int)))
 (some (true,()))
 (cond (decide (12<(a0.2.1.length:Int)))
 (some (true,()))
 (cond (decide (10<(a0.2.2.1.length:Int)))
 (some (true,()))
 (cond (decide (16<(a0.2.2.2.1.length:Int)))
 (some (true,()))
 (cond (decide (24<(a0.2.2.2.2.1.length:Int)))
 (some (true,()))
 (some ((decide (12<(a0.2.2.2.2.2.1.length:Int))),())))))))).bind λv0 =>
 (cond v0.1
 (some (2,()))
 (cond ((a0.1.length:Int)==0)
 (some (22,()))
 ((ag_ (ρ:=(Unit⊕(Int×Unit))) (λ(v1:(Int×Unit)) =>
 (cond (decide (v1.1<(a0.1.length:Int)))
 ((((at? a0.1 v1.1).bind λv2 =>
 ((dw_ v2).bind λv3 =>
 (cond (!v3.1)
 (some (true,()))
 ((fs_ a0.1 v1.1).bind λv4 =>
 (some (v4.1,()))))))).bind λv5 =>
 (cond v5.1
 (some (inr (inr (22,()))))
 (some (inl ((w64 (v1.1+1)),())))))
 (some (inr (inl ()))))) (0,())).bind λv6 =>
 (cj_ v6 (λv7=>((ag_ (ρ:=(Unit⊕(Int×Unit))) (λ(v9:((List (List UInt8))×(Int×Unit))) =>
 (cond (decide (v9.2.1<(a0.2.1.length:Int)))
 ((at? a0.2.1 v9.2.1).bind λv10 =>
 ((push? (α:=(List UInt8)) v9.1 [v10.1]).bind λv11 =>
 ((((dw_ v10.1).bind λv12 =>
 (cond (!v12.1)
 (some (true,()))
 ((fs_ v11 v9.2.1).bind λv13 =>
 (cond v13.1
 (some (true,()))
 ((ct_ a0 v10.2.1).bind λv14 =>
 (cond (!v14.1)
 (some (true,()))
 ((bs_ v10.2.2.1 2 6).bind λv15 =>
 (cond (!v15.1)
 (some (true,()))
 ((bs_ v10.2.2.2 0 (w64 (v10.2.2.1 - 1))).bind λv16 =>
 (some ((!v16.1),())))))))))))).bind λv17 =>
 (cond v17.1
 (some (inr (inr (21,()))))
 (some (inl (v11,((w64 (v9.2.1+1)),()))))))))
 (some (inr (inl ()))))) ([],(0,()))).bind λv18 =>
 (cj_ v18 (λv19=>((ag_ (ρ:=(Unit⊕(Int×Unit))) (λ(v21:((List (List UInt8))×(Int×Unit))) =>
 (cond (decide (v21.2.1<(a0.2.2.1.length:Int)))
 ((at? a0.2.2.1 v21.2.1).bind λv22 =>
 ((push? (α:=(List UInt8)) v21.1 [v22.1]).bind λv23 =>
 ((((dw_ v22.1).bind λv24 =>
 (cond (!v24.1)
 (some (true,()))
 ((fs_ v23 v21.2.1).bind λv25 =>
 (cond v25.1
 (some (true,()))
 (cond (v22.2.1 != (-1))
 ((ct_ a0 v22.2.1).bind λv26 =>
 (some ((!v26.1),())))
 (some (false,())))))))).bind λv27 =>
 (cond v27.1
 (some (inr (inr (24,()))))
 ((cu_ a0 v22.2.2).bind λv28 =>
 (cond (!v28.1)
 (some (inr (inr (25,()))))
 (some (inl (v23,((w64 (v21.2.1+1)),()))))))))))
 (some (inr (inl ()))))) ([],(0,()))).bind λv29 =>
 (cj_ v29 (λv30=>((ag_ (ρ:=(Unit⊕(Int×Unit))) (λ(v32:(Int×Unit)) =>
 (cond (decide (v32.1<(a0.2.2.2.1.length:Int)))
 ((at? a0.2.2.2.1 v32.1).bind λv33 =>
 ((((ct_ a0 v33.1).bind λv34 =>
 (cond (!v34.1)
 (some (true,()))
 ((ct_ a0 v33.2.1).bind λv35 =>
 (cond (!v35.1)
 (some (true,()))
 (some ((v33.1==v33.2.1),()))))))).bind λv36 =>
 (cond v36.1
 (some (inr (inr (23,()))))
 ((cu_ a0 v33.2.2).bind λv37 =>
 (cond (!v37.1)
 (some (inr (inr (25,()))))
 (some (inl ((w64 (v32.1+1)),()))))))))
 (some (inr (inl ()))))) (0,())).bind λv38 =>
 (cj_ v38 (λv39=>((ag_ (ρ:=(Unit⊕(Int×Unit))) (λ(v41:(Int×Unit)) =>
 (cond (decide (v41.1<(a0.2.2.2.2.1.length:Int)))
 ((ne_ a0 v41.1).bind λv42 =>
 (cond (!v42.1)
 (some (inr (inr (26,()))))
 ((at? a0.2.2.2.2.1 v41.1).bind λv43 =>
 ((cu_ a0 v43.2.2.2.2.1).bind λv44 =>
 (cond (!v44.1)
 (some (inr (inr (25,()))))
 (some (inl ((w64 (v41.1+1)),()))))))))
 (some (inr (inl ()))))) (0,())).bind λv45 =>
 (cj_ v45 (λv46=>((ag_ (ρ:=(Unit⊕(Int×Unit))) (λ(v48:(Int×Unit)) =>
 (cond (decide (v48.1<(a0.2.2.2.2.2.1.length:Int)))
 ((at? a0.2.2.2.2.2.1 v48.1).bind λv49 =>
 ((at? a0.2.2.2.2.2.1 v48.1).bind λv50 =>
 ((gw_ a0 v49.2.1 v50.2.2).bind λv51 =>
 (cond (!v51.1)
 (some (inr (inr (27,()))))
 ((at? a0.2.2.2.2.2.1 v48.1).bind λv52 =>
 ((cu_ a0 v52.1).bind λv53 =>
 (cond (!v53.1)
 (some (inr (inr (25,()))))
 (some (inl ((w64 (v48.1+1)),()))))))))))
 (some (inr (inl ()))))) (0,())).bind λv54 =>
 (cj_ v54 (λv55=>((bs_ a0.2.2.2.2.2.2.1 1 4).bind λv57 =>
 (cond (!v57.1)
 (some (1,()))
 ((cu_ a0 a0.2.2.2.2.2.2.2).bind λv58 =>
 (cond (!v58.1)
 (some (25,()))
 (some (0,())))))))
 (λv56=>(some v56)))))
 (λv47=>(some v47)))))
 (λv40=>(some v40)))))
 (λv31=>(some v31)))))
 (λv20=>(some v20)))))
 (λv8=>(some v8)))))))
theorem x_52:av_ (P:=prog) (cxC [c_56,c_81,c_82,c_83,c_84,c_85,c_86] []) (.p .z (.p (.j0 [.v 46 .bool] .z .z) (.p .z (.p (.p .z (.ls [.v 3 .int] [] [] 0 (.p .z (.p (.j0 [.v 70 .bool] .z .z) .z)))) (.p .z (.p (.p .z (.ls [.r 4 .str 9,.v 5 .int] [] [] 2 (.p .z (.p (.p .z (.p .z (.j0 [.v 118 .bool] .z .z))) .z)))) (.p .z (.p (.p .z (.ls [.r 4 .str 9,.v 7 .int] [] [] 4 (.p .z (.p (.p .z (.p .z (.p (.j0 [.v 156 .bool] .z .z) .z))) .z)))) (.p (.p .z (.ls [.v 9 .int] [] [] 6 (.p .z (.p (.p .z (.p (.j0 [.v 192 .bool] .z .z) .z)) .z)))) (.p (.p .z (.ls [.v 11 .int] [] [] 8 (.p .z (.p (.p .z (.p (.q [] .z .z) .z)) .z)))) (.p (.p .z (.ls [.v 12 .int] [] [] 10 (.p .z (.p (.p (.p (.q [] .z .z) .z) (.p (.q [] .z .z) .z)) .z)))) .z))))))))))) 52 [ao_] [.int]=λx=>fu_ x.1:=by kernel_rfl
noncomputable def c_52:Con prog:=aw_ _ _ 52 [ao_] [.int] _ x_52
noncomputable def jr_ (a0:ad_) (a1:Int):Option (Bool×Unit) :=
 ((at? a0.2.2.2.1 a1).bind λv0 =>
 ((ag_ (ρ:=(Unit⊕(Bool×Unit))) (λ(v1:(Int×Unit)) =>
 (cond (decide (v1.1<a1))
 ((at? a0.2.2.2.1 v1.1).bind λv2 =>
 (cond (v2.1==v0.1)
 (some (inr (inr (false,()))))
 (some (inl ((w64 (v1.1+1)),())))))
 (some (inr (inl ()))))) (0,())).bind λv3 =>
 (cj_ v3 (λv4=>((((dw_ v0.1).bind λv6 =>
 (cond (!v6.1)
 (some (true,()))
 ((iy_ v0.2.1 0 (w64 ((a0.1.1.length:Int) - 1))).bind λv7 =>
 (cond (!v7.1)
 (some (true,()))
 ((iy_ v0.2.2.1 (-1) (w64 ((a0.2.1.length:Int) - 1))).bind λv8 =>
 (some ((!v8.1),())))))))).bind λv9 =>
 (cond v9.1
 (some (false,()))
 (cond (v0.2.2.1==(-1))
 ((ll_ v0.2.2.2.2).bind λv10 =>
 (some (v10.1,())))
 ((at? a0.2.1 v0.2.2.1).bind λv11 =>
 ((fw_ v11 v0.2.2.2.2).bind λv12 =>
 (cond (v12.1==0)
 ((at? a0.2.2.1 v0.2.2.1).bind λv13 =>
 ((fl_ v0.2.2.2.2 v13).bind λv14 =>
 (some (v14.1,()))))
 (some (false,())))))))))
 (λv5=>(some v5)))))
theorem x_55:av_ (P:=prog) (cxC [c_57,c_81,c_89,c_90,c_91] []) (.p .z (.p .z (.p (.p .z (.ls [.v 6 .int] [] [] 0 .z)) (.p (.j0 [.v 50 .bool] .z .z) .z)))) 55 [an_,.int] [.bool]=λx=>jr_ x.1 x.2.1:=by kernel_rfl
noncomputable def c_55:Con prog:=aw_ _ _ 55 [an_,.int] [.bool] _ x_55
noncomputable def nf_ (a0:ac_) (a1:(List ak_)):Option ((List (List Int))×Unit) :=
 ((ag_ (ρ:=(Int×Unit)) (λ(v0:(Int×(Int×Unit))) =>
 (cond (decide (v0.2.1<a0.1))
 (some (inl ((w64 (v0.1 * a0.2)),((w64 (v0.2.1+1)),()))))
 (some (inr (v0.1,()))))) (1,(0,()))).bind λv1 =>
 ((ag_ (ρ:=((List (List Int))×Unit)) (λ(v2:((List (List Int))×(Int×Unit))) =>
 (cond (decide (v2.2.1<v1.1))
 ((((mk? (α:=Int) a0.1 0).bind λv3 =>
 ((ag_ (ρ:=((List Int)×Unit)) (λ(v4:(Int×(Int×((List Int)×Unit)))) =>
 (cond (decide (0≤v4.2.1))
 ((md v4.1 a0.2).bind λv5 =>
 ((at? v4.2.2.1 v4.2.1).bind λv6 =>
 ((at? v4.2.2.1 v4.2.1).bind λv7 =>
 ((dv v4.1 a0.2).bind λv8 =>
 (some (inl (v8,((w64 (v4.2.1 - 1)),((v4.2.2.1.set v4.2.1.toNat v5),())))))))))
 (some (inr (v4.2.2.1,()))))) (v2.2.1,((w64 (a0.1 - 1)),(v3,())))).bind λv9 =>
 ((jx_ a1 v9.1).bind λv10 =>
 (cond (decide (v10.1<0))
 ((push? (α:=(List Int)) v2.1 [v9.1]).bind λv11 =>
 (some (v11,())))
 (some (v2.1,()))))))).bind λv12 =>
 (some (inl (v12.1,((w64 (v2.2.1+1)),())))))
 (some (inr (v2.1,()))))) ([],(0,()))).bind λv13 =>
 (some (v13.1,()))))
theorem x_234:av_ (P:=prog) (cxC [c_254] []) (.p .z (.p .z (.p (.p .z (.lp [.v 5 .int,.v 6 .int] [.v 5 .int] [] 0 .z)) (.p .z (.p (.p .z (.lp [.r 7 (.list .int) 55,.v 8 .int] [.r 7 (.list .int) 55] [] 2 (.p .z (.j0 [.r 7 (.list .int) 55] (.p .z (.p .z (.p (.p .z (.lp [.v 10 .int,.v 11 .int] [] [.o (.s 9) .int] 4 .z)) .z))) .z)))) .z))))) 234 [al_,(.list aq_)] [(.list (.list .int))]=λx=>nf_ x.1 x.2.1:=by kernel_rfl
noncomputable def c_234:Con prog:=aw_ _ _ 234 [al_,(.list aq_)] [(.list (.list .int))] _ x_234
noncomputable def fk_ (a0:ae_):Option (Int×Unit) :=
 (((cond (decide (8<(a0.1.length:Int)))
 (some (true,()))
 (cond (decide (12<(a0.2.1.length:Int)))
 (some (true,()))
 (cond (decide (10<(a0.2.2.1.length:Int)))
 (some (true,()))
 (cond (decide (16<(a0.2.2.2.1.length:Int)))
 (some (true,()))
 (cond (decide (24<(a0.2.2.2.2.1.length:Int)))
 (some (true,()))
 (some ((decide (12<(a0.2.2.2.2.2.1.length:Int))),())))))))).bind λv0 =>
 (cond v0.1
 (some (2,()))
 ((ag_ (ρ:=(Unit⊕(Int×Unit))) (λ(v1:(Int×Unit)) =>
 (cond (decide (v1.1<(a0.1.length:Int)))
 ((at? a0.1 v1.1).bind λv2 =>
 ((sub? a0.1 0 v1.1).bind λv3 =>
 ((((ff_ v2).bind λv4 =>
 (cond v4.1
 (cond (decide ((v2.length:Int)≤12))
 ((((ag_ (ρ:=(Unit⊕(Int×Unit))) (λ(v5:(Int×Unit)) =>
 (cond (decide (v5.1<(v3.length:Int)))
 ((at? v3 v5.1).bind λv6 =>
 (cond (v6==v2)
 (some (inr (inr (v5.1,()))))
 (some (inl ((w64 (v5.1+1)),())))))
 (some (inr (inl ()))))) (0,())).bind λv7 =>
 (cj_ v7 (λv8=>(some ((-1),())))
 (λv9=>(some v9))))).bind λv10 =>
 (some ((decide (v10.1<0)),())))
 (some (false,())))
 (some (false,()))))).bind λv11 =>
 (cond (!v11.1)
 (some (inr (inr (22,()))))
 (some (inl ((w64 (v1.1+1)),())))))))
 (some (inr (inl ()))))) (0,())).bind λv12 =>
 (cj_ v12 (λv13=>(cond ((a0.1.length:Int)==0)
 (some (22,()))
 ((ag_ (ρ:=(Unit⊕(Int×Unit))) (λ(v15:(Int×Unit)) =>
 (cond (decide (v15.1<(a0.2.1.length:Int)))
 ((at? a0.2.1 v15.1).bind λv16 =>
 ((((sub? a0.2.1 0 v15.1).bind λv17 =>
 ((((ff_ v16.1).bind λv18 =>
 (cond v18.1
 (cond (decide ((v16.1.length:Int)≤12))
 ((((ag_ (ρ:=(Unit⊕(Int×Unit))) (λ(v19:(Int×Unit)) =>
 (cond (decide (v19.1<(v17.length:Int)))
 ((at? v17 v19.1).bind λv20 =>
 (cond (v20.1==v16.1)
 (some (inr (inr (v19.1,()))))
 (some (inl ((w64 (v19.1+1)),())))))
 (some (inr (inl ()))))) (0,())).bind λv21 =>
 (cj_ v21 (λv22=>(some ((-1),())))
 (λv23=>(some v23))))).bind λv24 =>
 (some ((decide (v24.1<0)),())))
 (some (false,())))
 (some (false,()))))).bind λv25 =>
 (cond (!v25.1)
 (some (true,()))
 ((be_ v16.2.1 0 (w64 ((a0.1.length:Int) - 1))).bind λv26 =>
 (cond (!v26.1)
 (some (true,()))
 ((be_ v16.2.2.1 2 6).bind λv27 =>
 (cond (!v27.1)
 (some (true,()))
 ((be_ v16.2.2.2 0 (w64 (v16.2.2.1 - 1))).bind λv28 =>
 (some ((!v28.1),()))))))))))).bind λv29 =>
 (cond v29.1
 (some (inr (inr (21,()))))
 (some (inl ((w64 (v15.1+1)),()))))))
 (some (inr (inl ()))))) (0,())).bind λv30 =>
 (cj_ v30 (λv31=>((ag_ (ρ:=(Unit⊕(Int×Unit))) (λ(v33:(Int×Unit)) =>
 (cond (decide (v33.1<(a0.2.2.1.length:Int)))
 ((at? a0.2.2.1 v33.1).bind λv34 =>
 ((((sub? a0.2.2.1 0 v33.1).bind λv35 =>
 ((((ff_ v34.1).bind λv36 =>
 (cond v36.1
 (cond (decide ((v34.1.length:Int)≤12))
 ((((ag_ (ρ:=(Unit⊕(Int×Unit))) (λ(v37:(Int×Unit)) =>
 (cond (decide (v37.1<(v35.length:Int)))
 ((at? v35 v37.1).bind λv38 =>
 (cond (v38.1==v34.1)
 (some (inr (inr (v37.1,()))))
 (some (inl ((w64 (v37.1+1)),())))))
 (some (inr (inl ()))))) (0,())).bind λv39 =>
 (cj_ v39 (λv40=>(some ((-1),())))
 (λv41=>(some v41))))).bind λv42 =>
 (some ((decide (v42.1<0)),())))
 (some (false,())))
 (some (false,()))))).bind λv43 =>
 (cond (!v43.1)
 (some (true,()))
 ((be_ v34.2.1 0 (w64 ((a0.1.length:Int) - 1))).bind λv44 =>
 (cond (!v44.1)
 (some ((v34.2.1 != (-1)),()))
 (some (false,())))))))).bind λv45 =>
 (cond v45.1
 (some (inr (inr (24,()))))
 ((dv_ a0 v34.2.2).bind λv46 =>
 (cond (!v46.1)
 (some (inr (inr (25,()))))
 (some (inl ((w64 (v33.1+1)),()))))))))
 (some (inr (inl ()))))) (0,())).bind λv47 =>
 (cj_ v47 (λv48=>((ag_ (ρ:=(Unit⊕(Int×Unit))) (λ(v50:(Int×Unit)) =>
 (cond (decide (v50.1<(a0.2.2.2.1.length:Int)))
 ((at? a0.2.2.2.1 v50.1).bind λv51 =>
 ((((be_ v51.1 0 (w64 ((a0.1.length:Int) - 1))).bind λv52 =>
 (cond (!v52.1)
 (some (true,()))
 ((be_ v51.2.1 0 (w64 ((a0.1.length:Int) - 1))).bind λv53 =>
 (cond (!v53.1)
 (some (true,()))
 (some ((v51.1==v51.2.1),()))))))).bind λv54 =>
 (cond v54.1
 (some (inr (inr (23,()))))
 ((dv_ a0 v51.2.2).bind λv55 =>
 (cond (!v55.1)
 (some (inr (inr (25,()))))
 (some (inl ((w64 (v50.1+1)),()))))))))
 (some (inr (inl ()))))) (0,())).bind λv56 =>
 (cj_ v56 (λv57=>((ag_ (ρ:=(Unit⊕(Int×Unit))) (λ(v59:(Int×Unit)) =>
 (cond (decide (v59.1<(a0.2.2.2.2.1.length:Int)))
 ((at? a0.2.2.2.2.1 v59.1).bind λv60 =>
 ((qd_ a0 v59.1 v60).bind λv61 =>
 (cond (!v61.1)
 (some (inr (inr (26,()))))
 ((dv_ a0 v60.2.2.2.2.1).bind λv62 =>
 (cond (!v62.1)
 (some (inr (inr (25,()))))
 (some (inl ((w64 (v59.1+1)),()))))))))
 (some (inr (inl ()))))) (0,())).bind λv63 =>
 (cj_ v63 (λv64=>((ag_ (ρ:=(Unit⊕(Int×Unit))) (λ(v66:(Int×Unit)) =>
 (cond (decide (v66.1<(a0.2.2.2.2.2.1.length:Int)))
 ((at? a0.2.2.2.2.2.1 v66.1).bind λv67 =>
 ((fg_ a0 v67.2.1 v67.2.2).bind λv68 =>
 (cond (!v68.1)
 (some (inr (inr (27,()))))
 ((dv_ a0 v67.1).bind λv69 =>
 (cond (!v69.1)
 (some (inr (inr (25,()))))
 (some (inl ((w64 (v66.1+1)),()))))))))
 (some (inr (inl ()))))) (0,())).bind λv70 =>
 (cj_ v70 (λv71=>((be_ a0.2.2.2.2.2.2.1 1 4).bind λv73 =>
 (cond (!v73.1)
 (some (1,()))
 ((dv_ a0 a0.2.2.2.2.2.2.2).bind λv74 =>
 (cond (!v74.1)
 (some (25,()))
 (some (0,())))))))
 (λv72=>(some v72)))))
 (λv65=>(some v65)))))
 (λv58=>(some v58)))))
 (λv49=>(some v49)))))
 (λv32=>(some v32))))))
 (λv14=>(some v14))))))
theorem x_131:av_ (P:=prog) (cxI (λk=>cond (Nat.beq k 169) (.p .z (.j0 [.v 6 .bool] .z .z)) (cond (Nat.beq k 171) (.p .z (.j0 [.v 6 .bool] .z .z)) (cond (Nat.beq k 173) (.p .z (.j0 [.v 6 .bool] .z .z)) (cond (Nat.beq k 207) (.p .z (.j0 [.v 6 .int] .z .z)) (cond (Nat.beq k 208) (.p .z (.j0 [.v 6 .int] .z .z)) (cond (Nat.beq k 209) (.p .z (.j0 [.v 6 .int] .z .z)) (cond (Nat.beq k 236) (.p .z (.p (.p .z (.ls [.v 8 .int] [] [] 0 .z)) .z)) (cond (Nat.beq k 237) (.p .z (.p (.q [] .z .z) .z)) (cond (Nat.beq k 238) (.p .z (.p (.p .z (.ls [.v 8 .int] [] [] 0 .z)) .z)) (cond (Nat.beq k 239) (.p .z (.p (.q [] .z .z) .z)) (cond (Nat.beq k 240) (.p .z (.p (.p .z (.ls [.v 8 .int] [] [] 0 .z)) .z)) (cond (Nat.beq k 241) (.p .z (.p (.q [] .z .z) .z)) (.z))))))))))))) (λk=>Nat.beq k 164||Nat.beq k 165||Nat.beq k 170||Nat.beq k 172||Nat.beq k 174||Nat.beq k 175||Nat.beq k 176||Nat.beq k 206||false) (cxC [cv8,ch9,c_170,c_172,c_174,c_175,c_176,c_206] []) 12) (.p .z (.p (.j0 [.v 49 .bool] .z .z) (.p .z (.p (.p .z (.ls [.v 54 .int] [] [] 0 .z)) (.p .z (.p (.p .z (.ls [.v 74 .int] [] [] 2 (.p .z (.p .z (.p (.p .z (.j0 [.v 108 .bool] .z .z)) .z))))) (.p (.p .z (.ls [.v 113 .int] [] [] 4 (.p .z (.p .z (.p (.p .z (.p (.j0 [.v 137 .bool] .z .z) .z)) .z))))) (.p (.p .z (.ls [.v 147 .int] [] [] 6 (.p .z (.p .z (.p (.p .z (.p (.j0 [.v 169 .bool] .z .z) .z)) .z))))) (.p (.p .z (.ls [.v 179 .int] [] [] 8 .z)) (.p (.p .z (.ls [.v 198 .int] [] [] 10 .z)) .z)))))))))) 131 [ao_] [.int]=λx=>fk_ x.1:=by kernel_rfl
noncomputable def c_131:Con prog:=aw_ _ _ 131 [ao_] [.int] _ x_131
noncomputable def ed_ (a0:ac_) (a1:(List Int)):Option (Int×Unit) :=
 ((ht_ a0 [a1]).bind λv0 =>
 (some (v0.1,())))
theorem x_133:av_ (P:=prog) (cxC [c_178] []) .z 133 [al_,(.list .int)] [.int]=λx=>ed_ x.1 x.2.1:=by kernel_rfl
noncomputable def c_133:Con prog:=aw_ _ _ 133 [al_,(.list .int)] [.int] _ x_133
noncomputable def ga_ (a0:ac_) (a1:ak_):Option (Int×Unit) :=
 ((el_ a0).bind λv0 =>
 (cond (v0.1 != 0)
 (some (v0.1,()))
 ((di_ a0 a1).bind λv1 =>
 (cond (!v1.1)
 (some (11,()))
 (some (0,()))))))
theorem x_222:av_ (P:=prog) (cxC [cw0,c_247] []) .z 222 [al_,aq_] [.int]=λx=>ga_ x.1 x.2.1:=by kernel_rfl
noncomputable def c_222:Con prog:=aw_ _ _ 222 [al_,aq_] [.int] _ x_222
noncomputable def ey_ (a0:ac_) (a1:(List ak_)):Option (Int×Unit) :=
 ((el_ a0).bind λv0 =>
 (cond (v0.1 != 0)
 (some (v0.1,()))
 (cond (decide (20<(a1.length:Int)))
 (some (2,()))
 ((((ag_ (ρ:=(Unit⊕(Bool×Unit))) (λ(v1:(Int×Unit)) =>
 (cond (decide (v1.1<(a1.length:Int)))
 ((at? a1 v1.1).bind λv2 =>
 ((di_ a0 v2).bind λv3 =>
 (cond (!v3.1)
 (some (inr (inr ((decide (0≤v1.1)),()))))
 (some (inl ((w64 (v1.1+1)),()))))))
 (some (inr (inl ()))))) (0,())).bind λv4 =>
 (cj_ v4 (λv5=>(some ((decide (0≤(-1))),())))
 (λv6=>(some v6))))).bind λv7 =>
 (cond v7.1
 (some (11,()))
 (some (0,())))))))
theorem x_251:av_ (P:=prog) (cxI (λk=>cond (Nat.beq k 264) (.p .z (.j0 [.v 4 .bool] .z .z)) (cond (Nat.beq k 272) (.p .z (.p (.p .z (.ls [.v 8 .int] [] [] 0 .z)) .z)) (.z))) (λk=>Nat.beq k 132||Nat.beq k 247||false) (cxC [cw0,c_247] []) 4) .z 251 [al_,(.list aq_)] [.int]=λx=>ey_ x.1 x.2.1:=by kernel_rfl
noncomputable def c_251:Con prog:=aw_ _ _ 251 [al_,(.list aq_)] [.int] _ x_251
noncomputable def ex_ (a0:ac_) (a1:(List ak_)):Option (Int×Unit) :=
 ((mk? (α:=Int) a0.1 0).bind λv0 =>
 ((ag_ (ρ:=((Unit×(Unit×((List Int)×((Int×Unit)×Unit))))⊕(Int×Unit))) (λ(v1:(Unit×(Unit×((List Int)×((Int×Unit)×Unit))))) =>
 ((fz_ a1 v1.2.2.1).bind λv2 =>
 (cond (decide (v2.1<0))
 ((ag_ (ρ:=(Int×((List Int)×Unit))) (λ(v3:(Int×((List Int)×Unit))) =>
 (((cond (decide (0≤v3.1))
 ((at? v3.2.1 v3.1).bind λv4 =>
 ((at? v3.2.1 v3.1).bind λv5 =>
 (some ((v5==(w64 (a0.2 - 1))),()))))
 (some (false,())))).bind λv6 =>
 (cond v6.1
 ((at? v3.2.1 v3.1).bind λv7 =>
 ((at? v3.2.1 v3.1).bind λv8 =>
 (some (inl ((w64 (v3.1 - 1)),((v3.2.1.set v3.1.toNat 0),()))))))
 (some (inr (v3.1,(v3.2.1,()))))))) ((w64 (a0.1 - 1)),(v1.2.2.1,()))).bind λv9 =>
 (cond (decide (v9.1<0))
 (some (inr (inr ((w64 (v1.2.2.2.1.1+1)),()))))
 ((at? v9.2.1 v9.1).bind λv10 =>
 ((at? v9.2.1 v9.1).bind λv11 =>
 ((at? v9.2.1 v9.1).bind λv12 =>
 ((at? v9.2.1 v9.1).bind λv13 =>
 (some (inl ((),((),((v9.2.1.set v9.1.toNat (w64 (v11+1))),(((w64 (v1.2.2.2.1.1+1)),()),()))))))))))))
 ((ag_ (ρ:=(Int×((List Int)×Unit))) (λ(v14:(Int×((List Int)×Unit))) =>
 (((cond (decide (0≤v14.1))
 ((at? v14.2.1 v14.1).bind λv15 =>
 ((at? v14.2.1 v14.1).bind λv16 =>
 (some ((v16==(w64 (a0.2 - 1))),()))))
 (some (false,())))).bind λv17 =>
 (cond v17.1
 ((at? v14.2.1 v14.1).bind λv18 =>
 ((at? v14.2.1 v14.1).bind λv19 =>
 (some (inl ((w64 (v14.1 - 1)),((v14.2.1.set v14.1.toNat 0),()))))))
 (some (inr (v14.1,(v14.2.1,()))))))) ((w64 (a0.1 - 1)),(v1.2.2.1,()))).bind λv20 =>
 (cond (decide (v20.1<0))
 (some (inr (inr (v1.2.2.2.1.1,()))))
 ((at? v20.2.1 v20.1).bind λv21 =>
 ((at? v20.2.1 v20.1).bind λv22 =>
 ((at? v20.2.1 v20.1).bind λv23 =>
 ((at? v20.2.1 v20.1).bind λv24 =>
 (some (inl ((),((),((v20.2.1.set v20.1.toNat (w64 (v22+1))),((v1.2.2.2.1.1,()),()))))))))))))))) ((),((),(v0,((0,()),()))))).bind λv25 =>
 (cj_ v25 (λv26=>(some (v26.2.2.2.1.1,())))
 (λv27=>(some v27)))))
theorem x_252:av_ (P:=prog) (cxI (λk=>cond (Nat.beq k 273) (.p .z (.p .z (.rf [2,3] .z .z))) (cond (Nat.beq k 278) (.p .z (.ls [] [] [.y (.c (.y (.s 0) 3) 0),.y (.s 0),.o (.s 3) .int,.b (.y (.c (.y (.s 0) 3) 0) 4) [.val .int]] 0 (.p .z (.p .z (.p (.lp [.v 4 .int] [.v 4 .int] [.o (.s 3) .int] 2 (.p (.j0 [.v 26 .bool] .z .z) .z)) .z))))) (.z))) (λk=>Nat.beq k 275||false) (cxC [c_275] []) 9) (.p .z (.p (.p .z (.rf [4] .z .z)) .z)) 252 [al_,(.list aq_)] [.int]=λx=>ex_ x.1 x.2.1:=by kernel_rfl
noncomputable def c_252:Con prog:=aw_ _ _ 252 [al_,(.list aq_)] [.int] _ x_252
end
end Go.Proofs.YtgeehfnbhbibeaaGreatDoor.Rx
namespace Go.Proofs.YtgeehfnbhbibeaaGreatDoor.Rx
open Go Pad Rex Sum
section
theorem pm_ {α:Type} {l:List α} {i:Nat} (h:i≤l.length):sub? l 0 (i:Int)=some (l.take i):=by
 unfold sub?
 rw[if_pos ⟨n0_ 0,by omega,by omega⟩]
 simp
def twN {α:Type} (nm:α→List UInt8) (l:List α) (i:Nat) (t:List UInt8):Bool:=(l.take i).any λy=>nm y==t
theorem qv_ {l:List (List UInt8)} {i:Nat} {x:List UInt8} (hl:Sm l.length) (hx:l[i]?=some x):fs_ l (i:Int)=some (twN id l i x,()):=by
 have hi:=am_ hx
 have hle:(l.take i).length=i:=by rw[c7_];omega
 unfold fs_
 refine bn_ (l.take i) (λ_ y=>cond (id y==x) (some (inr (true,()):Unit⊕(Bool×Unit))) none) (λi=>((i:Int),())) (r0:=inl ()) (λk y hy => ?_) ?_ ?_
 ·have hk:=am_ hy
  have hy':l[k]?=some y:=by
   rw[j1_] at hy
   split at hy
   ·exact hy
   ·cases hy
  simp only[dlt (show k<i by omega),a5_,ah_ hy',ah_ hx,a0_,az_ (show Sm k by omega),id]
  cases y==x<;>rfl
 ·rw[hle]
  simp only[dnl,a2_]
 ·rw[hm_ (q:=λy=>id y==x)]
  unfold twN
  cases (l.take i).any λy=>id y==x<;>rfl
theorem ic_ {r:ae_} (p:Int):ct_ r p=some (wi p 0 (w64 ((r.1.length:Int) - 1)),()):=by
 unfold ct_
 rw[fp_,a0_]
structure SmR (r:ae_):Prop where
 pl:Sm r.1.length
 th:Sm r.2.1.length
 pr:Sm r.2.2.1.length
 wy:Sm r.2.2.2.1.length
 ac:Sm r.2.2.2.2.1.length
 au:Sm r.2.2.2.2.2.1.length
 go:Sm r.2.2.2.2.2.2.2.length
 pln:∀ x ∈ r.1,Sm x.length
 thn:∀ x ∈ r.2.1,Sm x.1.length
 prn:∀ x ∈ r.2.2.1,Sm x.1.length∧Sm x.2.2.length
 wyn:∀ x ∈ r.2.2.2.1,Sm x.2.2.length
 acn:∀ x ∈ r.2.2.2.2.1,Sm x.1.length∧Sm x.2.2.2.1.length∧Sm x.2.2.2.2.1.length∧Sm x.2.2.2.2.2.1.length∧Sm x.2.2.2.2.2.2.1.length∧Sm x.2.2.2.2.2.2.2.length
 aun:∀ x ∈ r.2.2.2.2.2.1,Sm x.1.length
theorem ax_ {α:Type} {l:List α} {i:Nat} {x:α} (h:l[i]?=some x):x ∈ l:=b5_ h
def sk_ (r:ae_) (p:Int):Bool:=wi p 0 (w64 ((r.1.length:Int) - 1))
def frN {α:Type} (nm:α→List UInt8) (l:List α) (i:Nat) (t:List UInt8):Bool:=okN t&&!(twN nm l i t)
def plOk (r:ae_) (i:Nat) (x:List UInt8):Bool:=frN id r.1 i x
def bq7 (r:ae_) (i:Nat) (x:gz_):Bool:=frN (·.1) r.2.1 i x.1&&(sk_ r x.2.1&&(wi x.2.2.1 2 6&&wi x.2.2.2 0 (w64 (x.2.2.1 - 1))))
def cp8 (r:ae_) (i:Nat) (x:kh_):Bool:=frN (·.1) r.2.2.1 i x.1&&(sk_ r x.2.1||x.2.1==(-1))
def cl0 (r:ae_) (x:pb_):Bool:=sk_ r x.1&&(sk_ r x.2.1&&!(x.1==x.2.1))
def sz_ (a:Bool) (e:Int) (b:Bool) (f:Int):Option Int:=cond a (cond b none (some f)) (some e)
def kz_ (a:Bool) (e:Int):Option Int:=cond a none (some e)
def left (o:Option Int):Unit⊕(Int×Unit):=match o with
 | none=>.inl ()
 | some e=>.inr (e,())
theorem be9 (o:Option Int):(o.map λe=>(inr (e,()):Unit⊕(Int×Unit))).getD (inl ())=left o:=by cases o<;>rfl
theorem bu_ {α:Type} (l:List α) (p:Nat→α→Option Int) {body:(Int×Unit)→Option ((Int×Unit)⊕(Unit⊕(Int×Unit)))} {τ:Type} {K:(Unit⊕(Int×Unit))→Option τ} {x:Option τ}
  (h:∀ (i:Nat) y,l[i]?=some y→body ((i:Int),())=some (match p i y with | none=>.inl (((i+1:Nat):Int),()) | some e=>.inr (.inr (e,())))) (e:body ((l.length:Int),())=some (.inr (.inl ()))) (hk:K (left (ge_ p 0 l))=x) :
  (ag_ body (0,())).bind K=x:=by
 refine bn_ l (λi y=>(p i y).map λe=>(inr (e,()):Unit⊕(Int×Unit))) (λi=>((i:Int),())) (r0:=inl ()) (λi y hy => ?_) e ?_
 ·rw[h i y hy]
  cases p i y<;>rfl
 ·rw[ad1,be9]
  exact hk
theorem ab8 {α β:Type} (l:List α) (p:Nat→α→Option Int) (F:Nat→β) {body:(β×(Int×Unit))→Option ((β×(Int×Unit))⊕(Unit⊕(Int×Unit)))} {τ:Type} {K:(Unit⊕(Int×Unit))→Option τ} {x:Option τ} {b0:β} (h0:F 0=b0)
  (h:∀ (i:Nat) y,l[i]?=some y→body (F i,((i:Int),()))=some (match p i y with | none=>.inl (F (i+1),(((i+1:Nat):Int),())) | some e=>.inr (.inr (e,())))) (e:body (F l.length,((l.length:Int),()))=some (.inr (.inl ()))) (hk:K (left (ge_ p 0 l))=x) :
  (ag_ body (b0,(0,()))).bind K=x:=by
 subst h0
 refine bn_ l (λi y=>(p i y).map λe=>(inr (e,()):Unit⊕(Int×Unit))) (λi=>(F i,((i:Int),()))) (r0:=inl ()) (λi y hy => ?_) e ?_
 ·rw[h i y hy]
  cases p i y<;>rfl
 ·rw[ad1,be9]
  exact hk
theorem es_ {o:Option Int} {K:Unit→Option (Int×Unit)} {k:Int} (h:K ()=some (k,())):cj_ (left o) K (λy=>some y)=some (o.getD k,()):=by
 cases o with
 | none=>exact h
 | some e=>rfl
end
section
def ru_ (r:ae_) (l:List ac_) (i:Nat) (x:ac_):Bool:=nv_ r.2.1 x.1 x.2&&!((l.take i).any λy=>y.1==x.1)
def vf_ (r:ae_) (i:Nat) (a:cv_):Bool :=
 frN (·.1) r.2.2.2.2.1 i a.1&&(sk_ r a.2.1&&(wi a.2.2.1 (-1) 7&&(ld_ r.2.2.1.length a.2.2.2.1&&(ld_ r.2.2.1.length a.2.2.2.2.2.2.1&&(ld_ r.2.2.1.length a.2.2.2.2.2.2.2&&(!(decide (6<(a.2.2.2.2.2.1.length:Int)))
  && ((a.2.2.2.2.2.2.1.all λp=>a.2.2.2.1.contains p)&&(!(a.2.2.2.2.2.2.2.any λp=>a.2.2.2.1.contains p)
   && (ge_ (λi x=>cond (ru_ r a.2.2.2.2.2.1 i x) none (some ())) 0 a.2.2.2.2.2.1).isNone))))))))
theorem tc_ {α ρ:Type} {q:Nat→α→Bool} {r:ρ}:∀ (l:List α) (i:Nat),ge_ (λi x=>cond (q i x) none (some r)) i l=cond (ge_ (λi x=>cond (q i x) none (some ())) i l).isNone none (some r)
 | [],_=>rfl
 | x::l,i=>by
  unfold ge_
  cases q i x with
  | false=>rfl
  | true=>exact tc_ l (i+1)
theorem vn_ {α:Type} {l:List α} (hl:Sm l.length) (nm:α→List UInt8) {t:List UInt8} (ht:Sm t.length) :
  ((ff_ t).bind λv1=>cond v1.1 (cond (decide ((t.length:Int)≤12)) ((((ag_ (ρ:=Unit⊕(Int×Unit)) (λ(v:Int×Unit)=>cond (decide (v.1<(l.length:Int))) ((at? l v.1).bind λy=>cond (nm y==t) (some (inr (inr (v.1,())))) (some (inl (w64 (v.1+1),())))) (some (inr (inl ())))) (0,())).bind λv=>cj_ v (λ_=>some ((-1:Int),())) (λw=>some w))).bind λv=>some (decide (v.1<0),())) (some (false,()))) (some (false,())))
   = some (okN t&&!(l.any λy=>nm y==t),()):=by
 rw[bt1 ht,a0_]
 obtain⟨n,h1,h2,_⟩:=if_lt hl (λy=>nm y==t) (body:=λ(v:Int×Unit)=>cond (decide (v.1<(l.length:Int))) ((at? l v.1).bind λy=>cond (nm y==t) (some (inr (inr (v.1,())))) (some (inl (w64 (v.1+1),())))) (some (inr (inl ())))) (λi y hy=>by
  simp only[dlt (am_ hy),a5_,ah_ hy,a0_]
  cases nm y==t<;>rfl) (by simp only[dnl,a2_])
 rw[h1,a0_,h2]
 unfold okN
 cases okW t with
 | false=>rw[g2_,f0_];rfl
 | true=>cases decide ((t.length:Int)≤12)<;>rfl
theorem wg_ {α:Type} {l:List α} (h:Sm l.length) (i:Nat):Sm (l.take i).length:=by
 rw[c7_]
 exact c9_ (m6_ _ _) h
theorem co5 {r:ae_} (h:SmR r) {i:Nat} {a:cv_} (ha:r.2.2.2.2.1[i]?=some a):qd_ r (i:Int) a=some (vf_ r i a,()):=by
 have hi:=am_ ha
 obtain⟨s1,s2,s3,s4,s5,s6⟩:=h.acn a (ax_ ha)
 unfold qd_
 refine e6_ (congrArg (λo=>Option.bind o _) (?_:_=some (!(frN (·.1) r.2.2.2.2.1 i a.1&&(sk_ r a.2.1&&wi a.2.2.1 (-1) 7)),()))) ?_
 ·rw[pm_ (g5_ hi),a0_]
  refine e6_ (congrArg (λo=>Option.bind o _) (vn_ (wg_ h.ac i) (·.1) s1)) ?_
  unfold frN twN sk_
  rw[a0_]
  cases okN a.1&&!((r.2.2.2.2.1.take i).any λy=>y.1==a.1) with
  | false=>rfl
  | true =>
   simp only[dy_,a0_]
   cases wi a.2.1 0 (w64 ((r.1.length:Int) - 1)) with
   | false=>rfl
   | true=>rfl
 ·rw[a0_]
  unfold vf_
  cases frN (·.1) r.2.2.2.2.1 i a.1 with
  | false=>rfl
  | true =>
  cases sk_ r a.2.1 with
  | false=>rfl
  | true =>
  cases wi a.2.2.1 (-1) 7 with
  | false=>rfl
  | true =>
   simp only[e8_,a2_,c1_,te_ s2,te_ s5,te_ s6,a0_]
   cases ld_ r.2.2.1.length a.2.2.2.1 with
   | false=>rfl
   | true =>
   cases ld_ r.2.2.1.length a.2.2.2.2.2.2.1 with
   | false=>rfl
   | true =>
   cases ld_ r.2.2.1.length a.2.2.2.2.2.2.2 with
   | false=>rfl
   | true =>
   cases h6:decide (6<(a.2.2.2.2.2.1.length:Int)) with
   | true=>rfl
   | false =>
   simp only[e8_,h2_,a2_,c1_,a0_]
   refine e6_ (congrArg (λo=>Option.bind o _) (?_:_=some (!((a.2.2.2.2.2.2.1.all λp=>a.2.2.2.1.contains p)&&!(a.2.2.2.2.2.2.2.any λp=>a.2.2.2.1.contains p)),()))) ?_
   ·refine e6_ (congrArg (λo=>Option.bind o _) (ow_ s5 (λp=>!(a.2.2.2.1.contains p)) (λi y hy => ?_) ?_)) ?_
    ·simp only[dlt (am_ hy),a5_,ah_ hy,a0_,pc_ s2]
     cases a.2.2.2.1.contains y<;>rfl
    ·simp only[dnl,a2_]
    rw[a0_,← ug_ a.2.2.2.2.2.2.1]
    cases a.2.2.2.2.2.2.1.any λp=>!(a.2.2.2.1.contains p) with
    | true=>rfl
    | false =>
    refine e6_ (congrArg (λo=>Option.bind o _) (ow_ s6 (λp=>a.2.2.2.1.contains p) (λi y hy => ?_) ?_)) ?_
    ·simp only[dlt (am_ hy),a5_,ah_ hy,a0_,pc_ s2]
     cases a.2.2.2.1.contains y<;>rfl
    ·simp only[dnl,a2_]
    cases a.2.2.2.2.2.2.2.any λp=>a.2.2.2.1.contains p<;>rfl
   ·rw[a0_]
    cases a.2.2.2.2.2.2.1.all λp=>a.2.2.2.1.contains p with
    | false=>rfl
    | true =>
    cases a.2.2.2.2.2.2.2.any λp=>a.2.2.2.1.contains p with
    | true=>rfl
    | false =>
     simp only[e8_,h2_,a2_,c1_]
     refine bn_ a.2.2.2.2.2.1 (λi x=>cond (ru_ r a.2.2.2.2.2.1 i x) none (some (inr (false,()):Unit⊕(Bool×Unit)))) (λi=>((i:Int),())) (r0:=inl ()) (λk y hy => ?_) ?_ ?_
     ·have hk:=am_ hy
      simp only[dlt hk,a5_,ah_ hy,a0_,az_ (show Sm k by omega),pm_ (g5_ hk)]
      refine e6_ (congrArg (λo=>Option.bind o _) (ow_ (wg_ s4 k) (λz=>z.1==y.1) (λn z hz => ?_) ?_)) ?_
      ·simp only[dlt (am_ hz),a5_,ah_ hz,a0_]
       cases z.1==y.1<;>rfl
      ·simp only[dnl,a2_]
      ·rw[a0_,pt_ h.th]
       unfold ru_
       cases nv_ r.2.1 y.1 y.2 with
       | false=>rfl
       | true =>
        cases (a.2.2.2.2.2.1.take k).any λz=>z.1==y.1<;>rfl
     ·simp only[dnl,a2_]
     ·rw[tc_]
      cases (ge_ (λi x=>cond (ru_ r a.2.2.2.2.2.1 i x) none (some ())) 0 a.2.2.2.2.2.1).isNone<;>rfl
end
section
def ag7 (r:ae_):Bool:=decide (8<(r.1.length:Int))||(decide (12<(r.2.1.length:Int))||(decide (10<(r.2.2.1.length:Int))||(decide (16<(r.2.2.2.1.length:Int))||(decide (24<(r.2.2.2.2.1.length:Int))||decide (12<(r.2.2.2.2.2.1.length:Int))))))
theorem ca7 (r:ae_):(cond (decide (8<(r.1.length:Int)))
 (some (true,()))
 (cond (decide (12<(r.2.1.length:Int)))
 (some (true,()))
 (cond (decide (10<(r.2.2.1.length:Int)))
 (some (true,()))
 (cond (decide (16<(r.2.2.2.1.length:Int)))
 (some (true,()))
 (cond (decide (24<(r.2.2.2.2.1.length:Int)))
 (some (true,()))
 (some ((decide (12<(r.2.2.2.2.2.1.length:Int))),())))))))=some (ag7 r,()):=by
  unfold ag7
  cases decide (8<(r.1.length:Int)) with
  | true=>rfl
  | false =>
  cases decide (12<(r.2.1.length:Int)) with
  | true=>rfl
  | false =>
  cases decide (10<(r.2.2.1.length:Int)) with
  | true=>rfl
  | false =>
  cases decide (16<(r.2.2.2.1.length:Int)) with
  | true=>rfl
  | false =>
  cases decide (24<(r.2.2.2.2.1.length:Int)) with
  | true=>rfl
  | false=>rfl
def cz_ (r:ae_):Int :=
 cond (ag7 r) 2 ((ge_ (λi x=>kz_ (plOk r i x) 22) 0 r.1).getD
  (cond ((r.1.length:Int)==0) 22 ((ge_ (λi x=>kz_ (bq7 r i x) 21) 0 r.2.1).getD
   ((ge_ (λi x=>sz_ (cp8 r i x) 24 (cOk r.2.1 x.2.2) 25) 0 r.2.2.1).getD
    ((ge_ (λ_ x=>sz_ (cl0 r x) 23 (cOk r.2.1 x.2.2) 25) 0 r.2.2.2.1).getD
     ((ge_ (λi x=>sz_ (vf_ r i x) 26 (cOk r.2.1 x.2.2.2.2.1) 25) 0 r.2.2.2.2.1).getD
      ((ge_ (λ_ x=>sz_ (nv_ r.2.1 x.2.1 x.2.2) 27 (cOk r.2.1 x.1) 25) 0 r.2.2.2.2.2.1).getD
       (cond (wi r.2.2.2.2.2.2.1 1 4) (cond (cOk r.2.1 r.2.2.2.2.2.2.2) 0 25) 1))))))))
theorem tf_ {r:ae_} (h:SmR r):fk_ r=some (cz_ r,()):=by
 unfold fk_
 refine e6_ (congrArg (λo=>Option.bind o _) (ca7 r)) ?_
 rw[a0_]
 unfold cz_
 cases ag7 r with
 | true=>rfl
 | false =>
 simp only[a2_]
 refine bu_ r.1 (λi x=>kz_ (plOk r i x) 22) (λi y hy => ?_) ?_ (es_ ?_)
 ·have hi:=am_ hy
  simp only[dlt hi,a5_,ah_ hy,a0_,az_ (show Sm i from c9_ (g5_ hi) h.pl),pm_ (g5_ hi)]
  refine e6_ (congrArg (λo=>Option.bind o _) (vn_ (wg_ h.pl i) id (h.pln y (ax_ hy)))) ?_
  unfold kz_ plOk frN twN
  rw[a0_]
  cases okN y&&!((r.1.take i).any λz=>id z==y)<;>rfl
 ·simp only[dnl,a2_]
 cases (r.1.length:Int)==0 with
 | true=>rfl
 | false =>
 simp only[a2_]
 refine bu_ r.2.1 (λi x=>kz_ (bq7 r i x) 21) (λi y hy => ?_) ?_ (es_ ?_)
 ·have hi:=am_ hy
  simp only[dlt hi,a5_,ah_ hy,a0_,az_ (show Sm i from c9_ (g5_ hi) h.th),pm_ (g5_ hi)]
  refine e6_ (congrArg (λo=>Option.bind o _) (e6_ (congrArg (λo=>Option.bind o _) (vn_ (wg_ h.th i) (·.1) (h.thn y (ax_ hy)))) (?_:_=some (!(bq7 r i y),())))) ?_
  ·simp only[dy_,a0_]
   unfold bq7 frN twN sk_
   cases okN y.1&&!((r.2.1.take i).any λz=>z.1==y.1) with
   | false=>rfl
   | true =>
    cases wi y.2.1 0 (w64 ((r.1.length:Int) - 1)) with
    | false=>rfl
    | true =>
     cases wi y.2.2.1 2 6 with
     | false=>rfl
     | true=>rfl
  ·rw[a0_]
   unfold kz_
   cases bq7 r i y<;>rfl
 ·simp only[dnl,a2_]
 refine bu_ r.2.2.1 (λi x=>sz_ (cp8 r i x) 24 (cOk r.2.1 x.2.2) 25) (λi y hy => ?_) ?_ (es_ ?_)
 ·have hi:=am_ hy
  simp only[dlt hi,a5_,ah_ hy,a0_,az_ (show Sm i from c9_ (g5_ hi) h.pr),pm_ (g5_ hi)]
  refine e6_ (congrArg (λo=>Option.bind o _) (e6_ (congrArg (λo=>Option.bind o _) (vn_ (wg_ h.pr i) (·.1) (h.prn y (ax_ hy)).1)) (?_:_=some (!(cp8 r i y),())))) ?_
  ·simp only[dy_,a0_]
   unfold cp8 frN twN sk_
   cases okN y.1&&!((r.2.2.1.take i).any λz=>z.1==y.1) with
   | false=>rfl
   | true =>
    cases wi y.2.1 0 (w64 ((r.1.length:Int) - 1)) with
    | false=>rfl
    | true=>rfl
  ·rw[a0_,ke_ h.th,a0_]
   unfold sz_
   cases cp8 r i y with
   | false=>rfl
   | true=>cases cOk r.2.1 y.2.2<;>rfl
 ·simp only[dnl,a2_]
 refine bu_ r.2.2.2.1 (λi x=>sz_ (cl0 r x) 23 (cOk r.2.1 x.2.2) 25) (λi y hy => ?_) ?_ (es_ ?_)
 ·have hi:=am_ hy
  simp only[dlt hi,a5_,ah_ hy,a0_,az_ (show Sm i from c9_ (g5_ hi) h.wy)]
  refine e6_ (congrArg (λo=>Option.bind o _) (?_:_=some (!(cl0 r y),()))) ?_
  ·simp only[dy_,a0_]
   unfold cl0 sk_
   cases wi y.1 0 (w64 ((r.1.length:Int) - 1)) with
   | false=>rfl
   | true =>
    cases wi y.2.1 0 (w64 ((r.1.length:Int) - 1)) with
    | false=>rfl
    | true=>simp
  ·rw[a0_,ke_ h.th,a0_]
   unfold sz_
   cases cl0 r y with
   | false=>rfl
   | true=>cases cOk r.2.1 y.2.2<;>rfl
 ·simp only[dnl,a2_]
 refine bu_ r.2.2.2.2.1 (λi x=>sz_ (vf_ r i x) 26 (cOk r.2.1 x.2.2.2.2.1) 25) (λi y hy => ?_) ?_ (es_ ?_)
 ·have hi:=am_ hy
  simp only[dlt hi,a5_,ah_ hy,a0_,az_ (show Sm i from c9_ (g5_ hi) h.ac),co5 h hy,ke_ h.th]
  unfold sz_
  cases vf_ r i y with
  | false=>rfl
  | true=>cases cOk r.2.1 y.2.2.2.2.1<;>rfl
 ·simp only[dnl,a2_]
 refine bu_ r.2.2.2.2.2.1 (λi x=>sz_ (nv_ r.2.1 x.2.1 x.2.2) 27 (cOk r.2.1 x.1) 25) (λi y hy => ?_) ?_ (es_ ?_)
 ·have hi:=am_ hy
  simp only[dlt hi,a5_,ah_ hy,a0_,az_ (show Sm i from c9_ (g5_ hi) h.au),pt_ h.th,ke_ h.th]
  unfold sz_
  cases nv_ r.2.1 y.2.1 y.2.2 with
  | false=>rfl
  | true=>cases cOk r.2.1 y.1<;>rfl
 ·simp only[dnl,a2_]
 rw[dy_,a0_,ke_ h.th,a0_]
 cases wi r.2.2.2.2.2.2.1 1 4 with
 | false=>rfl
 | true=>cases cOk r.2.1 r.2.2.2.2.2.2.2<;>rfl
end
section
theorem uv_ {α ρ σ τ:Type} (l:List α) (k:Nat) (hk:k≤l.length) (p:Nat→α→Option ρ) (F:Nat→σ) {r0:ρ} {body:σ→Option (σ⊕ρ)} {K:ρ→Option τ} {x:Option τ}
  (h:∀ i x,i<k→l[i]?=some x→body (F i)=some (match p i x with | none=>.inl (F (i+1)) | some r=>.inr r)) (e:body (F k)=some (.inr r0)) (hx:K ((ge_ p 0 (l.take k)).getD r0)=x) :
  (ag_ body (F 0)).bind K=x:=by
 have hle:(l.take k).length=k:=by rw[c7_];omega
 refine bn_ (l.take k) p F (λi x hx => ?_) (by rw[hle];exact e) hx
 rw[j1_] at hx
 split at hx
 ·exact h i x ‹_› hx
 ·cases hx
theorem bu5 {r:ae_} (h:SmR r) {i:Nat} {a:cv_} (ha:r.2.2.2.2.1[i]?=some a):ne_ r (i:Int)=some (vf_ r i a,()):=by
 have hi:=am_ ha
 have hac:=h.ac
 obtain⟨s1,s2,s3,s4,s5,s6⟩:=h.acn a (ax_ ha)
 unfold ne_
 rw[ah_ ha,a0_]
 refine uv_ r.2.2.2.2.1 i (g5_ hi) (λ_ y=>cond (y.1==a.1) (some (inr (false,()):Unit⊕(Bool×Unit))) none) (λi=>((i:Int),())) (r0:=inl ()) (λk y hk hy => ?_) ?_ ?_
 ·simp only[dlt hk,a5_,ah_ hy,a0_,az_ (show Sm k by omega)]
  cases y.1==a.1<;>rfl
 ·simp only[dnl,a2_]
 rw[hm_ (q:=λy:cv_=>y.1==a.1)]
 unfold vf_ frN twN
 cases (r.2.2.2.2.1.take i).any λy=>y.1==a.1 with
 | true=>rw[e8_,g2_,f0_];rfl
 | false =>
 simp only[a2_,j3_,ac2,h2_,h3_]
 refine e6_ (congrArg (λo=>Option.bind o _) (?_:_=some (!(okN a.1&&(sk_ r a.2.1&&(wi a.2.2.1 (-1) 7&&(ld_ r.2.2.1.length a.2.2.2.1&&(ld_ r.2.2.1.length a.2.2.2.2.2.2.1&&(ld_ r.2.2.1.length a.2.2.2.2.2.2.2&&!(decide (6<(a.2.2.2.2.2.1.length:Int))))))))),()))) ?_
 ·simp only[kl_ s1,ic_,fp_,kk_ h.pr s2,kk_ h.pr s5,kk_ h.pr s6,a0_]
  unfold sk_
  cases okN a.1 with
  | false=>rfl
  | true =>
  cases wi a.2.1 0 (w64 ((r.1.length:Int) - 1)) with
  | false=>rfl
  | true =>
  cases wi a.2.2.1 (-1) 7 with
  | false=>rfl
  | true =>
  cases ld_ r.2.2.1.length a.2.2.2.1 with
  | false=>rfl
  | true =>
  cases ld_ r.2.2.1.length a.2.2.2.2.2.2.1 with
  | false=>rfl
  | true =>
  cases ld_ r.2.2.1.length a.2.2.2.2.2.2.2 with
  | false=>rfl
  | true=>simp
 rw[a0_]
 cases okN a.1 with
 | false=>rfl
 | true =>
 cases sk_ r a.2.1 with
 | false=>rfl
 | true =>
 cases wi a.2.2.1 (-1) 7 with
 | false=>rfl
 | true =>
 cases ld_ r.2.2.1.length a.2.2.2.1 with
 | false=>rfl
 | true =>
 cases ld_ r.2.2.1.length a.2.2.2.2.2.2.1 with
 | false=>rfl
 | true =>
 cases ld_ r.2.2.1.length a.2.2.2.2.2.2.2 with
 | false=>rfl
 | true =>
 cases decide (6<(a.2.2.2.2.2.1.length:Int)) with
 | true=>rfl
 | false =>
 simp only[c1_,e8_,h2_,a2_]
 refine bn_ a.2.2.2.2.2.2.1 (λ_ y=>cond (a.2.2.2.1.contains y) none (some (inr (false,()):Unit⊕(Bool×Unit)))) (λi=>((i:Int),())) (r0:=inl ()) (λk y hy => ?_) ?_ ?_
 ·have hk:=am_ hy
  simp only[dlt hk,a5_,ah_ hy,a0_,az_ (show Sm k by omega),bc3 s2]
  cases a.2.2.2.1.contains y<;>rfl
 ·simp only[dnl,a2_]
 rw[jl_ (q:=λy=>a.2.2.2.1.contains y)]
 cases a.2.2.2.2.2.2.1.all λy=>a.2.2.2.1.contains y with
 | false=>rfl
 | true =>
 simp only[a5_,j3_,ac2,c1_]
 refine bn_ a.2.2.2.2.2.2.2 (λ_ y=>cond (a.2.2.2.1.contains y) (some (inr (false,()):Unit⊕(Bool×Unit))) none) (λi=>((i:Int),())) (r0:=inl ()) (λk y hy => ?_) ?_ ?_
 ·have hk:=am_ hy
  simp only[dlt hk,a5_,ah_ hy,a0_,az_ (show Sm k by omega),bc3 s2]
  cases a.2.2.2.1.contains y<;>rfl
 ·simp only[dnl,a2_]
 rw[hm_ (q:=λy=>a.2.2.2.1.contains y)]
 cases a.2.2.2.2.2.2.2.any λy=>a.2.2.2.1.contains y with
 | true=>rfl
 | false =>
 simp only[a2_,j3_,ac2,h2_,c1_]
 refine bn_ a.2.2.2.2.2.1 (λi x=>cond (ru_ r a.2.2.2.2.2.1 i x) none (some (inr (false,()):Unit⊕(Bool×Unit)))) (λi=>((i:Int),())) (r0:=inl ()) (λk y hy => ?_) ?_ ?_
 ·have hk:=am_ hy
  simp only[dlt hk,a5_,ah_ hy,a0_,az_ (show Sm k by omega),rw_ h.th]
  unfold ru_
  cases nv_ r.2.1 y.1 y.2 with
  | false=>rfl
  | true =>
  simp only[e8_,a2_,c1_]
  refine uv_ a.2.2.2.2.2.1 k (g5_ hk) (λ_ z=>cond (z.1==y.1) (some (inr (inr (inr (false,()))):Unit⊕((Int×Unit)⊕(Unit⊕(Bool×Unit))))) none) (λi=>((i:Int),())) (r0:=inl ()) (λn z hn hz => ?_) ?_ ?_
  ·simp only[dlt hn,a5_,ah_ hz,a0_,az_ (show Sm n by omega)]
   cases z.1==y.1<;>rfl
  ·simp only[dnl,a2_]
  rw[hm_ (q:=λz:ac_=>z.1==y.1)]
  cases (a.2.2.2.2.2.1.take k).any λz=>z.1==y.1<;>rfl
 ·simp only[dnl,a2_]
 rw[tc_]
 cases (ge_ (λi x=>cond (ru_ r a.2.2.2.2.2.1 i x) none (some ())) 0 a.2.2.2.2.2.1).isNone<;>rfl
theorem ao0 {α:Type} {nm:α→List UInt8} {l:List α} (hl:Sm l.length) {i:Nat} {x:α} (hx:l[i]?=some x):push? (α:=List UInt8) ((l.take i).map nm) [nm x]=some ((l.take (i+1)).map nm):=by
 have hi:=am_ hx
 unfold push?
 rw[if_pos (by
  simp only[d6_,c7_,e0_]
  omega)]
 rw[d9_,hx,i9_]
 rfl
theorem bq5 {α:Type} {nm:α→List UInt8} {l:List α} {i:Nat} {t:List UInt8}:twN id ((l.take (i+1)).map nm) i t=twN nm l i t:=by
 unfold twN
 rw[← List.map_take,List.take_take,Nat.min_eq_left (Nat.le_succ i),List.any_map]
 rfl
theorem da1 {α:Type} {nm:α→List UInt8} {l:List α} {i:Nat} {x:α} (hx:l[i]?=some x):((l.take (i+1)).map nm)[i]?=some (nm x):=by
 rw[d5_,j1_,if_pos (Nat.lt_succ_self i),hx]
 rfl
theorem qw_ {r:ae_} (h:SmR r):fu_ r=some (cz_ r,()):=by
 unfold fu_
 refine e6_ (congrArg (λo=>Option.bind o _) (ca7 r)) ?_
 rw[a0_]
 unfold cz_
 cases ag7 r with
 | true=>rfl
 | false =>
 simp only[a2_]
 cases he:(r.1.length:Int)==0 with
 | true =>
  have:r.1=[]:=by
   have:=f6_.1 he
   exact h9_ (by omega)
  rw[this]
  rfl
 | false =>
 simp only[a2_]
 refine bu_ r.1 (λi x=>kz_ (plOk r i x) 22) (λi y hy => ?_) ?_ (es_ ?_)
 ·have hi:=am_ hy
  simp only[dlt hi,a5_,ah_ hy,a0_,az_ (show Sm i from c9_ (g5_ hi) h.pl),kl_ (h.pln y (ax_ hy)),qv_ h.pl hy]
  unfold kz_ plOk frN
  cases okN y with
  | false=>rfl
  | true=>cases twN id r.1 i y<;>rfl
 ·simp only[dnl,a2_]
 refine ab8 r.2.1 (λi x=>kz_ (bq7 r i x) 21) (λi=>(r.2.1.take i).map (·.1)) rfl (λi y hy => ?_) ?_ (es_ ?_)
 ·have hi:=am_ hy
  have hs:Sm ((r.2.1.take (i+1)).map (·.1)).length:=by
   rw[d6_,c7_]
   exact c9_ (m6_ _ _) h.th
  simp only[dlt hi,a5_,ah_ hy,a0_,az_ (show Sm i from c9_ (g5_ hi) h.th),ao0 h.th hy,kl_ (h.thn y (ax_ hy)),qv_ hs (da1 hy),bq5,ic_,fp_]
  unfold kz_ bq7 frN sk_
  cases okN y.1 with
  | false=>rfl
  | true =>
  cases twN (·.1) r.2.1 i y.1 with
  | true=>rfl
  | false =>
  cases wi y.2.1 0 (w64 ((r.1.length:Int) - 1)) with
  | false=>rfl
  | true =>
  cases wi y.2.2.1 2 6 with
  | false=>rfl
  | true=>cases wi y.2.2.2 0 (w64 (y.2.2.1 - 1))<;>rfl
 ·simp only[dnl,a2_]
 refine ab8 r.2.2.1 (λi x=>sz_ (cp8 r i x) 24 (cOk r.2.1 x.2.2) 25) (λi=>(r.2.2.1.take i).map (·.1)) rfl (λi y hy => ?_) ?_ (es_ ?_)
 ·have hi:=am_ hy
  obtain⟨s1,s2⟩:=h.prn y (ax_ hy)
  have hs:Sm ((r.2.2.1.take (i+1)).map (·.1)).length:=by
   rw[d6_,c7_]
   exact c9_ (m6_ _ _) h.pr
  simp only[dlt hi,a5_,ah_ hy,a0_,az_ (show Sm i from c9_ (g5_ hi) h.pr),ao0 h.pr hy,kl_ s1,qv_ hs (da1 hy),bq5,ic_,ha_ h.th s2]
  unfold sz_ cp8 frN sk_
  cases okN y.1 with
  | false=>rfl
  | true =>
  cases twN (·.1) r.2.2.1 i y.1 with
  | true=>rfl
  | false =>
  have e:(y.2.1 != -1) = !(y.2.1==-1):=rfl
  rw[e]
  cases y.2.1==-1 with
  | true =>
   cases wi y.2.1 0 (w64 ((r.1.length:Int) - 1))<;>cases cOk r.2.1 y.2.2<;>rfl
  | false =>
   cases wi y.2.1 0 (w64 ((r.1.length:Int) - 1))<;>cases cOk r.2.1 y.2.2<;>rfl
 ·simp only[dnl,a2_]
 refine bu_ r.2.2.2.1 (λi x=>sz_ (cl0 r x) 23 (cOk r.2.1 x.2.2) 25) (λi y hy => ?_) ?_ (es_ ?_)
 ·have hi:=am_ hy
  simp only[dlt hi,a5_,ah_ hy,a0_,az_ (show Sm i from c9_ (g5_ hi) h.wy),ic_,ha_ h.th (h.wyn y (ax_ hy))]
  unfold sz_ cl0 sk_
  cases wi y.1 0 (w64 ((r.1.length:Int) - 1)) with
  | false=>rfl
  | true =>
  cases wi y.2.1 0 (w64 ((r.1.length:Int) - 1)) with
  | false=>rfl
  | true=>cases y.1==y.2.1<;>cases cOk r.2.1 y.2.2<;>rfl
 ·simp only[dnl,a2_]
 refine bu_ r.2.2.2.2.1 (λi x=>sz_ (vf_ r i x) 26 (cOk r.2.1 x.2.2.2.2.1) 25) (λi y hy => ?_) ?_ (es_ ?_)
 ·have hi:=am_ hy
  simp only[dlt hi,a5_,ah_ hy,a0_,az_ (show Sm i from c9_ (g5_ hi) h.ac),bu5 h hy,ha_ h.th (h.acn y (ax_ hy)).2.2.1]
  unfold sz_
  cases vf_ r i y with
  | false=>rfl
  | true=>cases cOk r.2.1 y.2.2.2.2.1<;>rfl
 ·simp only[dnl,a2_]
 refine bu_ r.2.2.2.2.2.1 (λi x=>sz_ (nv_ r.2.1 x.2.1 x.2.2) 27 (cOk r.2.1 x.1) 25) (λi y hy => ?_) ?_ (es_ ?_)
 ·have hi:=am_ hy
  simp only[dlt hi,a5_,ah_ hy,a0_,az_ (show Sm i from c9_ (g5_ hi) h.au),rw_ h.th,ha_ h.th (h.aun y (ax_ hy))]
  unfold sz_
  cases nv_ r.2.1 y.2.1 y.2.2 with
  | false=>rfl
  | true=>cases cOk r.2.1 y.1<;>rfl
 ·simp only[dnl,a2_]
 rw[fp_,a0_,ha_ h.th h.go,a0_]
 cases wi r.2.2.2.2.2.2.1 1 4 with
 | false=>rfl
 | true=>cases cOk r.2.1 r.2.2.2.2.2.2.2<;>rfl
end
section
theorem jo_ {α τ:Type} (l:List α) (hl:Sm l.length) (q:α→Bool) {body:(Int×Unit)→Option ((Int×Unit)⊕(Unit⊕(Bool×Unit)))} {K:(Unit⊕(Bool×Unit))→Option τ} {x:Option τ}
  (h:∀ (i:Nat) y,l[i]?=some y→body ((i:Int),())=some (cond (q y) (.inr (.inr (true,()))) (.inl (w64 ((i:Int)+1),())))) (e:body ((l.length:Int),())=some (.inr (.inl ()))) (hx:K (cond (l.any q) (.inr (true,())) (.inl ()))=x) :
  (ag_ body (0,())).bind K=x:=by
 refine bn_ l (λi y=>cond (q y) (some (inr (true,()):Unit⊕(Bool×Unit))) none) (λi=>((i:Int),())) (r0:=inl ()) (λi y hy => ?_) e ?_
 ·have hi:=am_ hy
  rw[h i y hy,az_ (show Sm i by omega)]
  cases q y<;>rfl
 ·rw[hm_ (q:=q)]
  cases hq:l.any q<;>rw[hq] at hx<;>exact hx
theorem hw_ {α:Type} {l:List α} {q:α→Bool} (h:l.any q=false):∀ x ∈ l,q x=false:=by
 intro x hx
 cases hq:q x with
 | false=>rfl
 | true=>rw[k7_.2 ⟨x,hx,hq⟩] at h;cases h
theorem nlt {n:Nat} {k:Int} (h:decide (k<(n:Int))=false) (hk:k≤1000000000):Sm n:=by
 have:=d2_ h
 omega
def cs4 (r:ae_):Bool:=decide (12<(r.1.length:Int))||(decide (15<(r.2.1.length:Int))||(decide (14<(r.2.2.1.length:Int))||(decide (20<(r.2.2.2.1.length:Int))||(decide (30<(r.2.2.2.2.1.length:Int))||(decide (15<(r.2.2.2.2.2.1.length:Int))||decide (20<(r.2.2.2.2.2.2.2.length:Int)))))))
theorem cs3 (r:ae_):(cond (decide (12<(r.1.length:Int)))
 (some (true,()))
 (cond (decide (15<(r.2.1.length:Int)))
 (some (true,()))
 (cond (decide (14<(r.2.2.1.length:Int)))
 (some (true,()))
 (cond (decide (20<(r.2.2.2.1.length:Int)))
 (some (true,()))
 (cond (decide (30<(r.2.2.2.2.1.length:Int)))
 (some (true,()))
 (cond (decide (15<(r.2.2.2.2.2.1.length:Int)))
 (some (true,()))
 (some ((decide (20<(r.2.2.2.2.2.2.2.length:Int))),()))))))))=some (cs4 r,()):=by
  unfold cs4
  cases decide (12<(r.1.length:Int)) with
  | true=>rfl
  | false =>
  cases decide (15<(r.2.1.length:Int)) with
  | true=>rfl
  | false =>
  cases decide (14<(r.2.2.1.length:Int)) with
  | true=>rfl
  | false =>
  cases decide (20<(r.2.2.2.1.length:Int)) with
  | true=>rfl
  | false =>
  cases decide (30<(r.2.2.2.2.1.length:Int)) with
  | true=>rfl
  | false =>
  cases decide (15<(r.2.2.2.2.2.1.length:Int)) with
  | true=>rfl
  | false=>rfl
theorem cb6 (r:ae_):∃ b,nh_ r=some (b,())∧(b=false→SmR r∧r.2.1.length≤15∧r.2.2.2.2.2.2.2.length≤20∧r.2.2.2.2.1.length≤30):=by
 unfold nh_
 have e0:=cs3 r
 cases hm:cs4 r with
 | true =>
  rw[hm] at e0
  exact⟨true,e6_ (congrArg (λo=>Option.bind o _) e0) rfl,λh=>by cases h⟩
 | false =>
 rw[hm] at e0
 unfold cs4 at hm
 simp only[c0_] at hm
 obtain⟨h1,h2,h3,h4,h5,h6,h7⟩:=hm
 have l1:=nlt h1 (by decide)
 have l2:=nlt h2 (by decide)
 have l3:=nlt h3 (by decide)
 have l4:=nlt h4 (by decide)
 have l5:=nlt h5 (by decide)
 have l6:=nlt h6 (by decide)
 have l7:=nlt h7 (by decide)
 have b2:=d2_ h2
 have b5:=d2_ h5
 have b7:=d2_ h7
 let qa:cv_→Bool:=λy=>decide (100<(y.1.length:Int))||(decide (20<(y.2.2.2.2.1.length:Int))||(decide (20<(y.2.2.2.1.length:Int))||(decide (20<(y.2.2.2.2.2.1.length:Int))||(decide (20<(y.2.2.2.2.2.2.1.length:Int))||decide (20<(y.2.2.2.2.2.2.2.length:Int))))))
 let b1:=r.1.any λx=>decide (100<(x.length:Int))
 let bt:=r.2.1.any λx=>decide (100<(x.1.length:Int))
 let bp:=r.2.2.1.any λx=>decide (100<(x.1.length:Int))||decide (20<(x.2.2.length:Int))
 let bw:=r.2.2.2.1.any λx=>decide (20<(x.2.2.length:Int))
 let ba:=r.2.2.2.2.1.any qa
 let bo:=r.2.2.2.2.2.1.any λx=>decide (20<(x.1.length:Int))
 refine⟨b1||(bt||(bp||(bw||(ba||bo)))),?_,?_⟩
 ·refine e6_ (congrArg (λo=>Option.bind o _) e0) ?_
  rw[a0_]
  simp only[a2_]
  refine jo_ r.1 l1 (λx=>decide (100<(x.length:Int))) (λi y hy => ?_) ?_ ?_
  ·simp only[dlt (am_ hy),a5_,ah_ hy,a0_]
   cases decide (100<(y.length:Int))<;>rfl
  ·simp only[dnl,a2_]
  show cj_ (cond b1 _ _) _ _=_
  cases b1 with
  | true=>rfl
  | false =>
  refine jo_ r.2.1 l2 (λx=>decide (100<(x.1.length:Int))) (λi y hy => ?_) ?_ ?_
  ·simp only[dlt (am_ hy),a5_,ah_ hy,a0_]
   cases decide (100<(y.1.length:Int))<;>rfl
  ·simp only[dnl,a2_]
  show cj_ (cond bt _ _) _ _=_
  cases bt with
  | true=>rfl
  | false =>
  refine jo_ r.2.2.1 l3 (λx=>decide (100<(x.1.length:Int))||decide (20<(x.2.2.length:Int))) (λi y hy => ?_) ?_ ?_
  ·simp only[dlt (am_ hy),a5_,ah_ hy,a0_]
   cases decide (100<(y.1.length:Int)) with
   | true=>rfl
   | false=>cases decide (20<(y.2.2.length:Int))<;>rfl
  ·simp only[dnl,a2_]
  show cj_ (cond bp _ _) _ _=_
  cases bp with
  | true=>rfl
  | false =>
  refine jo_ r.2.2.2.1 l4 (λx=>decide (20<(x.2.2.length:Int))) (λi y hy => ?_) ?_ ?_
  ·simp only[dlt (am_ hy),a5_,ah_ hy,a0_]
   cases decide (20<(y.2.2.length:Int))<;>rfl
  ·simp only[dnl,a2_]
  show cj_ (cond bw _ _) _ _=_
  cases bw with
  | true=>rfl
  | false =>
  refine jo_ r.2.2.2.2.1 l5 qa (λi y hy => ?_) ?_ ?_
  ·simp only[dlt (am_ hy),a5_,ah_ hy,a0_,qa]
   cases decide (100<(y.1.length:Int)) with
   | true=>rfl
   | false =>
   cases decide (20<(y.2.2.2.2.1.length:Int)) with
   | true=>rfl
   | false =>
   cases decide (20<(y.2.2.2.1.length:Int)) with
   | true=>rfl
   | false =>
   cases decide (20<(y.2.2.2.2.2.1.length:Int)) with
   | true=>rfl
   | false =>
   cases decide (20<(y.2.2.2.2.2.2.1.length:Int)) with
   | true=>rfl
   | false=>cases decide (20<(y.2.2.2.2.2.2.2.length:Int))<;>rfl
  ·simp only[dnl,a2_]
  show cj_ (cond ba _ _) _ _=_
  cases ba with
  | true=>rfl
  | false =>
  refine jo_ r.2.2.2.2.2.1 l6 (λx=>decide (20<(x.1.length:Int))) (λi y hy => ?_) ?_ ?_
  ·simp only[dlt (am_ hy),a5_,ah_ hy,a0_]
   cases decide (20<(y.1.length:Int))<;>rfl
  ·simp only[dnl,a2_]
  show cj_ (cond bo _ _) _ _=_
  cases bo<;>rfl
 ·intro hb
  simp only[c0_] at hb
  obtain⟨g1,g2,g3,g4,g5,g6⟩:=hb
  refine⟨⟨l1,l2,l3,l4,l5,l6,l7,λx hx=>nlt (hw_ g1 x hx) (by decide),λx hx=>nlt (hw_ g2 x hx) (by decide),λx hx => ?_,λx hx=>nlt (hw_ g4 x hx) (by decide),λx hx => ?_,λx hx=>nlt (hw_ g6 x hx) (by decide)⟩,by omega,by omega,by omega⟩
  ·have:=hw_ g3 x hx
   simp only[c0_] at this
   exact⟨nlt this.1 (by decide),nlt this.2 (by decide)⟩
  ·have:=hw_ g5 x hx
   simp only[qa,c0_] at this
   obtain⟨a1,a2,a3,a4,a5,a6⟩:=this
   exact⟨nlt a1 (by decide),nlt a3 (by decide),nlt a2 (by decide),nlt a4 (by decide),nlt a5 (by decide),nlt a6 (by decide)⟩
structure SmG (g:ad_):Prop where
 room:SmR g.1
 th:g.1.2.1.length≤15
 go:g.1.2.2.2.2.2.2.2.length≤20
 ac:g.1.2.2.2.2.1.length≤30
 lk:g.2.1.length≤10
 cd:g.2.2.1.length≤10
 nt:g.2.2.2.1.length≤20
 lkn:∀ x ∈ g.2.1,¬ (3<x.1∧5<x.2)
 cdn:∀ x ∈ g.2.2.1,x.length≤10
 ntn:∀ x ∈ g.2.2.2.1,x.1.length≤100∧x.2.2.2.1.length≤20∧x.2.2.2.2.2.2.2.2.2.1.length≤10
theorem cb5 (g:ad_):∃ b,kx_ g=some (b,())∧(b=false→SmG g):=by
 unfold kx_
 obtain⟨b0,e0,h0⟩:=cb6 g.1
 rw[e0]
 simp only[a0_]
 cases b0 with
 | true=>exact⟨true,rfl,λh=>by cases h⟩
 | false =>
 obtain⟨r1,r2,r3,r4⟩:=h0 rfl
 cases h1:decide (10<(g.2.1.length:Int)) with
 | true=>exact⟨true,rfl,λh=>by cases h⟩
 | false =>
 cases h2:decide (10<(g.2.2.1.length:Int)) with
 | true=>exact⟨true,rfl,λh=>by cases h⟩
 | false =>
 cases h3:decide (20<(g.2.2.2.1.length:Int)) with
 | true=>exact⟨true,rfl,λh=>by cases h⟩
 | false =>
 have l1:=nlt h1 (by decide)
 have l2:=nlt h2 (by decide)
 have l3:=nlt h3 (by decide)
 let ql:ac_→Bool:=λy=>decide (3<y.1)&&decide (5<y.2)
 let qn:cq_→Bool:=λy=>decide (100<(y.1.length:Int))||(decide (20<(y.2.2.2.1.length:Int))||decide (10<(y.2.2.2.2.2.2.2.2.2.1.length:Int)))
 let b1:=g.2.1.any ql
 let b2:=g.2.2.1.any λx=>decide (10<(x.length:Int))
 let b3:=g.2.2.2.1.any qn
 refine⟨b1||(b2||b3),?_,?_⟩
 ·simp only[a0_,a2_]
  refine jo_ g.2.1 l1 ql (λi y hy => ?_) ?_ ?_
  ·simp only[dlt (am_ hy),a5_,ah_ hy,a0_,ql]
   cases decide (3<y.1) with
   | false=>rfl
   | true=>cases decide (5<y.2)<;>rfl
  ·simp only[dnl,a2_]
  show cj_ (cond b1 _ _) _ _=_
  cases b1 with
  | true=>rfl
  | false =>
  refine jo_ g.2.2.1 l2 (λx=>decide (10<(x.length:Int))) (λi y hy => ?_) ?_ ?_
  ·simp only[dlt (am_ hy),a5_,ah_ hy,a0_]
   cases decide (10<(y.length:Int))<;>rfl
  ·simp only[dnl,a2_]
  show cj_ (cond b2 _ _) _ _=_
  cases b2 with
  | true=>rfl
  | false =>
  refine jo_ g.2.2.2.1 l3 qn (λi y hy => ?_) ?_ ?_
  ·simp only[dlt (am_ hy),a5_,ah_ hy,a0_,qn]
   cases decide (100<(y.1.length:Int)) with
   | true=>rfl
   | false =>
   cases decide (20<(y.2.2.2.1.length:Int)) with
   | true=>rfl
   | false=>cases decide (10<(y.2.2.2.2.2.2.2.2.2.1.length:Int))<;>rfl
  ·simp only[dnl,a2_]
  show cj_ (cond b3 _ _) _ _=_
  cases b3<;>rfl
 ·intro hb
  simp only[c0_] at hb
  obtain⟨g1,g2,g3⟩:=hb
  have c1:=d2_ h1
  have c2:=d2_ h2
  have c3:=d2_ h3
  refine⟨r1,r2,r3,r4,by omega,by omega,by omega,λx hx => ?_,λx hx => ?_,λx hx => ?_⟩
  ·have:=hw_ g1 x hx
   intro hc
   simp only[ql,b8_ hc.1,b8_ hc.2] at this
   cases this
  ·have:=d2_ (hw_ g2 x hx)
   omega
  ·have:=hw_ g3 x hx
   simp only[qn,c0_] at this
   have d1:=d2_ this.1
   have d2:=d2_ this.2.1
   have d3:=d2_ this.2.2
   omega
end
end Go.Proofs.YtgeehfnbhbibeaaGreatDoor.Rx
namespace Go.Proofs.YtgeehfnbhbibeaaGreatDoor.Rx
open Go Pad Rex Go.Proofs Go.Proofs.Tryz Sum
section
set_option maxRecDepth 100000
set_option maxHeartbeats 0
noncomputable def hq_ (a0:ad_):Option (Int×Unit) :=
 ((fu_ a0.1).bind λv0 =>
 (cond (v0.1 != 0)
 (some (v0.1,()))
 (((cond (decide (8<(a0.2.1.length:Int)))
 (some (true,()))
 (some ((decide (16<(a0.2.2.2.1.length:Int))),())))).bind λv1 =>
 (cond v1.1
 (some (2,()))
 ((ag_ (ρ:=(Unit⊕(Int×Unit))) (λ(v2:(Int×Unit)) =>
 (cond (decide (v2.1<(a0.2.1.length:Int)))
 ((at? a0.2.1 v2.1).bind λv3 =>
 ((ek_ v3).bind λv4 =>
 (cond (v4.1 != 0)
 (some (inr (inr (v4.1,()))))
 (some (inl ((w64 (v2.1+1)),()))))))
 (some (inr (inl ()))))) (0,())).bind λv5 =>
 (cj_ v5 (λv6=>(cond ((a0.2.2.1.length:Int) != (a0.2.1.length:Int))
 (some (12,()))
 ((ag_ (ρ:=(Unit⊕(Int×Unit))) (λ(v8:(Int×Unit)) =>
 (cond (decide (v8.1<(a0.2.2.1.length:Int)))
 ((at? a0.2.1 v8.1).bind λv9 =>
 ((at? a0.2.2.1 v8.1).bind λv10 =>
 ((fv_ v9 v10).bind λv11 =>
 (cond (v11.1 != 0)
 (some (inr (inr (12,()))))
 (some (inl ((w64 (v8.1+1)),())))))))
 (some (inr (inl ()))))) (0,())).bind λv12 =>
 (cj_ v12 (λv13=>((ag_ (ρ:=(Unit⊕(Int×Unit))) (λ(v15:(Int×Unit)) =>
 (cond (decide (v15.1<(a0.1.2.2.2.2.1.length:Int)))
 ((at? a0.1.2.2.2.2.1 v15.1).bind λv16 =>
 (cond (decide ((a0.2.1.length:Int)≤v16.2.2.1))
 (some (inr (inr (26,()))))
 (some (inl ((w64 (v15.1+1)),())))))
 (some (inr (inl ()))))) (0,())).bind λv17 =>
 (cj_ v17 (λv18=>((ag_ (ρ:=(Unit⊕(Int×Unit))) (λ(v20:(Int×Unit)) =>
 (cond (decide (v20.1<(a0.2.2.2.1.length:Int)))
 ((jr_ a0 v20.1).bind λv21 =>
 (cond (!v21.1)
 (some (inr (inr (40,()))))
 ((at? a0.2.2.2.1 v20.1).bind λv22 =>
 ((cu_ a0.1 v22.2.2.2.1).bind λv23 =>
 (cond (!v23.1)
 (some (inr (inr (25,()))))
 (some (inl ((w64 (v20.1+1)),()))))))))
 (some (inr (inl ()))))) (0,())).bind λv24 =>
 (cj_ v24 (λv25=>((iy_ a0.2.2.2.2 1 100).bind λv27 =>
 (cond (!v27.1)
 (some (1,()))
 (some (0,())))))
 (λv26=>(some v26)))))
 (λv19=>(some v19)))))
 (λv14=>(some v14))))))
 (λv7=>(some v7))))))))
theorem x_24:av_ (P:=prog) (cxC [c_52,c_53,c_54,c_55,c_56,c_57] []) (.p .z (.p .z (.p .z (.p (.j0 [.v 24 .bool] .z .z) (.p (.p .z (.ls [.v 4 .int] [] [] 0 .z)) (.p .z (.p (.p .z (.ls [.v 6 .int] [] [] 2 (.p .z (.p (.p (.q [] .z .z) .z) .z)))) (.p (.p .z (.ls [.v 7 .int] [] [] 4 (.p .z (.p (.p (.q [] .z .z) .z) .z)))) (.p (.p .z (.ls [.v 8 .int] [] [] 6 (.p .z (.p (.p .z (.p (.q [] .z .z) .z)) .z)))) .z))))))))) 24 [an_] [.int]=λx=>hq_ x.1:=by kernel_rfl
noncomputable def c_24:Con prog:=aw_ _ _ 24 [an_] [.int] _ x_24
noncomputable def ev_ (a0:ae_) (a1:ai_):Option (Int×Unit) :=
 ((fu_ a0).bind λv0 =>
 (cond (v0.1 != 0)
 (some (v0.1,()))
 (((cond ((a1.1.length:Int) != (a0.2.1.length:Int))
 (some (true,()))
 (cond ((a1.2.1.length:Int) != (a0.2.2.1.length:Int))
 (some (true,()))
 (some (((a1.2.2.length:Int) != a0.2.2.2.2.2.2.1),()))))).bind λv1 =>
 (cond v1.1
 (some (28,()))
 ((ag_ (ρ:=(Unit⊕(Int×Unit))) (λ(v2:(Int×Unit)) =>
 (cond (decide (v2.1<(a1.1.length:Int)))
 ((at? a1.1 v2.1).bind λv3 =>
 ((gw_ a0 v2.1 v3).bind λv4 =>
 (cond (!v4.1)
 (some (inr (inr (28,()))))
 (some (inl ((w64 (v2.1+1)),()))))))
 (some (inr (inl ()))))) (0,())).bind λv5 =>
 (cj_ v5 (λv6=>((ag_ (ρ:=(Unit⊕(Int×Unit))) (λ(v8:(Int×Unit)) =>
 (cond (decide (v8.1<(a1.2.1.length:Int)))
 ((at? a1.2.1 v8.1).bind λv9 =>
 ((((ct_ a0 v9).bind λv10 =>
 (cond (!v10.1)
 (cond (v9 != (-1))
 ((bs_ v9 (w64 ((w64 ((-2) - a0.2.2.2.2.2.2.1))+1)) (-2)).bind λv11 =>
 (some ((!v11.1),())))
 (some (false,())))
 (some (false,()))))).bind λv12 =>
 (cond v12.1
 (some (inr (inr (28,()))))
 (some (inl ((w64 (v8.1+1)),()))))))
 (some (inr (inl ()))))) (0,())).bind λv13 =>
 (cj_ v13 (λv14=>((ag_ (ρ:=(Unit⊕(Int×Unit))) (λ(v16:(Int×Unit)) =>
 (cond (decide (v16.1<(a1.2.2.length:Int)))
 ((at? a1.2.2 v16.1).bind λv17 =>
 ((ct_ a0 v17).bind λv18 =>
 (cond (!v18.1)
 (some (inr (inr (28,()))))
 (some (inl ((w64 (v16.1+1)),()))))))
 (some (inr (inl ()))))) (0,())).bind λv19 =>
 (cj_ v19 (λv20=>(some (0,())))
 (λv21=>(some v21)))))
 (λv15=>(some v15)))))
 (λv7=>(some v7))))))))
theorem x_158:av_ (P:=prog) (cxC [c_52,c_83,c_84,c_86] []) (.p .z (.p .z (.p .z (.p (.j0 [.v 38 .bool] .z .z) (.p (.p .z (.ls [.v 6 .int] [] [] 0 (.p .z (.p (.p (.q [] .z .z) .z) .z)))) (.p (.p .z (.ls [.v 7 .int] [] [] 2 (.p .z (.p (.p .z (.j0 [.v 83 .bool] .z .z)) .z)))) (.p (.p .z (.ls [.v 9 .int] [] [] 4 (.p .z (.p (.p (.q [] .z .z) .z) .z)))) .z))))))) 158 [ao_,ar_] [.int]=λx=>ev_ x.1 x.2.1:=by kernel_rfl
noncomputable def c_158:Con prog:=aw_ _ _ 158 [ao_,ar_] [.int] _ x_158
noncomputable def jy_ (a0:ac_) (a1:(List ak_)):Option (Int×Int×Unit) :=
 ((ew_ a0 a1).bind λv0 =>
 (cond (v0.1 != 0)
 (some (0,(v0.1,())))
 ((nf_ a0 a1).bind λv1 =>
 (some ((v1.1.length:Int),(0,()))))))
theorem x_203:av_ (P:=prog) (cxC [c_233,c_234] []) .z 203 [al_,(.list aq_)] [.int,.int]=λx=>jy_ x.1 x.2.1:=by kernel_rfl
noncomputable def c_203:Con prog:=aw_ _ _ 203 [al_,(.list aq_)] [.int,.int] _ x_203
noncomputable def kb_ (a0:ac_) (a1:ak_) (a2:(List Int)):Option (Bool×Int×Unit) :=
 ((ga_ a0 a1).bind λv0 =>
 (cond (v0.1 != 0)
 (some (false,(v0.1,())))
 ((ed_ a0 a2).bind λv1 =>
 (cond (v1.1 != 0)
 (some (false,(v1.1,())))
 ((fy_ a1 a2).bind λv2 =>
 (some (v2.1,(0,()))))))))
theorem x_183:av_ (P:=prog) (cxC [c_133,c_222,c_223] []) .z 183 [al_,aq_,(.list .int)] [.bool,.int]=λx=>kb_ x.1 x.2.1 x.2.2.1:=by kernel_rfl
noncomputable def c_183:Con prog:=aw_ _ _ 183 [al_,aq_,(.list .int)] [.bool,.int] _ x_183
noncomputable def iu_ (a0:ae_):Option (ai_×Int×Unit) :=
 ((fk_ a0).bind λv0 =>
 (cond (v0.1 != 0)
 (some (([],([],[])),(v0.1,())))
 ((mk? (α:=Int) a0.2.2.2.2.2.2.1 0).bind λv1 =>
 ((ag_ (ρ:=(((List Int)×Unit)×Unit)) (λ(v2:(Int×(((List Int)×Unit)×Unit))) =>
 (cond (decide (v2.1<(a0.2.1.length:Int)))
 ((at? a0.2.1 v2.1).bind λv3 =>
 ((push? (α:=Int) v2.2.1.1 [v3.2.2.2]).bind λv4 =>
 (some (inl ((w64 (v2.1+1)),((v4,()),()))))))
 (some (inr ((v2.2.1.1,()),()))))) (0,(([],()),()))).bind λv5 =>
 ((ag_ (ρ:=(((List Int)×Unit)×Unit)) (λ(v6:(Int×(((List Int)×Unit)×Unit))) =>
 (cond (decide (v6.1<(a0.2.2.1.length:Int)))
 ((at? a0.2.2.1 v6.1).bind λv7 =>
 ((push? (α:=Int) v6.2.1.1 [v7.2.1]).bind λv8 =>
 (some (inl ((w64 (v6.1+1)),((v8,()),()))))))
 (some (inr ((v6.2.1.1,()),()))))) (0,(([],()),()))).bind λv9 =>
 ((push? (α:=Int) [] v5.1.1).bind λv10 =>
 ((push? (α:=Int) [] v9.1.1).bind λv11 =>
 ((push? (α:=Int) [] v1).bind λv12 =>
 ((((ag_ (ρ:=(((List Int)×Unit)⊕(Bool×((List Int)×Unit)))) (λ(v13:(Int×((List Int)×Unit))) =>
 (cond (decide (v13.1<101))
 ((((ag_ (ρ:=(Unit⊕(Int×Unit))) (λ(v14:(Int×Unit)) =>
 (cond (decide (v14.1<(a0.2.2.2.2.2.1.length:Int)))
 ((at? a0.2.2.2.2.2.1 v14.1).bind λv15 =>
 ((((at? v13.2.1 v15.2.1).bind λv16 =>
 ((at? v13.2.1 v15.2.1).bind λv17 =>
 (cond (v17 != v15.2.2)
 ((bb_ (a0,(v13.2.1,(v11,v12))) v15.1).bind λv18 =>
 (some (v18.1,())))
 (some (false,())))))).bind λv19 =>
 (cond v19.1
 (some (inr (inr (v14.1,()))))
 (some (inl ((w64 (v14.1+1)),()))))))
 (some (inr (inl ()))))) (0,())).bind λv20 =>
 (cj_ v20 (λv21=>(some ((-1),())))
 (λv22=>(some v22))))).bind λv23 =>
 (cond (decide (v23.1<0))
 (some (inr (inr ((!true),(v13.2.1,())))))
 ((at? a0.2.2.2.2.2.1 v23.1).bind λv24 =>
 ((at? a0.2.2.2.2.2.1 v23.1).bind λv25 =>
 ((at? v13.2.1 v24.2.1).bind λv26 =>
 ((at? v13.2.1 v24.2.1).bind λv27 =>
 (some (inl ((w64 (v13.1+1)),((v13.2.1.set v24.2.1.toNat v25.2.2),()))))))))))
 (some (inr (inl (v13.2.1,())))))) (0,(v10,()))).bind λv28 =>
 (cj_ v28 (λv29=>(some ((!false),(v29.1,()))))
 (λv30=>(some v30))))).bind λv31 =>
 (cond v31.1
 (some (([],([],[])),(27,())))
 (some ((v31.2.1,(v11,v12)),(0,())))))))))))))
theorem x_101:av_ (P:=prog) (cxI (λk=>cond (Nat.beq k 137) (.p .z (.p (.j0 [.v 6 .bool,.o (.c (.s 0) 8) .int] .z .z) .z)) (cond (Nat.beq k 185) (.p .z (.p (.p .z (.ls [.v 4 .int] [] [.o (.c (.s 0) 8) .int] 0 (.p .z (.p .z (.p (.j0 [.v 3 .int] .z .z) .z))))) .z)) (cond (Nat.beq k 224) (.p .z (.p (.p .z (.ls [.v 8 .int] [] [] 0 .z)) .z)) (cond (Nat.beq k 225) (.p .z (.j0 [.v 3 .bool] .z .z)) (.z))))) (λk=>Nat.beq k 130||Nat.beq k 131||Nat.beq k 140||false) (cxC [ci1,c_131] [ym_]) 6) (.p .z (.p .z (.p .z (.p (.p .z (.lp [.v 23 .int] [] [.b (.s 5) [.row .int 3,.keep,.keep]] 0 .z)) (.p (.p .z (.lp [.v 38 .int] [] [.b (.s 5) [.keep,.row .int 3,.keep]] 2 .z)) .z))))) 101 [ao_] [ar_,.int]=λx=>iu_ x.1:=by kernel_rfl
noncomputable def c_101:Con prog:=aw_ _ _ 101 [ao_] [ar_,.int] _ x_101
noncomputable def bx_ (a0:ae_) (a1:ai_):Option (Int×Unit) :=
 ((fk_ a0).bind λv0 =>
 (cond (v0.1 != 0)
 (some (v0.1,()))
 (((cond ((a1.1.length:Int) != (a0.2.1.length:Int))
 (some (true,()))
 (cond ((a1.2.1.length:Int) != (a0.2.2.1.length:Int))
 (some (true,()))
 (some (((a1.2.2.length:Int) != a0.2.2.2.2.2.2.1),()))))).bind λv1 =>
 (cond v1.1
 (some (28,()))
 ((ag_ (ρ:=(Unit⊕(Int×Unit))) (λ(v2:(Int×Unit)) =>
 (cond (decide (v2.1<(a1.1.length:Int)))
 ((at? a1.1 v2.1).bind λv3 =>
 ((fg_ a0 v2.1 v3).bind λv4 =>
 (cond (!v4.1)
 (some (inr (inr (28,()))))
 (some (inl ((w64 (v2.1+1)),()))))))
 (some (inr (inl ()))))) (0,())).bind λv5 =>
 (cj_ v5 (λv6=>((ag_ (ρ:=(Unit⊕(Int×Unit))) (λ(v8:(Int×Unit)) =>
 (cond (decide (v8.1<(a1.2.1.length:Int)))
 ((at? a1.2.1 v8.1).bind λv9 =>
 ((be_ v9 (w64 ((w64 ((-2) - a0.2.2.2.2.2.2.1))+1)) (w64 ((a0.1.length:Int) - 1))).bind λv10 =>
 (cond (!v10.1)
 (some (inr (inr (28,()))))
 (some (inl ((w64 (v8.1+1)),()))))))
 (some (inr (inl ()))))) (0,())).bind λv11 =>
 (cj_ v11 (λv12=>((ag_ (ρ:=(Unit⊕(Int×Unit))) (λ(v14:(Int×Unit)) =>
 (cond (decide (v14.1<(a1.2.2.length:Int)))
 ((at? a1.2.2 v14.1).bind λv15 =>
 ((be_ v15 0 (w64 ((a0.1.length:Int) - 1))).bind λv16 =>
 (cond (!v16.1)
 (some (inr (inr (28,()))))
 (some (inl ((w64 (v14.1+1)),()))))))
 (some (inr (inl ()))))) (0,())).bind λv17 =>
 (cj_ v17 (λv18=>(some (0,())))
 (λv19=>(some v19)))))
 (λv13=>(some v13)))))
 (λv7=>(some v7))))))))
theorem x_128:av_ (P:=prog) (cxC [c_131,cv8,ch9] []) (.p .z (.p .z (.p (.j0 [.v 40 .bool] .z .z) (.p (.p .z (.ls [.v 44 .int] [] [] 0 .z)) (.p (.p .z (.ls [.v 58 .int] [] [] 2 .z)) (.p (.p .z (.ls [.v 77 .int] [] [] 4 .z)) .z)))))) 128 [ao_,ar_] [.int]=λx=>bx_ x.1 x.2.1:=by kernel_rfl
noncomputable def ci2:Con prog:=aw_ _ _ 128 [ao_,ar_] [.int] _ x_128
noncomputable def da_ (a0:ac_) (a1:(List ak_)):Option (Int×Int×Unit) :=
 ((ey_ a0 a1).bind λv0 =>
 (cond (v0.1 != 0)
 (some (0,(v0.1,())))
 ((ex_ a0 a1).bind λv1 =>
 (some (v1.1,(0,()))))))
theorem x_231:av_ (P:=prog) (cxC [c_251,c_252] []) .z 231 [al_,(.list aq_)] [.int,.int]=λx=>da_ x.1 x.2.1:=by kernel_rfl
noncomputable def c_231:Con prog:=aw_ _ _ 231 [al_,(.list aq_)] [.int,.int] _ x_231
end
end Go.Proofs.YtgeehfnbhbibeaaGreatDoor.Rx
namespace Go.Proofs.YtgeehfnbhbibeaaGreatDoor.Rx
open Go Pad Rex Sum
section
theorem kj_ {α ρ:Type} {p:Nat→α→Option ρ} {e:ρ} (h:∀ i x,p i x≠some e):∀ (l:List α) (i:Nat),ge_ p i l≠some e
 | [],_=>by simp[ge_]
 | x::l,i=>by
  unfold ge_
  cases hp:p i x with
  | some r =>
   intro he
   cases he
   exact h i x hp
  | none=>exact kj_ h l (i+1)
theorem gk_ {o:Option Int} {k:Int} (h:o.getD k=0) (hn:o≠some 0):o=none∧k=0:=by
 cases o with
 | none=>exact⟨rfl,h⟩
 | some e =>
  have:e=0:=h
  subst this
  exact absurd rfl hn
theorem yh_ {a:Bool} {e:Int} (h:e≠0):kz_ a e≠some 0:=by
 unfold kz_
 cases a with
 | true=>simp
 | false=>simpa using h
theorem yg_ {a b:Bool} {e f:Int} (h:e≠0) (k:f≠0):sz_ a e b f≠some 0:=by
 unfold sz_
 cases a with
 | false=>simpa using h
 | true =>
  cases b with
  | true=>simp
  | false=>simpa using k
theorem ky_ {a:Bool} {e:Int} (h:kz_ a e=none):a=true:=by cases a with
 | true=>rfl
 | false=>cases h
theorem oq_ {a b:Bool} {e f:Int} (h:sz_ a e b f=none):a=true∧b=true:=by
 cases a with
 | false=>cases h
 | true=>cases b with
  | true=>exact⟨rfl,rfl⟩
  | false=>cases h
theorem de_ {α ρ:Type} {p:Nat→α→Option ρ} {l:List α} (h:ge_ p 0 l=none) {i:Nat} {x:α} (hx:l[i]?=some x):p i x=none:=by
 have:=(iq_ l 0).1 h i x hx
 rwa [b0_] at this
structure OkR (r:ae_):Prop where
 many:ag7 r=false
 pl:∀ (i:Nat) x,r.1[i]?=some x→plOk r i x=true
 ne:r.1≠[]
 th:∀ (i:Nat) x,r.2.1[i]?=some x→bq7 r i x=true
 pr:∀ (i:Nat) x,r.2.2.1[i]?=some x→cp8 r i x=true∧cOk r.2.1 x.2.2=true
 wy:∀ (i:Nat) x,r.2.2.2.1[i]?=some x→cl0 r x=true∧cOk r.2.1 x.2.2=true
 ac:∀ (i:Nat) x,r.2.2.2.2.1[i]?=some x→vf_ r i x=true∧cOk r.2.1 x.2.2.2.2.1=true
 au:∀ (i:Nat) x,r.2.2.2.2.2.1[i]?=some x→nv_ r.2.1 x.2.1 x.2.2=true∧cOk r.2.1 x.1=true
 py:wi r.2.2.2.2.2.2.1 1 4=true
 go:cOk r.2.1 r.2.2.2.2.2.2.2=true
theorem br_ {r:ae_} (h:cz_ r=0):OkR r:=by
 unfold cz_ at h
 cases hm:ag7 r with
 | true=>rw[hm] at h;exact absurd (show (2:Int)=0 from h) (by decide)
 | false =>
 rw[hm] at h
 have h:(ge_ (λi x=>kz_ (plOk r i x) 22) 0 r.1).getD _=0:=h
 obtain⟨h1,h⟩:=gk_ h (kj_ (λi x=>yh_ (by decide)) _ _)
 cases he:(r.1.length:Int)==0 with
 | true=>rw[he] at h;exact absurd (show (22:Int)=0 from h) (by decide)
 | false =>
 rw[he] at h
 have h:(ge_ (λi x=>kz_ (bq7 r i x) 21) 0 r.2.1).getD _=0:=h
 obtain⟨h2,h⟩:=gk_ h (kj_ (λi x=>yh_ (by decide)) _ _)
 obtain⟨h3,h⟩:=gk_ h (kj_ (λi x=>yg_ (by decide) (by decide)) _ _)
 obtain⟨h4,h⟩:=gk_ h (kj_ (λi x=>yg_ (by decide) (by decide)) _ _)
 obtain⟨h5,h⟩:=gk_ h (kj_ (λi x=>yg_ (by decide) (by decide)) _ _)
 obtain⟨h6,h⟩:=gk_ h (kj_ (λi x=>yg_ (by decide) (by decide)) _ _)
 cases h7:wi r.2.2.2.2.2.2.1 1 4 with
 | false=>rw[h7] at h;exact absurd (show (1:Int)=0 from h) (by decide)
 | true =>
 rw[h7] at h
 cases h8:cOk r.2.1 r.2.2.2.2.2.2.2 with
 | false=>rw[h8] at h;exact absurd (show (25:Int)=0 from h) (by decide)
 | true =>
 refine⟨hm,λi x hx=>ky_ (de_ h1 hx),λe => ?_,λi x hx=>ky_ (de_ h2 hx),λi x hx=>oq_ (de_ h3 hx),λi x hx=>oq_ (de_ h4 hx),λi x hx=>oq_ (de_ h5 hx),λi x hx=>oq_ (de_ h6 hx),h7,h8⟩
 rw[e] at he
 cases he
def inR (r:ae_) (p:Int):Bool:=wi p (w64 ((w64 ((-2) - r.2.2.2.2.2.2.1))+1)) (w64 ((r.1.length:Int) - 1))
def ag9 (r:ae_) (s:ai_):Bool:=((s.1.length:Int) != (r.2.1.length:Int))||(((s.2.1.length:Int) != (r.2.2.1.length:Int))||((s.2.2.length:Int) != r.2.2.2.2.2.2.1))
def ckS (r:ae_) (s:ai_):Int :=
 cond (ag9 r s) 28 ((ge_ (λi n=>kz_ (nv_ r.2.1 (i:Int) n) 28) 0 s.1).getD ((ge_ (λ_ p=>kz_ (inR r p) 28) 0 s.2.1).getD ((ge_ (λ_ p=>kz_ (sk_ r p) 28) 0 s.2.2).getD 0)))
def nl_ (r:ae_) (s:ai_):Int:=cond (cz_ r != 0) (cz_ r) (ckS r s)
theorem cb2 (r:ae_) (s:ai_):(cond ((s.1.length:Int) != (r.2.1.length:Int))
 (some (true,()))
 (cond ((s.2.1.length:Int) != (r.2.2.1.length:Int))
 (some (true,()))
 (some (((s.2.2.length:Int) != r.2.2.2.2.2.2.1),()))))=some (ag9 r s,()):=by
  unfold ag9
  cases (s.1.length:Int) != (r.2.1.length:Int) with
  | true=>rfl
  | false =>
  cases (s.2.1.length:Int) != (r.2.2.1.length:Int) with
  | true=>rfl
  | false=>rfl
theorem be8 {r:ae_} {s:ai_} (h:ag9 r s=false):s.1.length=r.2.1.length∧s.2.1.length=r.2.2.1.length∧(s.2.2.length:Int)=r.2.2.2.2.2.2.1:=by
 unfold ag9 at h
 simp only[c0_,bne_eq_false_iff_eq] at h
 omega
theorem fc_ {r:ae_} (h:SmR r) (s:ai_):bx_ r s=some (nl_ r s,()):=by
 unfold bx_ nl_
 rw[tf_ h,a0_]
 cases hr:cz_ r != 0 with
 | true=>rfl
 | false =>
 have ok:=br_ (by simpa using hr)
 simp only[a2_]
 refine e6_ (congrArg (λo=>Option.bind o _) (cb2 r s)) ?_
 rw[a0_]
 unfold ckS
 cases hl:ag9 r s with
 | true=>rfl
 | false =>
 obtain⟨l1,l2,l3⟩:=be8 hl
 have hp:=cg_.1 ok.py
 have m1:Sm s.1.length:=by rw[l1];exact h.th
 have m2:Sm s.2.1.length:=by rw[l2];exact h.pr
 have m3:Sm s.2.2.length:=by show s.2.2.length≤1000000000;omega
 simp only[a2_]
 refine bu_ s.1 (λi n=>kz_ (nv_ r.2.1 (i:Int) n) 28) (λi y hy => ?_) ?_ (es_ ?_)
 ·have hi:=am_ hy
  simp only[dlt hi,a5_,ah_ hy,a0_,az_ (show Sm i by omega),pt_ h.th]
  unfold kz_
  cases nv_ r.2.1 (i:Int) y<;>rfl
 ·simp only[dnl,a2_]
 refine bu_ s.2.1 (λ_ p=>kz_ (inR r p) 28) (λi y hy => ?_) ?_ (es_ ?_)
 ·have hi:=am_ hy
  simp only[dlt hi,a5_,ah_ hy,a0_,az_ (show Sm i by omega),dy_]
  unfold kz_ inR
  cases wi y (w64 ((w64 ((-2) - r.2.2.2.2.2.2.1))+1)) (w64 ((r.1.length:Int) - 1))<;>rfl
 ·simp only[dnl,a2_]
 refine bu_ s.2.2 (λ_ p=>kz_ (sk_ r p) 28) (λi y hy => ?_) ?_ (es_ ?_)
 ·have hi:=am_ hy
  simp only[dlt hi,a5_,ah_ hy,a0_,az_ (show Sm i by omega),dy_]
  unfold kz_ sk_
  cases wi y 0 (w64 ((r.1.length:Int) - 1))<;>rfl
 ·simp only[dnl,a2_]
 rfl
theorem da3 {r:ae_} (h:SmR r) (hp:wi r.2.2.2.2.2.2.1 1 4=true) (p:Int):inR r p=(sk_ r p||(p==-1||wi p (w64 ((w64 ((-2) - r.2.2.2.2.2.2.1))+1)) (-2))):=by
 have hp:=cg_.1 hp
 have hpl:=h.pl
 have e1:w64 ((r.1.length:Int) - 1)=(r.1.length:Int) - 1:=er_ (by omega) (by omega)
 have e2:w64 ((-2) - r.2.2.2.2.2.2.1)=(-2) - r.2.2.2.2.2.2.1:=er_ (by omega) (by omega)
 have e3:w64 (((-2) - r.2.2.2.2.2.2.1)+1)=((-2) - r.2.2.2.2.2.2.1)+1:=er_ (by omega) (by omega)
 unfold inR sk_
 rw[e1,e2,e3,k4_]
 simp only[c6_,cg_,f6_]
 omega
theorem uy_ {r:ae_} (h:SmR r) (s:ai_):ev_ r s=some (nl_ r s,()):=by
 unfold ev_ nl_
 rw[qw_ h,a0_]
 cases hr:cz_ r != 0 with
 | true=>rfl
 | false =>
 have ok:=br_ (by simpa using hr)
 simp only[a2_]
 refine e6_ (congrArg (λo=>Option.bind o _) (cb2 r s)) ?_
 rw[a0_]
 unfold ckS
 cases hl:ag9 r s with
 | true=>rfl
 | false =>
 obtain⟨l1,l2,l3⟩:=be8 hl
 have hp:=cg_.1 ok.py
 have m1:Sm s.1.length:=by rw[l1];exact h.th
 have m2:Sm s.2.1.length:=by rw[l2];exact h.pr
 have m3:Sm s.2.2.length:=by show s.2.2.length≤1000000000;omega
 simp only[a2_]
 refine bu_ s.1 (λi n=>kz_ (nv_ r.2.1 (i:Int) n) 28) (λi y hy => ?_) ?_ (es_ ?_)
 ·have hi:=am_ hy
  simp only[dlt hi,a5_,ah_ hy,a0_,az_ (show Sm i by omega),rw_ h.th]
  unfold kz_
  cases nv_ r.2.1 (i:Int) y<;>rfl
 ·simp only[dnl,a2_]
 refine bu_ s.2.1 (λ_ p=>kz_ (inR r p) 28) (λi y hy => ?_) ?_ (es_ ?_)
 ·have hi:=am_ hy
  simp only[dlt hi,a5_,ah_ hy,a0_,az_ (show Sm i by omega),ic_,fp_]
  rw[da3 h ok.py]
  unfold kz_ sk_
  have e:(y != -1) = !(y==-1):=rfl
  rw[e]
  cases wi y 0 (w64 ((r.1.length:Int) - 1)) with
  | true=>rfl
  | false =>
  cases y==-1 with
  | true=>rfl
  | false=>cases wi y (w64 ((w64 ((-2) - r.2.2.2.2.2.2.1))+1)) (-2)<;>rfl
 ·simp only[dnl,a2_]
 refine bu_ s.2.2 (λ_ p=>kz_ (sk_ r p) 28) (λi y hy => ?_) ?_ (es_ ?_)
 ·have hi:=am_ hy
  simp only[dlt hi,a5_,ah_ hy,a0_,az_ (show Sm i by omega),ic_]
  unfold kz_ sk_
  cases wi y 0 (w64 ((r.1.length:Int) - 1))<;>rfl
 ·simp only[dnl,a2_]
 rfl
end
section
def gi (l:List Int) (i:Int):Int:=(at? l i).getD 0
theorem mc_ {l:List Int} {i x:Int} (h:at? l i=some x):gi l i=x:=by unfold gi;rw[h];rfl
theorem ms_ {l:List Int} {i:Int} (h0:0≤i) (h1:i<l.length):at? l i=some (gi l i):=by
 obtain⟨x,hx⟩:=bd_ (l:=l) (i:=i.toNat) (by omega)
 have:at? l i=some x:=by rw[show i=((i.toNat:Nat):Int) by omega];exact ah_ hx
 rw[this,mc_ this]
def InC (n:Nat) (c:List bg_):Prop:=∀ l ∈ c,0≤l.1∧l.1<n
theorem ut_ {things:List gz_} (hl:Sm things.length) {c:List bg_} (h:cOk things c=true):InC things.length c∧c.length≤8:=by
 unfold cOk at h
 rw[a1_] at h
 refine⟨λl hm => ?_,by have:=g3_ h.1;omega⟩
 have h2:=f2_.1 h.2 l hm
 unfold nv_ at h2
 rw[a1_] at h2
 have:=cg_.1 h2.1
 rw[er_ (by omega) (by omega)] at this
 omega
def dp_ (th:List Int) (c:List bg_):Bool:=c.all λl=>!((gi th l.1==l.2.1)==l.2.2)
theorem cj7 {α:Type} (l:List α) (q:α→Bool):(!(l.any q))=l.all λx=>!(q x):=by
 induction l with
 | nil=>rfl
 | cons x l ih =>
  rw[q2_,List.all_cons,← ih]
  cases q x<;>rfl
theorem mu_ {t:hk_} {c:List bg_} (hc:Sm c.length) (hi:InC t.2.1.length c):bb_ t c=some (dp_ t.2.1 c,()):=by
 unfold bb_ dp_
 refine e6_ (congrArg (λo=>Option.bind o _) (ow_ hc (λl=>(gi t.2.1 l.1==l.2.1)==l.2.2) (λi y hy => ?_) ?_)) ?_
 ·have:=hi y (ax_ hy)
  simp only[dlt (am_ hy),a5_,ah_ hy,ms_ this.1 this.2,a0_]
  cases (gi t.2.1 y.1==y.2.1)==y.2.2<;>rfl
 ·simp only[dnl,a2_]
 ·rw[a0_]
  exact congrArg (λb=>some (b,())) (cj7 c _)
theorem jn_ {s:ai_} {c:List bg_} (hc:Sm c.length) (hi:InC s.1.length c):bm_ s c=some (dp_ s.1 c,()):=by
 unfold bm_ dp_
 refine bn_ c (λi l=>cond ((gi s.1 l.1==l.2.1)==l.2.2) (some (inr (false,()):Unit⊕(Bool×Unit))) none) (λi=>((i:Int),())) (r0:=inl ()) (λi y hy => ?_) ?_ ?_
 ·have:=hi y (ax_ hy)
  have hl:=am_ hy
  simp only[dlt hl,a5_,ah_ hy,ms_ this.1 this.2,a0_,az_ (show Sm i by omega)]
  cases (gi s.1 y.1==y.2.1)==y.2.2<;>rfl
 ·simp only[dnl,a2_]
 ·rw[hm_ (q:=λl:bg_=>(gi s.1 l.1==l.2.1)==l.2.2),← cj7]
  cases c.any λl=>(gi s.1 l.1==l.2.1)==l.2.2<;>rfl
end
end Go.Proofs.YtgeehfnbhbibeaaGreatDoor.Rx
namespace Go.Proofs.YtgeehfnbhbibeaaGreatDoor.Rex
open Go Pad
section
variable [Gb]
def bt6 (g:Nat→Option Nat):SV→Option SV
 | .row o=>(g o).map .row
 | .ptr o k=>(g o).map λo=>.ptr o k
 | .ptrE o i k z p=>(g o).map λo=>.ptrE o i k z p
 | .map o=>(g o).map .map
 | .fn o=>(g o).map .fn
 | .arr o=>(g o).map .arr
 | s=>some s
def xk_ {α β:Type} (f:α→Option β):List α→Option (List β)
 | []=>some []
 | a::l=>(f a).bind λb=>(xk_ f l).bind λm=>some (b::m)
def renB (g:Nat→Option Nat):BV→Option BV
 | .one s=>(bt6 g s).map .one
 | .agg l=>(xk_ (bt6 g) l).map .agg
 | b=>some b
def renA (g:Nat→Option Nat):AV→Option AV
 | .b x=>(renB g x).map .b
 | .tup l=>(xk_ (renB g) l).map .tup
def bo4 (g:Nat→Option Nat):AO→Option AO
 | .cells T l ro=>(xk_ (bt6 g) l).map λl=>.cells T l ro
 | .fn f a b=>(xk_ (bt6 g) a).bind λa=>(xk_ (bt6 g) b).map λb=>.fn f a b
 | .row t T l ro=>some (.row t T l ro)
 | .map k v m ro=>some (.map k v m ro)
 | .froz t x=>some (.froz t x)
 | .gone=>some .gone
 | _=>none
section
variable {hv hv':Nat→Value} {S:PH} {g:Nat→Option Nat}
theorem ag6 {α β γ:Type} {f:α→Option β} {R:α→γ→Prop} {R':β→γ→Prop} (h:∀ a b v,f a=some b→(R a v↔R' b v)):∀ {l:List α} {m:List β} {vs:List γ},xk_ f l=some m→(Fa R l vs↔Fa R' m vs)
 | [],m,vs,e=>by
  cases e
  cases vs<;>exact q5_
 | a::l,m,vs,e=>by
  obtain⟨b,h1,e⟩:=bnd e
  obtain⟨m',h2,e⟩:=bnd e
  cases e
  cases vs with
  | nil=>exact q5_
  | cons v vs =>
   have i1:=h a b v h1
   have i2:=ag6 h (vs:=vs) h2
   exact⟨λq=>⟨i1.1 q.1,i2.1 q.2⟩,λq=>⟨i1.2 q.1,i2.2 q.2⟩⟩
theorem bt4 (hg:∀ o p,g o=some p→hv' p=hv o) {s s':SV} {v:Value} (h:bt6 g s=some s'):RS hv S s v↔RS hv' S s' v:=by
 cases s with
 | dead=>cases h;exact q5_
 | val t x=>cases h;exact q5_
 | nils=>cases h;exact q5_
 | nilp=>cases h;exact q5_
 | nilm=>cases h;exact q5_
 | row o=>obtain⟨p,hp,e⟩:=hb_ h;subst e;simp only[RS,RS0,hg o p hp]
 | ptr o k=>obtain⟨p,hp,e⟩:=hb_ h;subst e;simp only[RS,RS0,hg o p hp]
 | ptrE o i k z q=>obtain⟨p,hp,e⟩:=hb_ h;subst e;simp only[RS,RS0,hg o p hp]
 | map o=>obtain⟨p,hp,e⟩:=hb_ h;subst e;simp only[RS,RS0,hg o p hp]
 | fn o=>obtain⟨p,hp,e⟩:=hb_ h;subst e;simp only[RS,RS0,hg o p hp]
 | arr o=>obtain⟨p,hp,e⟩:=hb_ h;subst e;simp only[RS,RS0,hg o p hp]
theorem am2 (hg:∀ o p,g o=some p→hv' p=hv o) {l m:List SV} {vs:List Value} (h:xk_ (bt6 g) l=some m):Fa (RS hv S) l vs↔Fa (RS hv' S) m vs:=ag6 (R:=RS hv S) (R':=RS hv' S) (λa b v q=>bt4 hg q) h
theorem bu0 (hg:∀ o p,g o=some p→hv' p=hv o) {s s':BV} {v:Value} (h:renB g s=some s'):RB hv S s v↔RB hv' S s' v:=by
 cases s with
 | dead=>cases h;exact q5_
 | val t x=>cases h;exact q5_
 | one s=>obtain⟨p,hp,e⟩:=hb_ h;subst e;exact bt4 hg hp
 | agg l =>
  obtain⟨m,hm,e⟩:=hb_ h
  subst e
  exact⟨λ⟨cs,e,q⟩=>⟨cs,e,(am2 hg hm).1 q⟩,λ⟨cs,e,q⟩=>⟨cs,e,(am2 hg hm).2 q⟩⟩
theorem renBs (hg:∀ o p,g o=some p→hv' p=hv o) {l m:List BV} {vs:List Value} (h:xk_ (renB g) l=some m):Fa (RB hv S) l vs↔Fa (RB hv' S) m vs:=ag6 (R:=RB hv S) (R':=RB hv' S) (λa b v q=>bu0 hg q) h
theorem bu2 (hg:∀ o p,g o=some p→hv' p=hv o) {s s':AV} {v:Value} (h:renA g s=some s'):RA hv S s v↔RA hv' S s' v:=by
 cases s with
 | b x=>obtain⟨p,hp,e⟩:=hb_ h;subst e;exact bu0 hg hp
 | tup l =>
  obtain⟨m,hm,e⟩:=hb_ h
  subst e
  exact⟨λ⟨cs,e,q⟩=>⟨cs,e,(renBs hg hm).1 q⟩,λ⟨cs,e,q⟩=>⟨cs,e,(renBs hg hm).2 q⟩⟩
theorem bt7 (hg:∀ o p,g o=some p→hv' p=hv o) {a a':AO} {v:Value} (h:bo4 g a=some a'):OH hv v a=OH hv' v a':=by
 cases a with
 | unborn=>cases h
 | gone=>cases h;rfl
 | row t T l ro=>cases h;rfl
 | map k w m ro=>cases h;rfl
 | froz t x=>cases h;rfl
 | grid G l q ro=>cases h
 | yld Y st ro=>cases h
 | cells T l ro =>
  obtain⟨m,hm,e⟩:=hb_ h
  subst e
  refine uq_ (funext λS=>funext λk=>propext ⟨?_,?_⟩)
  ·rintro⟨q,cs,h1,h2,h3⟩
   exact⟨q,cs,h1,(am2 hg hm).1 h2,h3⟩
  ·rintro⟨q,cs,h1,h2,h3⟩
   exact⟨q,cs,h1,(am2 hg hm).2 h2,h3⟩
 | fn f x y =>
  obtain⟨m,hm,h⟩:=bnd h
  obtain⟨m2,hm2,e⟩:=hb_ h
  subst e
  refine uq_ (funext λS=>funext λk=>propext ⟨?_,?_⟩)
  ·rintro⟨h0,xs,ys,h1,h2,h3⟩
   exact⟨h0,xs,ys,h1,(am2 hg hm).1 h2,(am2 hg hm2).1 h3⟩
  ·rintro⟨h0,xs,ys,h1,h2,h3⟩
   exact⟨h0,xs,ys,h1,(am2 hg hm).2 h2,(am2 hg hm2).2 h3⟩
end
def bo5:List Nat→Nat→Nat→Option Nat
 | [],_,_=>none
 | i::ids,o,k=>cond (Nat.beq o i) (some k) (bo5 ids o (k+1))
def rg_:List Nat→List AO→List AO
 | [],ob=>ob
 | i::ids,ob=>rg_ ids (ob.set i .gone)
section
variable {hv:Nat→Value} {S:PH} {w:World}
theorem bc9:∀ {ids:List Nat} {o k p:Nat},bo5 ids o k=some p→k≤p∧ids[p - k]?=some o
 | i::ids,o,k,p,h=>by
  have h:cond (Nat.beq o i) (some k) (bo5 ids o (k+1))=some p:=h
  cases hb:Nat.beq o i with
  | true =>
   rw[hb] at h
   cases h
   rw[j9_,a3_ hb]
   exact⟨c3_ _,rfl⟩
  | false =>
   rw[hb] at h
   obtain⟨h1,h2⟩:=bc9 (show bo5 ids o (k+1)=some p from h)
   refine⟨by omega,?_⟩
   rw[show p - k=(p - (k+1))+1 by omega]
   exact h2
theorem aq3:∀ {ids:List Nat} {ob:List AO} {j:Nat},(∀ i ∈ ids,i≠j)→(rg_ ids ob)[j]?=ob[j]?
 | [],ob,j,_=>rfl
 | i::ids,ob,j,h=>by
  show (rg_ ids (ob.set i .gone))[j]?=_
  rw[aq3 λi' hi'=>h i' (by simp[hi']),b3_ (h i (by simp))]
def atI (ob:List AO) (ids:List Nat):Option (List AO):=xk_ (λi=>ob[i]?) ids
theorem bb1:∀ {ids:List Nat} {ob:List AO} {l:List AO} {X Fm:List HP},ids.Nodup→atI ob ids=some l→Inv w S (X++(OHs hv 0 ob++Fm)) →
  Inv w S ((ids.zip l).map (λp=>OH hv (hv p.1) p.2)++(X++(OHs hv 0 (rg_ ids ob)++Fm)))
 | [],ob,l,X,Fm,_,h,hI=>by
  cases h
  exact hI
 | i::ids,ob,l,X,Fm,hn,h,hI=>by
  rw[g0_] at hn
  obtain⟨a,h1,h⟩:=bnd h
  obtain⟨m,h2,h⟩:=bnd h
  cases h
  have hI1:=jm_ h1 hI
  have h2':atI (ob.set i .gone) ids=some m:=by
   have gen:∀ {ids:List Nat} {m:List AO},i ∉ ids→atI ob ids=some m→atI (ob.set i .gone) ids=some m:=by
    intro ids
    induction ids with
    | nil=>intro m _ h;exact h
    | cons j ids ih =>
     intro m hi h
     obtain⟨a,g1,h⟩:=bnd h
     obtain⟨m',g2,h⟩:=bnd h
     cases h
     have hij:i≠j:=by rintro rfl;exact hi (by simp)
     show ((ob.set i .gone)[j]?).bind _=_
     rw[b3_ hij,show ob[j]?=some a from g1]
     show (atI (ob.set i .gone) ids).bind _=_
     rw[ih (λh=>hi (by simp[h])) g2]
     rfl
   exact gen hn.1 h2
  have hI2:Inv w S ((OH hv (hv i) a::X)++(OHs hv 0 (ob.set i .gone)++Fm)):=hI1
  have:=bb1 (X:=OH hv (hv i) a::X) hn.2 h2' hI2
  refine this.perm ?_
  show ((ids.zip m).map (λp=>OH hv (hv p.1) p.2)++(OH hv (hv i) a::(X++(OHs hv 0 (rg_ ids (ob.set i .gone))++Fm)))).Perm (OH hv (hv i) a::((ids.zip m).map (λp=>OH hv (hv p.1) p.2)++(X++(OHs hv 0 (rg_ ids (ob.set i .gone))++Fm))))
  exact d0_
end
section
theorem nc_ {α β:Type} {f:α→Option β}:∀ {l:List α} {m:List β},xk_ f l=some m→m.length=l.length∧∀ (j:Nat) a,l[j]?=some a→∃ b,m[j]?=some b∧f a=some b
 | [],m,h=>by cases h;exact⟨rfl,λj a h=>by simp at h⟩
 | a::l,m,h=>by
  obtain⟨b,h1,h⟩:=bnd h
  obtain⟨m',h2,h⟩:=bnd h
  cases h
  obtain⟨g1,g2⟩:=nc_ h2
  refine⟨by simp[g1],λj c hc => ?_⟩
  cases j with
  | zero=>simp at hc;subst hc;exact⟨b,rfl,h1⟩
  | succ j=>exact g2 j c (by simpa using hc)
theorem sh_ {α β:Type} {f:α→Option β} {l:List α} {m:List β} (h:xk_ f l=some m) {b:β} (hb:b ∈ m):∃ a ∈ l,f a=some b:=by
 obtain⟨j,hj⟩:=e3_ hb
 obtain⟨g1,g2⟩:=nc_ h
 have hl:j<l.length:=by rw[← g1];exact (a4_.1 hj).1
 obtain⟨b',e1,e2⟩:=g2 j _ (a7_ hl)
 rw[hj] at e1
 cases e1
 exact⟨_,List.getElem_mem hl,e2⟩
theorem ag5 {α β:Type} {f:α→Option β} {h:β→Option α} (hi:∀ a b c,f a=some b→h b=some c→c=a):∀ {l:List α} {m:List β} {q:List α},xk_ f l=some m→xk_ h m=some q→q=l
 | [],m,q,e,k=>by cases e;cases k;rfl
 | a::l,m,q,e,k=>by
  obtain⟨b,h1,e⟩:=bnd e
  obtain⟨m',h2,e⟩:=bnd e
  cases e
  obtain⟨c,h3,k⟩:=bnd k
  obtain⟨q',h4,k⟩:=bnd k
  cases k
  rw[hi a b c h1 h3,ag5 hi h2 h4]
variable {g gb:Nat→Option Nat} {n:List AO}
theorem bt5 (hb:∀ o p,g o=some p→born n p=true) {s s':SV} (h:bt6 g s=some s'):s'.lt n=true:=by
 cases s with
 | dead=>cases h;rfl
 | val t x=>cases h;rfl
 | nils=>cases h;rfl
 | nilp=>cases h;rfl
 | nilm=>cases h;rfl
 | row o=>obtain⟨p,hp,e⟩:=hb_ h;subst e;exact hb o p hp
 | ptr o k=>obtain⟨p,hp,e⟩:=hb_ h;subst e;exact hb o p hp
 | ptrE o i k z q=>obtain⟨p,hp,e⟩:=hb_ h;subst e;exact hb o p hp
 | map o=>obtain⟨p,hp,e⟩:=hb_ h;subst e;exact hb o p hp
 | fn o=>obtain⟨p,hp,e⟩:=hb_ h;subst e;exact hb o p hp
 | arr o=>obtain⟨p,hp,e⟩:=hb_ h;subst e;exact hb o p hp
theorem vm_ (hb:∀ o p,g o=some p→born n p=true) {l m:List SV} (h:xk_ (bt6 g) l=some m):em_ (SV.lt n) m=true:=fo_ λa ha=>by
 obtain⟨b,_,e⟩:=sh_ h ha
 exact bt5 hb e
theorem bu1 (hb:∀ o p,g o=some p→born n p=true) {s s':BV} (h:renB g s=some s'):s'.lt n=true:=by
 cases s with
 | dead=>cases h;rfl
 | val t x=>cases h;rfl
 | one s=>obtain⟨p,hp,e⟩:=hb_ h;subst e;exact bt5 hb hp
 | agg l=>obtain⟨p,hp,e⟩:=hb_ h;subst e;exact vm_ hb hp
theorem bu3 (hb:∀ o p,g o=some p→born n p=true) {s s':AV} (h:renA g s=some s'):s'.lt n=true:=by
 cases s with
 | b x=>obtain⟨p,hp,e⟩:=hb_ h;subst e;exact bu1 hb hp
 | tup l =>
  obtain⟨p,hp,e⟩:=hb_ h
  subst e
  exact fo_ λa ha=>by
   obtain⟨b,_,e⟩:=sh_ hp ha
   exact bu1 hb e
theorem bt9 (hb:∀ o p,g o=some p→born n p=true) {a a':AO} (h:bo4 g a=some a'):a'.lt n=true∧a'≠.unborn:=by
 cases a with
 | unborn=>cases h
 | gone=>cases h;exact⟨rfl,by simp⟩
 | row t T l ro=>cases h;exact⟨rfl,by simp⟩
 | map k w m ro=>cases h;exact⟨rfl,by simp⟩
 | froz t x=>cases h;exact⟨rfl,by simp⟩
 | grid G l q ro=>cases h
 | yld Y st ro=>cases h
 | cells T l ro=>obtain⟨m,hm,e⟩:=hb_ h;subst e;exact⟨vm_ hb hm,by simp⟩
 | fn f x y =>
  obtain⟨m,hm,h⟩:=bnd h
  obtain⟨m2,hm2,e⟩:=hb_ h
  subst e
  refine⟨?_,by simp⟩
  show (em_ (SV.lt n) m&&em_ (SV.lt n) m2)=true
  rw[vm_ hb hm,vm_ hb hm2]
  rfl
theorem ad7 (hi:∀ o p q,g o=some p→gb p=some q→q=o) {s s' s2:SV} (h:bt6 g s=some s') (k:bt6 gb s'=some s2):s2=s:=by
 cases s with
 | dead=>cases h;cases k;rfl
 | val t x=>cases h;cases k;rfl
 | nils=>cases h;cases k;rfl
 | nilp=>cases h;cases k;rfl
 | nilm=>cases h;cases k;rfl
 | row o=>obtain⟨p,hp,e⟩:=hb_ h;subst e;obtain⟨q,hq,e⟩:=hb_ k;subst e;rw[hi o p q hp hq]
 | ptr o i=>obtain⟨p,hp,e⟩:=hb_ h;subst e;obtain⟨q,hq,e⟩:=hb_ k;subst e;rw[hi o p q hp hq]
 | ptrE o i k z r=>obtain⟨p,hp,e⟩:=hb_ h;subst e;obtain⟨q,hq,e⟩:=hb_ k;subst e;rw[hi o p q hp hq]
 | map o=>obtain⟨p,hp,e⟩:=hb_ h;subst e;obtain⟨q,hq,e⟩:=hb_ k;subst e;rw[hi o p q hp hq]
 | fn o=>obtain⟨p,hp,e⟩:=hb_ h;subst e;obtain⟨q,hq,e⟩:=hb_ k;subst e;rw[hi o p q hp hq]
 | arr o=>obtain⟨p,hp,e⟩:=hb_ h;subst e;obtain⟨q,hq,e⟩:=hb_ k;subst e;rw[hi o p q hp hq]
theorem renO_k1 (hi:∀ o p q,g o=some p→gb p=some q→q=o) {a a' b b':AO} (h:bo4 g a=some a') (hk:K1 a' b) (h2:bo4 gb b=some b'):K1 a b':=by
 cases a with
 | unborn=>cases h
 | gone=>trivial
 | grid G l q ro=>cases h
 | yld Y st ro=>cases h
 | row t T l ro =>
  cases h
  cases ro with
  | false=>trivial
  | true=>have hk:b = .row t T l true:=hk;subst hk;cases h2;exact K1.refl _
 | map k w m ro =>
  cases h
  cases ro with
  | false=>trivial
  | true=>have hk:b = .map k w m true:=hk;subst hk;cases h2;exact K1.refl _
 | froz t x=>cases h;have hk:b = .froz t x:=hk;subst hk;cases h2;exact K1.refl _
 | fn f x y =>
  obtain⟨m,hm,h⟩:=bnd h
  obtain⟨m2,hm2,e⟩:=hb_ h
  subst e
  have hk:b = .fn f m m2:=hk
  subst hk
  obtain⟨p,hp,h2⟩:=bnd h2
  obtain⟨p2,hp2,e⟩:=hb_ h2
  subst e
  rw[ag5 (λ_ _ _=>ad7 hi) hm hp,ag5 (λ_ _ _=>ad7 hi) hm2 hp2]
  exact K1.refl _
 | cells T l ro =>
  obtain⟨m,hm,e⟩:=hb_ h
  subst e
  obtain⟨c,rfl,hl,hc⟩:=(show ∃ c':List SV,b = .cells T c' ro∧c'.length=m.length∧∀ j ∈ ro,c'[j]?=m[j]? from hk)
  obtain⟨c2,hc2,e⟩:=hb_ h2
  subst e
  obtain⟨l1,l2⟩:=nc_ hm
  obtain⟨l3,l4⟩:=nc_ hc2
  refine⟨c2,rfl,by omega,λj hj => ?_⟩
  have e1:=hc j hj
  by_cases hjl:j<l.length
  ·obtain⟨x,e2,e3⟩:=l2 j _ (a7_ hjl)
   rw[e2] at e1
   obtain⟨y,e4,e5⟩:=l4 j x e1
   rw[e4,a7_ hjl,ad7 hi e3 e5]
  ·rw[b4_ (by omega),b4_ (by omega)]
end
def bm1:List Nat→List AO→List AO→List AO
 | i::ids,a::l,ob=>bm1 ids l (ob.set i a)
 | _,_,ob=>ob
theorem xt_:∀ {ids:List Nat} {ob:List AO},(rg_ ids ob).length=ob.length
 | [],_=>rfl
 | i::ids,ob=>by
  show (rg_ ids (ob.set i .gone)).length=_
  rw[xt_,f3_]
theorem ae2:∀ {ids:List Nat} {l ob:List AO} {j:Nat},(∀ i ∈ ids,i≠j)→(bm1 ids l ob)[j]?=ob[j]?
 | [],_,_,_,_=>rfl
 | _::_,[],_,_,_=>rfl
 | i::ids,a::l,ob,j,h=>by
  show (bm1 ids l (ob.set i a))[j]?=_
  rw[ae2 λi' hi'=>h i' (by simp[hi']),b3_ (h i (by simp))]
theorem bv6:∀ {ids:List Nat} {l ob:List AO} {p i:Nat} {a:AO},ids.Nodup→ids[p]?=some i→l[p]?=some a→i<ob.length→(bm1 ids l ob)[i]?=some a
 | [],_,_,_,_,_,_,h,_,_=>by simp at h
 | _::_,[],_,_,_,_,_,_,h,_=>by simp at h
 | i0::ids,a0::l,ob,0,i,a,hn,h1,h2,hl=>by
  rw[g0_] at hn
  simp at h1 h2
  subst h1
  subst h2
  show (bm1 ids l (ob.set i0 a0))[i0]?=_
  rw[ae2 λi' hi'=>by rintro rfl;exact hn.1 hi']
  simp[hl]
 | i0::ids,a0::l,ob,p+1,i,a,hn,h1,h2,hl=>by
  rw[g0_] at hn
  show (bm1 ids l (ob.set i0 a0))[i]?=_
  exact bv6 hn.2 (by simpa using h1) (by simpa using h2) (by simpa using hl)
section
variable {hv:Nat→Value} {S:PH} {w:World}
theorem bv4:∀ {ids:List Nat} {l ob:List AO} {X:List HP},l.length=ids.length→(∀ i ∈ ids,i<ob.length)→Inv w S ((ids.zip l).map (λp=>OH hv (hv p.1) p.2)++(OHs hv 0 ob++X))→Inv w S (OHs hv 0 (bm1 ids l ob)++X)
 | [],[],ob,X,_,_,h=>h
 | [],_::_,_,_,h,_,_=>by simp at h
 | _::_,[],_,_,h,_,_=>by simp at h
 | i::ids,a::l,ob,X,hl,hi,h=>by
  have h1:Inv w S (OH hv (hv i) a::(OHs hv 0 ob++((ids.zip l).map (λp=>OH hv (hv p.1) p.2)++X))):=by
   refine h.perm ?_
   show (OH hv (hv i) a::((ids.zip l).map (λp=>OH hv (hv p.1) p.2)++(OHs hv 0 ob++X))).Perm _
   refine List.Perm.cons _ ?_
   rw[← b1_,← b1_]
   exact List.Perm.append_right X List.perm_append_comm
  have h2:=tb_ (hi i (by simp)) h1
  refine bv4 (ids:=ids) (l:=l) (ob:=ob.set i a) (by simpa using hl) (λj hj=>by rw[f3_];exact hi j (by simp[hj])) ?_
  refine h2.perm ?_
  rw[← b1_,← b1_]
  exact List.Perm.append_right X List.perm_append_comm
end
theorem bt8 {g:Nat→Option Nat} {a a':AO} (h:bo4 g a=some a'):a'≠.unborn:=by
 cases a with
 | unborn=>cases h
 | gone=>cases h;simp
 | row t T l ro=>cases h;simp
 | map k w m ro=>cases h;simp
 | froz t x=>cases h;simp
 | grid G l q ro=>cases h
 | yld Y st ro=>cases h
 | cells T l ro=>obtain⟨m,hm,e⟩:=hb_ h;subst e;simp
 | fn f x y =>
  obtain⟨m,hm,h⟩:=bnd h
  obtain⟨m2,hm2,e⟩:=hb_ h
  subst e
  simp
section
variable {hv hv1:Nat→Value} {S:PH} {w:World} {g:Nat→Option Nat}
theorem bx6 (hg:∀ o p,g o=some p→hv1 p=hv o):∀ {ids:List Nat} {l m:List AO} {k:Nat},xk_ (bo4 g) l=some m→l.length=ids.length→(∀ (j i:Nat),ids[j]?=some i→hv1 (k+j)=hv i)→OHs hv1 k m=(ids.zip l).map λp=>OH hv (hv p.1) p.2
 | ids,[],m,k,h,hl,_=>by
  cases h
  cases ids with
  | nil=>rfl
  | cons i ids=>simp at hl
 | [],a::l,m,k,h,hl,_=>by simp at hl
 | i::ids,a::l,m,k,h,hl,hi=>by
  obtain⟨b,h1,h⟩:=bnd h
  obtain⟨m',h2,h⟩:=bnd h
  cases h
  show OH hv1 (hv1 k) b::OHs hv1 (k+1) m'=OH hv (hv i) a::_
  have e:hv1 k=hv i:=hi 0 i rfl
  rw[e,← bt7 hg h1,bx6 hg (ids:=ids) h2 (by simpa using hl) λj i' hj=>by
   have:=hi (j+1) i' (by simpa using hj)
   rw[← this]
   congr 1
   omega]
  rfl
theorem bd7 (hg:∀ o p,g o=some p→hv p=hv1 o):∀ {ids:List Nat} {l m:List AO} {k:Nat},xk_ (bo4 g) m=some l→m.length=ids.length→(∀ (j i:Nat),ids[j]?=some i→hv1 (k+j)=hv i)→OHs hv1 k m=(ids.zip l).map λp=>OH hv (hv p.1) p.2
 | ids,l,[],k,h,hl,_=>by
  cases h
  cases ids with
  | nil=>rfl
  | cons i ids=>simp at hl
 | [],l,a::m,k,h,hl,_=>by simp at hl
 | i::ids,l,a::m,k,h,hl,hi=>by
  obtain⟨b,h1,h⟩:=bnd h
  obtain⟨m',h2,h⟩:=bnd h
  cases h
  show OH hv1 (hv1 k) a::OHs hv1 (k+1) m=OH hv (hv i) b::_
  have e:hv1 k=hv i:=hi 0 i rfl
  rw[e,bt7 hg h1,bd7 hg (ids:=ids) h2 (by simpa using hl) λj i' hj=>by
   have:=hi (j+1) i' (by simpa using hj)
   rw[← this]
   congr 1
   omega]
  rfl
theorem xo_:∀ {A B C:List HP},Inv w S (A++(B++C))→Inv w S (A++C)
 | A,[],C,h=>h
 | A,b::B,C,h=>xo_ (A:=A) (B:=B) ((h.perm (d0_ (l₁:=A) (a:=b) (l₂:=B++C))).drop)
end
def nodB:List Nat→Bool
 | []=>true
 | i::l=>!inL i l&&nodB l
theorem da4 {i:Nat}:∀ {l:List Nat},inL i l=true↔i ∈ l
 | []=>by simp[inL]
 | a::l=>by
  show (Nat.beq i a||inL i l)=true↔_
  rw[c6_,d4_,da4 (l:=l)]
  exact⟨λh=>h.imp a3_ id,λh=>h.imp (λe=>by rw[e];exact g1_ _) id⟩
theorem by6:∀ {l:List Nat},nodB l=true→l.Nodup
 | [],_=>p3_
 | i::l,h=>by
  have h:(!inL i l&&nodB l)=true:=h
  rw[a1_,k2_] at h
  refine g0_.2 ⟨λhm => ?_,by6 h.2⟩
  rw[da4.2 hm] at h
  cases h.1
def EOk (P:Program) [Tb P] (fk:FuncId) (E:List AV→List AO→Option (AV×List AO)):Prop:=∀ avs objs av objs',E avs objs=some (av,objs')→ea_ P fk ∧
 ∀ {S:PH} {hv:Nat→Value} {Fm:List HP} {w:World} {vs:List Value},GlS S→Inv w S (OHs hv 0 objs++Fm)→WfO objs→Fa (RA hv S) avs vs→(∀ a ∈ avs,a.lt objs=true) →
  Calls P fk vs.toArray w λe w'=>∃ v S' hv',e = .returned v∧BLe objs objs'∧Keep objs objs'∧WfO objs'∧av.lt objs'=true∧S.Le S'∧Ag objs hv hv'∧RA hv' S' av v∧Inv w' S' (OHs hv' 0 objs'++Fm)
def nrm (q:Bool):AO→AO
 | .cells T l _=>.cells T l (List.range l.length)
 | .row t T l ro=>.row t T l (cond q true ro)
 | .map k v m ro=>.map k v m (cond q true ro)
 | a=>a
def nrmL (qs:List Nat):Nat→List AO→List AO
 | _,[]=>[]
 | k,a::l=>nrm (inL k qs) a::nrmL qs (k+1) l
theorem be0 {qs:List Nat}:∀ {l:List AO} {k:Nat},(nrmL qs k l).length=l.length
 | [],_=>rfl
 | a::l,k=>congrArg (· + 1) be0
theorem af4 {qs:List Nat}:∀ {l:List AO} {k p:Nat} {a:AO},l[p]?=some a→∃ q,(nrmL qs k l)[p]?=some (nrm q a)
 | [],_,_,_,h=>by simp at h
 | b::l,k,0,a,h=>by
  simp at h
  subst h
  exact⟨_,rfl⟩
 | b::l,k,p+1,a,h=>af4 (l:=l) (k:=k+1) (p:=p) (by simpa using h)
theorem nrm_oh (q:Bool) (hv:Nat→Value) (v:Value) (a:AO):OH hv v (nrm q a)=OH hv v a:=by cases a<;>rfl
theorem nrm_k1 {q:Bool} {a b:AO} (h:K1 (nrm q a) b):K1 a (yu_ a b):=by
 cases a with
 | unborn=>trivial
 | gone=>trivial
 | row t T l ro =>
  cases ro with
  | false=>trivial
  | true =>
   have h:K1 (.row t T l (cond q true true)) b:=h
   rw[show cond q true true=true by cases q<;>rfl] at h
   have h:b = .row t T l true:=h;subst h;exact K1.refl _
 | map k v m ro =>
  cases ro with
  | false=>trivial
  | true =>
   have h:K1 (.map k v m (cond q true true)) b:=h
   rw[show cond q true true=true by cases q<;>rfl] at h
   have h:b = .map k v m true:=h;subst h;exact K1.refl _
 | grid G l q ro =>
  cases ro with
  | false=>trivial
  | true=>have h:b = .grid G l q true:=h;subst h;exact K1.refl _
 | fn f x y=>have h:b = .fn f x y:=h;subst h;exact K1.refl _
 | froz t x=>have h:b = .froz t x:=h;subst h;exact K1.refl _
 | yld Y st ro =>
  obtain⟨st',rfl,h2⟩:=(show ∃ st',b=AO.yld Y st' ro∧(ro=true→st'=st) from h)
  exact⟨st',rfl,h2⟩
 | cells T l ro =>
  obtain⟨c,rfl,h1,h2⟩:=(show ∃ c:List SV,b = .cells T c (List.range l.length)∧c.length=l.length∧∀ j ∈ List.range l.length,c[j]?=l[j]? from h)
  refine⟨c,rfl,h1,λj _ => ?_⟩
  by_cases hj:j<l.length
  ·exact h2 j (by simpa using hj)
  ·rw[b4_ (by omega),b4_ (by omega)]
theorem bo8 {hv:Nat→Value} {qs:List Nat}:∀ {ids:List Nat} {l:List AO} {k:Nat},(ids.zip (nrmL qs k l)).map (λp=>OH hv (hv p.1) p.2)=(ids.zip l).map λp=>OH hv (hv p.1) p.2
 | [],_,_=>rfl
 | _::_,[],_=>rfl
 | i::ids,a::l,k=>by
  show OH hv (hv i) (nrm (inL k qs) a)::_=OH hv (hv i) a::_
  rw[nrm_oh]
  exact congrArg _ bo8
theorem bo7 {hv:Nat→Value}:∀ {ids:List Nat} {l m:List AO},l.length=m.length→(ids.zip (List.zipWith yu_ l m)).map (λp=>OH hv (hv p.1) p.2)=(ids.zip m).map λp=>OH hv (hv p.1) p.2
 | [],_,_,_=>rfl
 | _::_,[],[],_=>rfl
 | _::_,[],_::_,h=>by simp at h
 | _::_,_::_,[],h=>by simp at h
 | i::ids,a::l,b::m,h=>by
  show OH hv (hv i) (yu_ a b)::_=OH hv (hv i) b::_
  rw[bq2 a b hv (hv i)]
  exact congrArg _ (bo7 (by simpa using h))
def canE (ids qs:List Nat) (E:List AV→List AO→Option (AV×List AO)) (avs:List AV) (objs:List AO):Option (AV×List AO) :=
 cond (nodB ids) ((atI objs ids).bind λl=>(xk_ (bo4 λo=>bo5 ids o 0) (nrmL qs 0 l)).bind λcan=>(xk_ (renA λo=>bo5 ids o 0) avs).bind λavs'=>(E avs' can).bind λr =>
  (renA (λp=>ids[p]?) r.1).bind λav=>(xk_ (bo4 λp=>ids[p]?) (r.2.take ids.length)).bind λl'=>some (av,bm1 ids (List.zipWith yu_ l l') (rg_ ids objs))) none
theorem canE_ok {P:Program} [Tb P] {fk:FuncId} {ids qs:List Nat} {E:List AV→List AO→Option (AV×List AO)} (ok:EOk P fk E):EOk P fk (canE ids qs E):=by
 intro avs objs av objs' h
 obtain⟨hnd,h⟩:=bl_ h
 have hnd:=by6 hnd
 obtain⟨l,hl,h⟩:=bnd h
 obtain⟨can,hcan,h⟩:=bnd h
 obtain⟨avs',havs,h⟩:=bnd h
 obtain⟨⟨av1,can1⟩,hE,h⟩:=bnd h
 obtain⟨av2,hav,h⟩:=bnd h
 obtain⟨l',hl',h⟩:=bnd h
 cases h
 obtain⟨hcall,run⟩:=ok _ _ _ _ hE
 refine⟨hcall,λ{S hv Fm w vs} hG hI hw ha hlt => ?_⟩
 obtain⟨n1,at1⟩:=nc_ hl
 obtain⟨n2,at2⟩:=nc_ hcan
 have hpos:∀ o p,bo5 ids o 0=some p→ids[p]?=some o:=λo p hp=>(bc9 hp).2
 have hin:∀ p o,ids[p]?=some o→∃ a b,objs[o]?=some a∧can[p]?=some b∧∃ q,bo4 (λo=>bo5 ids o 0) (nrm q a)=some b:=λp o hp=>by
  obtain⟨a,h1,h2⟩:=at1 p o hp
  obtain⟨q,hq⟩:=af4 (qs:=qs) (k:=0) h1
  obtain⟨b,h3,h4⟩:=at2 p _ hq
  exact⟨a,b,h2,h3,q,h4⟩
 have hbc:∀ p o,ids[p]?=some o→born can p=true:=λp o hp=>by
  obtain⟨a,b,_,h3,q,h4⟩:=hin p o hp
  exact au_.2 ⟨b,h3,bt8 h4⟩
 have hg:∀ o p,bo5 ids o 0=some p→(λp=>hv (ids.getD p 0)) p=hv o:=λo p hp=>by
  show hv (ids.getD p 0)=hv o
  rw[h5_,hpos o p hp]
  rfl
 have hb:∀ o p,bo5 ids o 0=some p→born can p=true:=λo p hp=>hbc p o (hpos o p hp)
 have hI1:=bb1 (X:=[]) hnd hl hI
 rw[← bo8 (qs:=qs) (k:=0),← bx6 (hv1:=λp=>hv (ids.getD p 0)) hg hcan (by rw[be0];exact n1) (k:=0) λj i hj=>by
  show hv (ids.getD (0+j) 0)=hv i
  rw[b0_,h5_,hj]
  rfl] at hI1
 have hI2:Inv w S (OHs (λp=>hv (ids.getD p 0)) 0 can++(OHs hv 0 (rg_ ids objs)++Fm)):=hI1
 have hwc:WfO can:=λa ha=>by
  obtain⟨b,_,e⟩:=sh_ hcan ha
  exact (bt9 hb e).1
 have hargs:Fa (RA (λp=>hv (ids.getD p 0)) S) avs' vs:=(ag6 (R:=RA hv S) (R':=RA (λp=>hv (ids.getD p 0)) S) (λa b v q=>bu2 hg q) havs).1 ha
 refine Calls.mono (run hG hI2 hwc hargs λa ha => ?_) λe w' ⟨v,S',hv',he,b1,b2,b3,b4,b5,b6,b7,b8⟩ => ?_
 ·obtain⟨b,_,e⟩:=sh_ havs ha
  exact bu3 hb e
 have hgb:∀ p o,ids[p]?=some o→hv o=hv' p:=λp o hp=>by
  rw[← b6 p (hbc p o hp)]
  show hv o=hv (ids.getD p 0)
  rw[h5_,hp]
  rfl
 have hlen:ids.length≤can1.length:=by
  refine Nat.le_of_not_lt λhh => ?_
  obtain⟨a,b,_,h3,_⟩:=hin can1.length _ (a7_ hh)
  obtain⟨c,h4,_⟩:=b2 _ _ h3
  rw[b4_ (c3_ _)] at h4
  cases h4
 obtain⟨n3,at3⟩:=nc_ hl'
 have n4:(can1.take ids.length).length=ids.length:=by rw[c7_];omega
 have hid:∀ p o,ids[p]?=some o→∃ a b',objs[o]?=some a∧l'[p]?=some b'∧(bm1 ids (List.zipWith yu_ l l') (rg_ ids objs))[o]?=some (yu_ a b')∧K1 a (yu_ a b')∧yu_ a b'≠.unborn:=λp o hp=>by
  obtain⟨a,h1,h2⟩:=at1 p o hp
  obtain⟨q,hq⟩:=af4 (qs:=qs) (k:=0) h1
  obtain⟨b,h3,h4⟩:=at2 p _ hq
  obtain⟨c,h5,h6⟩:=b2 _ _ h3
  have hpl:=(a4_.1 hp).1
  obtain⟨b',h7,h8⟩:=at3 p c (by rw[n2_ hpl];exact h5)
  have h2:objs[o]?=some a:=h2
  refine⟨a,b',h2,h7,bv6 hnd hp (by rw[List.getElem?_zipWith,h1,h7]) (by rw[xt_];exact (a4_.1 h2).1),nrm_k1 (renO_k1 (λo p q h1 h2 => ?_) h4 h6 h8),λe=>bt8 h8 (al0 _ _ e)⟩
  have:=hpos o p h1
  have h2:ids[p]?=some q:=h2
  rw[this] at h2
  exact (a6_ h2).symm
 have hout:∀ j,j ∉ ids→(bm1 ids (List.zipWith yu_ l l') (rg_ ids objs))[j]?=objs[j]?:=λj hj=>by
  rw[ae2 (λi hi=>by rintro rfl;exact hj hi),aq3 λi hi=>by rintro rfl;exact hj hi]
 have hble:BLe objs (bm1 ids (List.zipWith yu_ l l') (rg_ ids objs)):=λo ho=>by
  by_cases hm:o ∈ ids
  ·obtain⟨p,hp⟩:=e3_ hm
   obtain⟨a,b',_,_,h3,_,h5⟩:=hid p o hp
   exact au_.2 ⟨_,h3,h5⟩
  ·obtain⟨a,h1,h2⟩:=au_.1 ho
   exact au_.2 ⟨a,by rw[hout o hm];exact h1,h2⟩
 have hb2:∀ p o,ids[p]?=some o→born (bm1 ids (List.zipWith yu_ l l') (rg_ ids objs)) o=true:=λp o hp=>by
  obtain⟨a,b',_,_,h3,_,h5⟩:=hid p o hp
  exact au_.2 ⟨_,h3,h5⟩
 refine⟨v,S',hv,he,hble,λj a hj => ?_,λa ha => ?_,bu3 hb2 hav,b5,λ_ _=>rfl,(bu2 hgb hav).1 b7,?_⟩
 ·by_cases hm:j ∈ ids
  ·obtain⟨p,hp⟩:=e3_ hm
   obtain⟨a',b',h1,_,h3,h4,_⟩:=hid p j hp
   rw[hj] at h1
   cases h1
   exact⟨_,h3,h4⟩
  ·exact⟨a,by rw[hout j hm];exact hj,K1.refl a⟩
 ·obtain⟨j,hj⟩:=e3_ ha
  by_cases hm:j ∈ ids
  ·obtain⟨p,hp⟩:=e3_ hm
   obtain⟨a',b',_,h2,h3,_,_⟩:=hid p j hp
   rw[hj] at h3
   cases h3
   obtain⟨c,_,e⟩:=sh_ hl' (b5_ h2)
   exact bq1 _ _ (bt9 hb2 e).1
  ·rw[hout j hm] at hj
   exact AO.lt_mono hble (hw a (b5_ hj))
 ·have n5:l.length=l'.length:=by rw[n1,n3,n4]
  refine bv4 (by rw[List.length_zipWith,← n5,n1];exact Nat.min_self _) (λi hi => ?_) ?_
  ·obtain⟨p,hp⟩:=e3_ hi
   obtain⟨a,b,h2,_,_⟩:=hin p i hp
   rw[xt_]
   exact (a4_.1 h2).1
  ·rw[bo7 n5,← bd7 (hv1:=hv') (λo p h=>hgb o p h) hl' n4 (k:=0) λj i hj=>by rw[b0_];exact (hgb j i hj).symm]
   have e:OHs hv' 0 can1=OHs hv' 0 (can1.take ids.length)++OHs hv' (0+(can1.take ids.length).length) (can1.drop ids.length):=by
    rw[← OHs.app,f8_]
   rw[e,b1_] at b8
   exact xo_ b8
def refS:SV→List Nat
 | .row o | .ptr o _ | .ptrE o _ _ _ _ | .map o | .fn o | .arr o=>[o]
 | _=>[]
def refL:List SV→List Nat
 | []=>[]
 | s::l=>refS s++refL l
def refB:BV→List Nat
 | .one s=>refS s
 | .agg l=>refL l
 | _=>[]
def refV:List AV→List Nat
 | []=>[]
 | .b x::l=>refB x++refV l
 | .tup _::l=>refV l
def refO:Option AO→List Nat
 | some (.cells _ l _)=>refL l
 | some (.fn _ a b)=>refL a++refL b
 | _=>[]
def bu8 (objs:List AO):Nat→List Nat→List Nat→List Nat
 | 0,_,acc=>acc
 | _,[],acc=>acc
 | n+1,i::l,acc=>cond (inL i acc) (bu8 objs n l acc) (bu8 objs n (l++refO objs[i]?) (acc++[i]))
inductive HS where
 | v (t:Ty)
 | l (s:SV)
inductive HA where
 | c (h:HS)
 | a (t:Ty)
inductive HO where
 | row (t:Ty) (T:TypeId) (ro:Bool)
 | map (k v:Ty) (ro:Bool)
 | cells (T:TypeId) (l:List HS)
 | fn (f:FuncId) (a b:List HS)
def HS.den:HS→Type
 | .v t=>t.den
 | .l _=>Unit
def HA.den:HA→Type
 | .c h=>h.den
 | .a t=>t.den
def dnS:List HS→Type
 | []=>Unit
 | h::l=>h.den×dnS l
def HO.den:HO→Type
 | .row t _ _=>List t.den
 | .map k v _=>List (k.den×v.den)
 | .cells _ l=>dnS l
 | .fn _ a b=>dnS a×dnS b
def HO.cden:HO→Type
 | .row t _ false=>List t.den
 | .map k v false=>List (k.den×v.den)
 | _=>Unit
def dnA:List HA→Type
 | []=>Unit
 | h::l=>h.den×dnA l
def dnO:List HO→Type
 | []=>Unit
 | h::l=>h.den×dnO l
def cdO:List HO→Type
 | []=>Unit
 | h::l=>h.cden×cdO l
def eqSV:SV→SV→Bool
 | .dead,.dead=>true
 | .nils,.nils=>true
 | .nilp,.nilp=>true
 | .nilm,.nilm=>true
 | .row a,.row b=>Nat.beq a b
 | .ptr a i,.ptr b j=>cond (Nat.beq a b) (Nat.beq i j) false
 | .map a,.map b=>Nat.beq a b
 | .fn a,.fn b=>Nat.beq a b
 | .arr a,.arr b=>Nat.beq a b
 | _,_=>false
theorem eqSV_ok {a b:SV} (h:eqSV a b=true):a=b:=by
 cases a<;>cases b<;>first
  | rfl
  | cases h
  | (rw[a3_ h])
  | (obtain⟨h1,h2⟩:=bl_ (r:=()) (a:=some ()) (b:=eqSV _ _) (by rw[h];rfl);skip)
  | skip
 rename_i o i p j
 have h:cond (Nat.beq o p) (Nat.beq i j) false=true:=h
 cases hb:Nat.beq o p with
 | false=>rw[hb] at h;cases h
 | true =>
  rw[hb] at h
  rw[a3_ hb,a3_ h]
def readS:(h:HS)→SV→Option h.den
 | .v t,.val t' x=>yn_ t' t x
 | .l s,s'=>cond (eqSV s' s) (some ()) none
 | _,_=>none
def fillS:(h:HS)→h.den→SV
 | .v t,x=>.val t x
 | .l s,_=>s
theorem bc4:∀ {h:HS} {s:SV} {d:h.den},readS h s=some d→s=fillS h d
 | .v t,s,d,e=>by
  cases s with
  | val a y=>obtain⟨rfl,rfl⟩:=gb_ e;rfl
  | _=>cases e
 | .l s',s,d,e=>by
  have e:cond (eqSV s s') (some ()) none=some d:=e
  cases hb:eqSV s s' with
  | true=>exact eqSV_ok hb
  | false=>rw[hb] at e;cases e
def an0:(l:List HS)→List SV→Option (dnS l)
 | [],[]=>some ()
 | h::l,s::ss=>(readS h s).bind λx=>(an0 l ss).bind λy=>some (x,y)
 | _,_=>none
def no_:(l:List HS)→dnS l→List SV
 | [],_=>[]
 | h::l,d=>fillS h d.1::no_ l d.2
theorem rz_:∀ {l:List HS} {ss:List SV} {d:dnS l},an0 l ss=some d→ss=no_ l d
 | [],[],d,e=>rfl
 | [],_::_,d,e=>by cases e
 | h::l,[],d,e=>by cases e
 | h::l,s::ss,d,e=>by
  obtain⟨x,h1,e⟩:=bnd e
  obtain⟨y,h2,e⟩:=bnd e
  cases e
  rw[bc4 h1,rz_ h2]
  rfl
def readA:(h:HA)→AV→Option h.den
 | .c h,.b (.one s)=>readS h s
 | .a t,.b (.val t' x)=>yn_ t' t x
 | _,_=>none
def fillH:(h:HA)→h.den→AV
 | .c h,x=>.b (.one (fillS h x))
 | .a t,x=>.b (.val t x)
theorem cp2:∀ {h:HA} {s:AV} {d:h.den},readA h s=some d→s=fillH h d
 | .c h,s,d,e=>by
  cases s with
  | tup l=>cases e
  | b x =>
   cases x with
   | one y=>exact congrArg (λz=>AV.b (.one z)) (bc4 (h:=h) e)
   | _=>cases e
 | .a t,s,d,e=>by
  cases s with
  | tup l=>cases e
  | b x =>
   cases x with
   | val a y=>obtain⟨rfl,rfl⟩:=gb_ e;rfl
   | _=>cases e
def bc6:(l:List HA)→List AV→Option (dnA l)
 | [],[]=>some ()
 | h::l,s::ss=>(readA h s).bind λx=>(bc6 l ss).bind λy=>some (x,y)
 | _,_=>none
def ce9:(l:List HA)→dnA l→List AV
 | [],_=>[]
 | h::l,d=>fillH h d.1::ce9 l d.2
theorem an3:∀ {l:List HA} {ss:List AV} {d:dnA l},bc6 l ss=some d→ss=ce9 l d
 | [],[],d,e=>rfl
 | [],_::_,d,e=>by cases e
 | h::l,[],d,e=>by cases e
 | h::l,s::ss,d,e=>by
  obtain⟨x,h1,e⟩:=bnd e
  obtain⟨y,h2,e⟩:=bnd e
  cases e
  rw[cp2 h1,an3 h2]
  rfl
def eqNl:List Nat→List Nat→Bool
 | [],[]=>true
 | a::l,b::m=>cond (Nat.beq a b) (eqNl l m) false
 | _,_=>false
theorem cf5:∀ {l m:List Nat},eqNl l m=true→l=m
 | [],[],_=>rfl
 | [],_::_,h=>by cases h
 | _::_,[],h=>by cases h
 | a::l,b::m,h=>by
  have h:cond (Nat.beq a b) (eqNl l m) false=true:=h
  cases hb:Nat.beq a b with
  | false=>rw[hb] at h;cases h
  | true =>
   rw[hb] at h
   rw[a3_ hb,cf5 h]
def eqBo:Bool→Bool→Bool
 | true,b=>b
 | false,b=>!b
theorem ai9 {a b:Bool} (h:eqBo a b=true):a=b:=by cases a<;>cases b<;>first | rfl | cases h
def readO:(h:HO)→AO→Option h.den
 | .row t T ro,.row t' T' l ro'=>cond (Nat.beq T' T) (cond (eqBo ro' ro) (yn_ (.list t') (.list t) l) none) none
 | .map k v ro,.map k' v' m ro'=>cond (eqBo ro' ro) (yn_ (.list (.pair k' v')) (.list (.pair k v)) m) none
 | .cells T l,.cells T' l' ro'=>cond (Nat.beq T' T) (cond (eqNl ro' (List.range l'.length)) (an0 l l') none) none
 | .fn f a b,.fn (.func f') a' b'=>cond (Nat.beq f' f) ((an0 a a').bind λx=>(an0 b b').bind λy=>some (x,y)) none
 | _,_=>none
def tt_:(h:HO)→h.den→AO
 | .row t T ro,x=>.row t T x ro
 | .map k v ro,x=>.map k v x ro
 | .cells T l,x=>.cells T (no_ l x) (List.range (no_ l x).length)
 | .fn f a b,x=>.fn (.func f) (no_ a x.1) (no_ b x.2)
theorem cnd {c:Bool} {α:Type} {a:Option α} {x:α} (h:cond c a none=some x):c=true∧a=some x:=by
 cases c with
 | true=>exact⟨rfl,h⟩
 | false=>cases h
theorem co9:∀ {h:HO} {a:AO} {d:h.den},readO h a=some d→a=tt_ h d
 | .row t T ro,a,d,e=>by
  cases a with
  | row t' T' l ro' =>
   obtain⟨h1,e⟩:=cnd e
   obtain⟨h2,e⟩:=cnd e
   rw[a3_ h1,ai9 h2]
   obtain⟨e1,e2⟩:=gb_ e
   cases e1
   subst e2
   rfl
  | _=>cases e
 | .map k v ro,a,d,e=>by
  cases a with
  | map k' v' m ro' =>
   obtain⟨h2,e⟩:=cnd e
   rw[ai9 h2]
   obtain⟨e1,e2⟩:=gb_ e
   cases e1
   subst e2
   rfl
  | _=>cases e
 | .cells T l,a,d,e=>by
  cases a with
  | cells T' l' ro' =>
   obtain⟨h1,e⟩:=cnd e
   obtain⟨h2,e⟩:=cnd e
   rw[a3_ h1,cf5 h2,rz_ e]
   rfl
  | _=>cases e
 | .fn f x y,a,d,e=>by
  cases a with
  | fn f' a' b' =>
   cases f' with
   | func f' =>
    obtain⟨h1,e⟩:=cnd e
    obtain⟨x,h2,e⟩:=bnd e
    obtain⟨y,h3,e⟩:=bnd e
    cases e
    rw[a3_ h1,rz_ h2,rz_ h3]
    rfl
   | _=>cases e
  | _=>cases e
def bc5:(l:List HO)→List AO→Option (dnO l)
 | [],[]=>some ()
 | h::l,s::ss=>(readO h s).bind λx=>(bc5 l ss).bind λy=>some (x,y)
 | _,_=>none
def hz_:(l:List HO)→dnO l→List AO
 | [],_=>[]
 | h::l,d=>tt_ h d.1::hz_ l d.2
theorem an1:∀ {l:List HO} {ss:List AO} {d:dnO l},bc5 l ss=some d→ss=hz_ l d
 | [],[],d,e=>rfl
 | [],_::_,d,e=>by cases e
 | h::l,[],d,e=>by cases e
 | h::l,s::ss,d,e=>by
  obtain⟨x,h1,e⟩:=bnd e
  obtain⟨y,h2,e⟩:=bnd e
  cases e
  rw[co9 h1,an1 h2]
  rfl
def readC:(h:HO)→AO→Option h.cden
 | .row t T false,.row t' T' l ro'=>cond (Nat.beq T' T) (cond (eqBo ro' false) (yn_ (.list t') (.list t) l) none) none
 | .map k v false,.map k' v' m ro'=>cond (eqBo ro' false) (yn_ (.list (.pair k' v')) (.list (.pair k v)) m) none
 | .row _ _ true,_=>some ()
 | .map _ _ true,_=>some ()
 | .cells _ _,_=>some ()
 | .fn _ _ _,_=>some ()
 | _,_=>none
def fillC:(h:HO)→h.den→h.cden→AO
 | .row t T false,_,c=>.row t T c false
 | .map k v false,_,c=>.map k v c false
 | .row t T true,d,_=>.row t T d true
 | .map k v true,d,_=>.map k v d true
 | .cells T l,d,_=>tt_ (.cells T l) d
 | .fn f a b,d,_=>tt_ (.fn f a b) d
theorem cp0:∀ {h:HO} {d:h.den} {a:AO} {c:h.cden},K1 (tt_ h d) a→readC h a=some c→a=fillC h d c
 | .row t T false,d,a,c,hk,e=>by
  cases a with
  | row t' T' l ro' =>
   obtain⟨h1,e⟩:=cnd e
   obtain⟨h2,e⟩:=cnd e
   rw[a3_ h1,ai9 h2]
   obtain⟨e1,e2⟩:=gb_ e
   cases e1
   subst e2
   rfl
  | _=>cases e
 | .map k v false,d,a,c,hk,e=>by
  cases a with
  | map k' v' m ro' =>
   obtain⟨h2,e⟩:=cnd e
   rw[ai9 h2]
   obtain⟨e1,e2⟩:=gb_ e
   cases e1
   subst e2
   rfl
  | _=>cases e
 | .row t T true,d,a,c,hk,e=>hk
 | .map k v true,d,a,c,hk,e=>hk
 | .fn f x y,d,a,c,hk,e=>hk
 | .cells T l,d,a,c,hk,e=>by
  obtain⟨m,rfl,h1,h2⟩:=(show ∃ m:List SV,a = .cells T m (List.range (no_ l d).length)∧m.length=(no_ l d).length∧∀ j ∈ List.range (no_ l d).length,m[j]?=(no_ l d)[j]? from hk)
  have:m=no_ l d:=f1_ λj=>by
   by_cases hj:j<(no_ l d).length
   ·exact h2 j (by simpa using hj)
   ·rw[b4_ (by omega),b4_ (by omega)]
  rw[this]
  rfl
def bu7:(l:List HO)→List AO→Option (cdO l)
 | [],_=>some ()
 | h::l,s::ss=>(readC h s).bind λx=>(bu7 l ss).bind λy=>some (x,y)
 | _::_,[]=>none
def np_:(l:List HO)→dnO l→cdO l→List AO
 | [],_,_=>[]
 | h::l,d,c=>fillC h d.1 c.1::np_ l d.2 c.2
theorem an2:∀ {l:List HO} {d:dnO l} {ob:List AO} {c:cdO l},Keep (hz_ l d) ob→bu7 l ob=some c→ob.take (hz_ l d).length=np_ l d c
 | [],d,ob,c,hk,e=>rfl
 | h::l,d,[],c,hk,e=>by cases e
 | h::l,d,a::ob,c,hk,e=>by
  obtain⟨x,h1,e⟩:=bnd e
  obtain⟨y,h2,e⟩:=bnd e
  cases e
  have k0:K1 (tt_ h d.1) a:=by
   obtain⟨b,g1,g2⟩:=hk 0 _ rfl
   simp at g1
   subst g1
   exact g2
  have kt:Keep (hz_ l d.2) ob:=λo b hb=>by
   obtain⟨c,g1,g2⟩:=hk (o+1) b (by show (tt_ h d.1::hz_ l d.2)[o+1]?=_;simpa using hb)
   exact⟨c,by simpa using g1,g2⟩
  show a::ob.take (hz_ l d.2).length=fillC h d.1 x::np_ l d.2 y
  rw[cp0 k0 h1,an2 kt h2]
theorem cu2:∀ {h:HO} {d:h.den} {c:h.cden},fillC h d c≠.unborn
 | .row _ _ false,_,_=>by simp[fillC]
 | .map _ _ false,_,_=>by simp[fillC]
 | .row _ _ true,_,_=>by simp[fillC]
 | .map _ _ true,_,_=>by simp[fillC]
 | .cells _ _,_,_=>by simp[fillC,tt_]
 | .fn _ _ _,_,_=>by simp[fillC,tt_]
theorem cu3 {n:List AO}:∀ {h:HO} {d:h.den} {c:h.cden},(tt_ h d).lt n=true→(fillC h d c).lt n=true
 | .row _ _ false,_,_,_=>rfl
 | .map _ _ false,_,_,_=>rfl
 | .row _ _ true,_,_,h=>h
 | .map _ _ true,_,_,h=>h
 | .cells _ _,_,_,h=>h
 | .fn _ _ _,_,_,h=>h
theorem tu_:∀ {l:List HO} {d:dnO l} {c:cdO l} {j:Nat},(∀ a,(hz_ l d)[j]?=some a→∃ (h:HO) (x:h.den) (y:h.cden),a=tt_ h x∧(np_ l d c)[j]?=some (fillC h x y))∧∀ b,(np_ l d c)[j]?=some b→∃ (h:HO) (x:h.den) (y:h.cden),b=fillC h x y∧(hz_ l d)[j]?=some (tt_ h x)
 | [],d,c,j=>⟨λa h=>by simp[hz_] at h,λa h=>by simp[np_] at h⟩
 | h::l,d,c,0=>⟨λa e=>by
   have e:tt_ h d.1=a:=by simpa [hz_] using e
   exact⟨h,d.1,c.1,e.symm,rfl⟩,λa e=>by
   have e:fillC h d.1 c.1=a:=by simpa [np_] using e
   exact⟨h,d.1,c.1,e.symm,rfl⟩⟩
 | h::l,d,c,j+1=>by
  obtain⟨h1,h2⟩:=tu_ (l:=l) (d:=d.2) (c:=c.2) (j:=j)
  exact⟨λa e=>h1 a (by simpa [hz_] using e),λa e=>h2 a (by simpa [np_] using e)⟩
theorem ab0 {l:List HO} {d:dnO l} {c:cdO l}:BLe (hz_ l d) (np_ l d c):=λo ho=>by
 obtain⟨a,h1,h2⟩:=au_.1 ho
 obtain⟨h,x,y,e1,e2⟩:=(tu_ (c:=c)).1 a h1
 exact au_.2 ⟨_,e2,cu2⟩
theorem ce8 {l:List HO} {d:dnO l} {c:cdO l} (hw:WfO (hz_ l d)):WfO (np_ l d c):=λa ha=>by
 obtain⟨j,hj⟩:=e3_ ha
 obtain⟨h,x,y,rfl,e2⟩:=tu_.2 a hj
 exact cu3 (AO.lt_mono ab0 (hw _ (b5_ e2)))
structure Shp where
 k:FuncId
 ia:List HA
 os:List HO
 rs:List Ty
 qs:List Nat
def Shp.D (s:Shp):Type:=dnA s.ia×dnO s.os
def Shp.X (s:Shp):Type:=nj_ s.rs×cdO s.os
def Er (s:Shp) (F:s.D→Option s.X) (avs:List AV) (objs:List AO):Option (AV×List AO) :=
 (bc6 s.ia avs).bind λa=>(bc5 s.os objs).bind λo=>(F (a,o)).bind λx=>some (ao3 s.rs x.1,np_ s.os o x.2)
structure Eff (P:Program) [Tb P] where
 sh:Shp
 F:sh.D→Option sh.X
 ok:EOk P sh.k (Er sh F)
section
variable {P:Program} [Tb P] {ρ:Type}
def getE:List (Eff P)→FuncId→Option (Eff P)
 | [],_=>none
 | c::cs,q=>cond (Nat.beq c.sh.k q) (some c) (getE cs q)
theorem da9:∀ {cs:List (Eff P)} {q:FuncId} {c:Eff P},getE cs q=some c→c.sh.k=q
 | [],_,_,h=>by cases h
 | c::cs,q,d,h=>by
  unfold getE at h
  cases hb:Nat.beq c.sh.k q with
  | true=>rw[hb] at h;cases h;exact a3_ hb
  | false=>rw[hb] at h;exact da9 h
def canK (ids:List Nat) (c:Eff P) (avs:List AV) (objs:List AO) (k:AV→List AO→Option ρ):Option ρ :=
 cond (nodB ids) ((atI objs ids).bind λl=>(xk_ (bo4 λo=>bo5 ids o 0) (nrmL c.sh.qs 0 l)).bind λcan=>(xk_ (renA λo=>bo5 ids o 0) avs).bind λavs'=>(bc6 c.sh.ia avs').bind λa=>(bc5 c.sh.os can).bind λo=>(c.F (a,o)).bind λx =>
  (renA (λp=>ids[p]?) (ao3 c.sh.rs x.1)).bind λav=>(xk_ (bo4 λp=>ids[p]?) ((np_ c.sh.os o x.2).take ids.length)).bind λl'=>k av (bm1 ids (List.zipWith yu_ l l') (rg_ ids objs))) none
theorem ch8 {ids:List Nat} {c:Eff P} {avs:List AV} {objs:List AO} {k:AV→List AO→Option ρ} {r:ρ} (h:canK ids c avs objs k=some r):∃ av objs',canE ids c.sh.qs (Er c.sh c.F) avs objs=some (av,objs')∧k av objs'=some r:=by
 obtain⟨h0,h⟩:=bl_ h
 obtain⟨l,h1,h⟩:=bnd h
 obtain⟨can,h2,h⟩:=bnd h
 obtain⟨avs',h3,h⟩:=bnd h
 obtain⟨a,h4,h⟩:=bnd h
 obtain⟨o,h5,h⟩:=bnd h
 obtain⟨x,h6,h⟩:=bnd h
 obtain⟨av,h7,h⟩:=bnd h
 obtain⟨l',h8,h⟩:=bnd h
 refine⟨av,_,?_,h⟩
 unfold canE Er
 rw[h0]
 show (atI objs ids).bind _=_
 rw[h1,a0_,h2,a0_,h3,a0_,h4,a0_,h5,a0_,h6,a0_,a0_,h7,a0_,h8,a0_]
def effX (es:List (Eff P)) (o:Oper) (sl:Nat→AV) (objs:List AO) (k:AV→List AO→Option ρ) (els:Option ρ):Option ρ:=match o.op with
 | .call ⟨.value g,⟨args⟩,_⟩=>match fnA (evA sl g) objs with
  | some q=>match getE es q.1 with
   | some c=>canK (bu8 objs 200 (refV (args.map (evA sl)++q.2)) []) c (args.map (evA sl)++q.2) objs k
   | none=>els
  | none=>els
 | _=>els
theorem effX_ok {es:List (Eff P)} {o:Oper} {sl:Nat→AV} {objs:List AO} {k:AV→List AO→Option ρ} {els:Option ρ} {r:ρ} (h:effX es o sl objs k els=some r):els=some r∨∃ av objs',k av objs'=some r∧OpUn P o sl objs av objs':=by
 obtain⟨dd,op,ty,pos,af,gd⟩:=o
 unfold effX at h
 simp only at h
 split at h
 ·rename_i g args ct
  split at h
  ·rename_i q hq
   split at h
   ·rename_i c hc
    obtain⟨av,objs',h1,h2⟩:=ch8 h
    have hk:=da9 hc
    obtain⟨hcall,h3⟩:=canE_ok c.ok _ _ _ _ h1
    obtain⟨fk,l⟩:=q
    have hk:c.sh.k=fk:=hk
    subst hk
    refine .inr ⟨av,objs',h2,?_⟩
    intro S hv Fm f w n ro K hs hd kk
    obtain⟨cap,e1,e2,e3⟩:=bg5 hs hq (hs.ev g)
    have hargs:Fa (RA hv S) (args.map (evA sl)++l) (args.map (ev f)++cap):=bh3 (zi_ hs args) e2
    have hlt:∀ a ∈ args.map (evA sl)++l,a.lt objs=true:=λa ha=>by
     rcases b6_.1 ha with h1 | h1
     ·obtain⟨x,_,rfl⟩:=d1_.1 h1
      exact hg_ hs.wfs x
     ·exact e3 a h1
    refine kd_ (k:=c.sh.k) (vs:=(args.map (ev f)++cap).toArray) (ps_ hcall e1 (by simp)) (h3 hs.gl hs.inv hs.wfo hargs hlt) λe w' ⟨v,S',hv',he,g1,g2,g3,g4,g5,g6,g7,g8⟩ => ?_
    exact⟨v,he,hd,kk v S' hv' w' g1 g2 g3 g4 g5 g6 g7 g8⟩
   ·exact .inl h
  ·exact .inl h
 ·exact .inl h
def cxE (es:List (Eff P)) (con:Cx P):Cx P:=⟨con.need,λρ o sl objs fr k=>effX es o sl objs k (con.call ρ o sl objs fr k),λh=>(effX_ok h).elim con.ok id,con.callV,con.okV⟩
noncomputable def fxF (cx:Cx P) (an:An) (s:Shp) (d:s.D):Option s.X:=inlF cx an s.k (ce9 s.ia d.1) (hz_ s.os d.2) λav ob=>(outR s.rs av).bind λx=>(bu7 s.os ob).bind λc=>some (x,c)
theorem fxF_ok {cx:Cx P} {an:An} {s:Shp}:EOk P s.k (Er s (fxF cx an s)):=by
 intro avs objs av objs' h
 obtain⟨a,h1,h⟩:=bnd h
 obtain⟨o,h2,h⟩:=bnd h
 obtain⟨x,h3,h⟩:=bnd h
 cases h
 obtain⟨hc,av2,ob2,h4,h5⟩:=ah3 h3
 obtain⟨y,h6,h4⟩:=bnd h4
 obtain⟨c,h7,h4⟩:=bnd h4
 cases h4
 obtain rfl:=an3 h1
 obtain rfl:=an1 h2
 refine⟨hc,λ{S hv Fm w vs} hG hI hw ha hlt=>(h5 hG hI hw ha hlt).mono λe w' ⟨v,S',hv',he,b1,b2,b3,b4,b5,b6,b7,b8⟩ => ?_⟩
 have ht:=an2 b2 h7
 refine⟨v,S',hv',he,ab0,λj b hj => ?_,ce8 hw,ae6,b5,b6,bx0 b7 h6,?_⟩
 ·obtain⟨q,g1,g2⟩:=b2 j b hj
  refine⟨q,?_,g2⟩
  rw[← ht,n2_ (a4_.1 hj).1]
  exact g1
 ·have e:OHs hv' 0 ob2=OHs hv' 0 (ob2.take (hz_ s.os o).length)++OHs hv' (0+(ob2.take (hz_ s.os o).length).length) (ob2.drop (hz_ s.os o).length):=by
   rw[← OHs.app,f8_]
  rw[e,b1_] at b8
  rw[← ht]
  exact xo_ b8
theorem EOk.of {fk:FuncId} {E E':List AV→List AO→Option (AV×List AO)} (ok:EOk P fk E') (h:∀ avs objs av objs',E avs objs=some (av,objs')→E' avs objs=some (av,objs')):EOk P fk E:=λavs objs av objs' e=>ok avs objs av objs' (h _ _ _ _ e)
theorem EOk.fuel {s:Shp} {g:(s.D→Option s.X)→s.D→Option s.X} {F:Nat→s.D→Option s.X} (h0:F 0=λ_=>Option.none) (hs:∀ n,F (n+1)=g (F n)) {cx:(F:s.D→Option s.X)→EOk P s.k (Er s F)→Cx P} {an:An}
  (step:(λ(F:s.D→Option s.X) (ok:EOk P s.k (Er s F))=>fxF (cx F ok) an s)=λF _=>g F):∀ n,EOk P s.k (Er s (F n))
 | 0=>by
  intro avs objs av objs' h
  obtain⟨a,h1,h⟩:=bnd h
  obtain⟨o,h2,h⟩:=bnd h
  rw[h0] at h
  cases h
 | n+1=>by
  have ok:=EOk.fuel h0 hs step n
  rw[hs n,← congrFun (congrFun step (F n)) ok]
  exact fxF_ok
end
end
end Go.Proofs.YtgeehfnbhbibeaaGreatDoor.Rex
namespace Go.Proofs.YtgeehfnbhbibeaaGreatDoor.Rx
open Go Pad Rex Go.Proofs Go.Proofs.Tryz Sum
section
set_option maxRecDepth 100000
set_option maxHeartbeats 0
noncomputable def ik_ (a0:ae_) (a1:ai_):Option (ai_×Int×Unit) :=
 ((ev_ a0 a1).bind λv0 =>
 (cond (v0.1 != 0)
 (some (([],([],[])),(v0.1,())))
 ((gl_ a0 a1).bind λv1 =>
 (cond (!v1.2.1)
 (some (([],([],[])),(27,())))
 (some (v1.1,(0,())))))))
theorem x_121:av_ (P:=prog) (cxC [c_126,c_158] []) .z 121 [ao_,ar_] [ar_,.int]=λx=>ik_ x.1 x.2.1:=by kernel_rfl
noncomputable def c_121:Con prog:=aw_ _ _ 121 [ao_,ar_] [ar_,.int] _ x_121
noncomputable def jd_ (a0:ad_) (a1:Int) (a2:(List Int)):Option (Int×Unit) :=
 ((at? a0.2.1 a1).bind λv0 =>
 ((js_ a0 a2).bind λv1 =>
 ((jy_ v0 v1.1).bind λv2 =>
 (some (v2.1,())))))
theorem x_160:av_ (P:=prog) (cxC [c_203,c_204] []) (.p .z (.p (.q [] .z .z) .z)) 160 [an_,.int,(.list .int)] [.int]=λx=>jd_ x.1 x.2.1 x.2.2.1:=by kernel_rfl
noncomputable def c_160:Con prog:=aw_ _ _ 160 [an_,.int,(.list .int)] [.int] _ x_160
noncomputable def lr_ (a0:ad_) (a1:Int) (a2:cq_):Option (Bool×Unit) :=
 ((sub? a0.2.2.2.1 0 a1).bind λv0 =>
 ((((ag_ (ρ:=(Unit⊕(Bool×Unit))) (λ(v1:(Int×Unit)) =>
 (cond (decide (v1.1<(v0.length:Int)))
 ((at? v0 v1.1).bind λv2 =>
 (cond (v2.1==a2.1)
 (some (inr (inr ((decide (0≤v1.1)),()))))
 (some (inl ((w64 (v1.1+1)),())))))
 (some (inr (inl ()))))) (0,())).bind λv3 =>
 (cj_ v3 (λv4=>(some ((decide (0≤(-1))),())))
 (λv5=>(some v5))))).bind λv6 =>
 ((((ng_ a2.1).bind λv7 =>
 (cond (!v7.1)
 (some (true,()))
 (cond (decide (12<(a2.1.length:Int)))
 (some (true,()))
 (cond v6.1
 (some (true,()))
 ((ca_ a2.2.1 0 (w64 ((a0.1.1.length:Int) - 1))).bind λv8 =>
 (cond (!v8.1)
 (some (true,()))
 ((ca_ a2.2.2.1 (-1) (w64 ((a0.2.1.length:Int) - 1))).bind λv9 =>
 (some ((!v9.1),())))))))))).bind λv10 =>
 (cond v10.1
 (some (false,()))
 (cond (decide (a2.2.2.1<0))
 ((kv_ a2.2.2.2.2).bind λv11 =>
 (some (v11.1,())))
 ((at? a0.2.1 a2.2.2.1).bind λv12 =>
 ((at? a0.2.2.1 a2.2.2.1).bind λv13 =>
 ((kb_ v12 a2.2.2.2.2 v13).bind λv14 =>
 (cond (v14.2.1==0)
 (some (v14.1,()))
 (some (false,())))))))))))
theorem x_134:av_ (P:=prog) (cxI (λk=>cond (Nat.beq k 179) (.p .z (.j0 [.v 4 .bool] .z .z)) (cond (Nat.beq k 221) (.p .z (.p (.p .z (.ls [.v 8 .int] [] [] 0 .z)) .z)) (.z))) (λk=>Nat.beq k 136||Nat.beq k 181||Nat.beq k 182||Nat.beq k 183||false) (cxC [ci0,c_181,c_182,c_183] []) 4) (.p .z (.p .z (.p (.j0 [.v 49 .bool] .z .z) (.p .z (.p (.q [] .z .z) .z))))) 134 [an_,.int,pk_] [.bool]=λx=>lr_ x.1 x.2.1 x.2.2.1:=by kernel_rfl
noncomputable def c_134:Con prog:=aw_ _ _ 134 [an_,.int,pk_] [.bool] _ x_134
noncomputable def fj_ (a0:ae_) (a1:ai_) (a2:(List bg_)):Option (Bool×Int×Unit) :=
 ((bx_ a0 a1).bind λv0 =>
 (cond (v0.1 != 0)
 (some (false,(v0.1,())))
 ((dv_ a0 a2).bind λv1 =>
 (cond (!v1.1)
 (some (false,(25,())))
 ((push? (α:=Int) [] a1.1).bind λv2 =>
 ((push? (α:=Int) [] a1.2.1).bind λv3 =>
 ((push? (α:=Int) [] a1.2.2).bind λv4 =>
 ((bb_ (a0,(v2,(v3,v4))) a2).bind λv5 =>
 (some (v5.1,(0,())))))))))))
theorem x_138:av_ (P:=prog) (cxI (λk=>.z) (λk=>Nat.beq k 128||Nat.beq k 130||Nat.beq k 140||Nat.beq k 175||false) (cxC [ci2,ci1,c_175] [ym_]) 2) .z 138 [ao_,ar_,(.list cb_)] [.bool,.int]=λx=>fj_ x.1 x.2.1 x.2.2.1:=by kernel_rfl
noncomputable def c_138:Con prog:=aw_ _ _ 138 [ao_,ar_,(.list cb_)] [.bool,.int] _ x_138
noncomputable def fi_ (a0:ae_) (a1:ai_):Option ((List af_)×Int×Unit) :=
 ((bx_ a0 a1).bind λv0 =>
 (cond (v0.1 != 0)
 (some ([],(v0.1,())))
 ((push? (α:=Int) [] a1.1).bind λv1 =>
 ((push? (α:=Int) [] a1.2.1).bind λv2 =>
 ((push? (α:=Int) [] a1.2.2).bind λv3 =>
 ((ag_ (ρ:=(Unit×(((List af_)×Unit)×Unit))) (λ(v4:(Int×(Unit×(((List af_)×Unit)×Unit)))) =>
 (cond (decide (v4.1<a0.2.2.2.2.2.2.1))
 ((ag_ (ρ:=(Unit×(((List af_)×Unit)×Unit))) (λ(v5:(Int×(Unit×(((List af_)×Unit)×Unit)))) =>
 (cond (decide (v5.1<(([0,(a0.2.2.2.1.length:Int),(a0.2.2.1.length:Int),(a0.2.2.1.length:Int),(a0.2.2.2.2.1.length:Int)]).length:Int)))
 ((at? [0,(a0.2.2.2.1.length:Int),(a0.2.2.1.length:Int),(a0.2.2.1.length:Int),(a0.2.2.2.2.1.length:Int)] v5.1).bind λv6 =>
 ((at? [0,(a0.2.2.2.1.length:Int),(a0.2.2.1.length:Int),(a0.2.2.1.length:Int),(a0.2.2.2.2.1.length:Int)] v5.1).bind λv7 =>
 ((ag_ (ρ:=(Unit×(((List af_)×Unit)×Unit))) (λ(v8:(Int×(Unit×(((List af_)×Unit)×Unit)))) =>
 (cond (decide (v8.1<v7))
 ((((cy_ (a0,(v1,(v2,v3))) (v4.1,(v5.1,v8.1))).bind λv9 =>
 (cond v9.1
 ((push? (α:=af_) v8.2.2.1.1 [(v4.1,(v5.1,v8.1))]).bind λv10 =>
 (some ((),((v10,()),()))))
 (some ((),((v8.2.2.1.1,()),())))))).bind λv11 =>
 (some (inl ((w64 (v8.1+1)),((),((v11.2.1.1,()),()))))))
 (some (inr ((),((v8.2.2.1.1,()),())))))) (0,((),((v5.2.2.1.1,()),())))).bind λv12 =>
 (some (inl ((w64 (v5.1+1)),((),((v12.2.1.1,()),()))))))))
 (some (inr ((),((v5.2.2.1.1,()),())))))) (0,((),((v4.2.2.1.1,()),())))).bind λv13 =>
 (some (inl ((w64 (v4.1+1)),((),((v13.2.1.1,()),()))))))
 (some (inr ((),((v4.2.2.1.1,()),())))))) (0,((),(([],()),())))).bind λv14 =>
 (some (v14.2.1.1,(0,())))))))))
theorem x_106:av_ (P:=prog) (cxI (λk=>cond (Nat.beq k 191) (.p .z (.lp [.v 9 .int] [] [.y (.s 0),.b (.y (.s 0) 4) [.row ap_ 61]] 0 (.p .z (.p .z (.p (.p .z (.p .z (.lp [.v 26 .int] [] [.y (.s 0),.b (.y (.s 0) 4) [.row ap_ 61]] 2 (.p .z (.p .z (.p (.p .z (.p .z (.lp [.v 32 .int] [] [.y (.s 0),.b (.y (.s 0) 4) [.row ap_ 61]] 4 (.p .z (.p .z (.j0 [.y (.s 0),.b (.y (.s 0) 4) [.row ap_ 61]] .z .z)))))) .z)))))) .z))))) (.z)) (λk=>Nat.beq k 128||Nat.beq k 140||Nat.beq k 146||false) (cxC [ci2,c_146] [ym_]) 6) (.p .z (.p .z (.p .z (.p (.p .z (.rf [4,7] .z .z)) .z)))) 106 [ao_,ar_] [(.list ap_),.int]=λx=>fi_ x.1 x.2.1:=by kernel_rfl
noncomputable def c_106:Con prog:=aw_ _ _ 106 [ao_,ar_] [(.list ap_),.int] _ x_106
noncomputable def fh_ (a0:ae_) (a1:ai_) (a2:af_):Option (ai_×Int×Unit) :=
 ((bx_ a0 a1).bind λv0 =>
 (cond (v0.1 != 0)
 (some (([],([],[])),(v0.1,())))
 ((push? (α:=Int) [] a1.1).bind λv1 =>
 ((push? (α:=Int) [] a1.2.1).bind λv2 =>
 ((push? (α:=Int) [] a1.2.2).bind λv3 =>
 ((cy_ (a0,(v1,(v2,v3))) a2).bind λv4 =>
 (cond (!v4.1)
 (some (([],([],[])),(29,())))
 (((cond (a2.2.1==1)
 ((at? a0.2.2.2.1 a2.2.2).bind λv5 =>
 ((at? v3 a2.1).bind λv6 =>
 ((at? v3 a2.1).bind λv7 =>
 ((at? v3 a2.1).bind λv8 =>
 ((at? v3 a2.1).bind λv9 =>
 (some (v1,(v2,((v3.set a2.1.toNat (w64 ((w64 (v5.1+v5.2.1)) - v7))),())))))))))
 (cond (a2.2.1==2)
 ((at? v2 a2.2.2).bind λv10 =>
 ((at? v2 a2.2.2).bind λv11 =>
 (some (v1,((v2.set a2.2.2.toNat (w64 ((-2) - a2.1))),(v3,()))))))
 (cond (a2.2.1==3)
 ((at? v3 a2.1).bind λv12 =>
 ((at? v3 a2.1).bind λv13 =>
 ((at? v2 a2.2.2).bind λv14 =>
 ((at? v2 a2.2.2).bind λv15 =>
 (some (v1,((v2.set a2.2.2.toNat v13),(v3,()))))))))
 (cond (a2.2.1==4)
 ((at? a0.2.2.2.2.1 a2.2.2).bind λv16 =>
 ((ag_ (ρ:=((List Int)×Unit)) (λ(v17:(Int×((List Int)×Unit))) =>
 (cond (decide (v17.1<(v16.2.2.2.2.2.2.1.length:Int)))
 ((at? v16.2.2.2.2.2.2.1 v17.1).bind λv18 =>
 ((at? v17.2.1 v18).bind λv19 =>
 ((at? v17.2.1 v18).bind λv20 =>
 (some (inl ((w64 (v17.1+1)),((v17.2.1.set v18.toNat (-1)),())))))))
 (some (inr (v17.2.1,()))))) (0,(v2,()))).bind λv21 =>
 ((ag_ (ρ:=((List Int)×Unit)) (λ(v22:(Int×((List Int)×Unit))) =>
 (cond (decide (v22.1<(v16.2.2.2.2.2.2.2.length:Int)))
 ((at? v16.2.2.2.2.2.2.2 v22.1).bind λv23 =>
 ((at? v22.2.1 v23).bind λv24 =>
 ((at? v22.2.1 v23).bind λv25 =>
 (some (inl ((w64 (v22.1+1)),((v22.2.1.set v23.toNat (w64 ((-2) - a2.1))),())))))))
 (some (inr (v22.2.1,()))))) (0,(v21.1,()))).bind λv26 =>
 ((ag_ (ρ:=((List Int)×Unit)) (λ(v27:(Int×((List Int)×Unit))) =>
 (cond (decide (v27.1<(v16.2.2.2.2.2.1.length:Int)))
 ((at? v16.2.2.2.2.2.1 v27.1).bind λv28 =>
 ((at? v27.2.1 v28.1).bind λv29 =>
 ((at? v27.2.1 v28.1).bind λv30 =>
 (some (inl ((w64 (v27.1+1)),((v27.2.1.set v28.1.toNat v28.2),())))))))
 (some (inr (v27.2.1,()))))) (0,(v1,()))).bind λv31 =>
 (some (v31.1,(v26.1,(v3,()))))))))
 (some (v1,(v2,(v3,()))))))))).bind λv32 =>
 ((((ag_ (ρ:=(((List Int)×Unit)⊕(Bool×((List Int)×Unit)))) (λ(v33:(Int×((List Int)×Unit))) =>
 (cond (decide (v33.1<101))
 ((((ag_ (ρ:=(Unit⊕(Int×Unit))) (λ(v34:(Int×Unit)) =>
 (cond (decide (v34.1<(a0.2.2.2.2.2.1.length:Int)))
 ((at? a0.2.2.2.2.2.1 v34.1).bind λv35 =>
 ((((at? v33.2.1 v35.2.1).bind λv36 =>
 ((at? v33.2.1 v35.2.1).bind λv37 =>
 (cond (v37 != v35.2.2)
 ((bb_ (a0,(v33.2.1,(v32.2.1,v32.2.2.1))) v35.1).bind λv38 =>
 (some (v38.1,())))
 (some (false,())))))).bind λv39 =>
 (cond v39.1
 (some (inr (inr (v34.1,()))))
 (some (inl ((w64 (v34.1+1)),()))))))
 (some (inr (inl ()))))) (0,())).bind λv40 =>
 (cj_ v40 (λv41=>(some ((-1),())))
 (λv42=>(some v42))))).bind λv43 =>
 (cond (decide (v43.1<0))
 (some (inr (inr ((!true),(v33.2.1,())))))
 ((at? a0.2.2.2.2.2.1 v43.1).bind λv44 =>
 ((at? a0.2.2.2.2.2.1 v43.1).bind λv45 =>
 ((at? v33.2.1 v44.2.1).bind λv46 =>
 ((at? v33.2.1 v44.2.1).bind λv47 =>
 (some (inl ((w64 (v33.1+1)),((v33.2.1.set v44.2.1.toNat v45.2.2),()))))))))))
 (some (inr (inl (v33.2.1,())))))) (0,(v32.1,()))).bind λv48 =>
 (cj_ v48 (λv49=>(some ((!false),(v49.1,()))))
 (λv50=>(some v50))))).bind λv51 =>
 (cond v51.1
 (some (([],([],[])),(27,())))
 (some ((v51.2.1,(v32.2.1,v32.2.2.1)),(0,())))))))))))))
theorem x_148:av_ (P:=prog) (cxI (λk=>cond (Nat.beq k 137) (.p .z (.p (.j0 [.v 6 .bool,.o (.c (.s 0) 8) .int] .z .z) .z)) (cond (Nat.beq k 185) (.p .z (.p (.p .z (.ls [.v 4 .int] [] [.o (.c (.s 0) 8) .int] 0 (.p .z (.p .z (.p (.j0 [.v 3 .int] .z .z) .z))))) .z)) (cond (Nat.beq k 198) (.p .z (.p .z (.p .z (.p .z (.p .z (.p .z (.p .z (.p .z (.p .z (.p .z (.p (.p .z (.p (.p .z (.lp [.v 96 .int] [] [.o (.c (.s 0) 9) .int] 1 .z)) (.p (.p .z (.lp [.v 111 .int] [] [.o (.c (.s 0) 9) .int] 3 .z)) (.p .z (.lp [.v 127 .int] [] [.o (.c (.s 0) 8) .int] 5 .z))))) .z))))))))))) (cond (Nat.beq k 224) (.p .z (.p (.p .z (.ls [.v 8 .int] [] [] 0 .z)) .z)) (cond (Nat.beq k 225) (.p .z (.j0 [.v 3 .bool] .z .z)) (.z)))))) (λk=>Nat.beq k 128||Nat.beq k 130||Nat.beq k 140||Nat.beq k 146||false) (cxC [ci2,ci1,c_146] [ym_]) 7) (.p .z (.p .z (.p .z (.p .z (.j0 [.o (.c (.s 9) 8) .int,.o (.c (.s 9) 9) .int,.o (.c (.s 9) 10) .int] .z .z))))) 148 [ao_,ar_,ap_] [ar_,.int]=λx=>fh_ x.1 x.2.1 x.2.2.1:=by kernel_rfl
noncomputable def c_148:Con prog:=aw_ _ _ 148 [ao_,ar_,ap_] [ar_,.int] _ x_148
noncomputable abbrev qq_:Gb:=⟨Gb.ev,λc p=>cond (Nat.beq c 1019250704&&eqS p "room.go:184") true (cond (Nat.beq c 398465025&&eqS p "room.go:183") true (cond (Nat.beq c 130027520&&eqS p "room.go:183") true (Gb.fz c p))),Gb.gd,Gb.gl,λc=>cond (Nat.beq c 1019250704) (some fa_) (cond (Nat.beq c 398465025) (some ar_) (cond (Nat.beq c 130027520) (some ao_) (none))),Gb.rw⟩
def an_99:An:=.z
def at_99:FuncId→An:=λk=>.z
noncomputable def cs_99:List (@Con qq_ prog _):=[@cvG instGb qq_ prog _ (λ_=>rfl) (λ_=>rfl) ci2,@cvG instGb qq_ prog _ (λ_=>rfl) (λ_=>rfl) ci1,@cpCon qq_ prog _ ym_]
noncomputable def cx_99:@Cx qq_ prog _:=@cxI qq_ prog _ at_99 (λk=>Nat.beq k 128||Nat.beq k 130||Nat.beq k 140||false) (@cxC qq_ prog _ cs_99 []) 2
noncomputable def ig_ (a0:ae_) (a1:ai_):Option (Bool×Int×Unit) :=
 ((bx_ a0 a1).bind λv0 =>
 (cond (v0.1 != 0)
 (some (false,(v0.1,())))
 ((((push? (α:=Int) [] a1.1).bind λv1 =>
 (some (v1,())))).bind λv2 =>
 ((((push? (α:=Int) [] a1.2.1).bind λv3 =>
 (some (v3,())))).bind λv4 =>
 ((((push? (α:=Int) [] a1.2.2).bind λv5 =>
 (some (v5,())))).bind λv6 =>
 ((bb_ (a0,(v2.1,(v4.1,v6.1))) a0.2.2.2.2.2.2.2).bind λv7 =>
 (some (v7.1,(0,())))))))))
theorem x_99:@av_ qq_ prog _ cx_99 an_99 99 [ao_,ar_] [.bool,.int]=λx=>ig_ x.1 x.2.1:=by kernel_rfl
noncomputable def c_99:Con prog:=@cvG qq_ instGb prog _ (λ_=>rfl) (λ_=>rfl) <| @aw_ qq_ prog _ _ _ 99 [ao_,ar_] [.bool,.int] _ x_99
end
end Go.Proofs.YtgeehfnbhbibeaaGreatDoor.Rx
