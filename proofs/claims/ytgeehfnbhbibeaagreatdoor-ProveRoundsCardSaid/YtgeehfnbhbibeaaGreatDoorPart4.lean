/- A part of the proof: what the functions of the program compute, shown over the model. -/
import Derived.Test.YtgeehfnbhbibeaaGreatDoorProg
import Derived.KernelRfl
import Derived.Shelf.Small.Wraps
import Derived.Shelf.Strings.BuilderK
import Derived.Shelf.LaysM
import Derived.Shelf.Strconv.Itoa3
import Derived.Shelf.Bits.Mul64
import Derived.Test.YtgeehfnbhbibeaaGreatDoorPart1
import Derived.Test.YtgeehfnbhbibeaaGreatDoorPart3
set_option linter.unusedSectionVars false
set_option linter.unusedVariables false
set_option linter.unusedSimpArgs false
namespace Go.Proofs.YtgeehfnbhbibeaaGreatDoor.Rx
open Go Pad Rex Go.Proofs Go.Proofs.Tryz Sum
section
set_option maxRecDepth 100000
theorem ui1:prog.info? 1=some t1:=by kernel_rfl
theorem ui2:prog.info? 2=some t2:=by kernel_rfl
theorem ui3:prog.info? 3=some t3:=by kernel_rfl
theorem ui4:prog.info? 4=some t4:=by kernel_rfl
theorem ui5:prog.info? 5=some t5:=by kernel_rfl
theorem ui6:prog.info? 6=some t6:=by kernel_rfl
theorem ui7:prog.info? 7=some t7:=by kernel_rfl
theorem ui8:prog.info? 8=some t8:=by kernel_rfl
theorem ui9:prog.info? 9=some t9:=by kernel_rfl
theorem ui10:prog.info? 10=some t10:=by kernel_rfl
theorem ui11:prog.info? 11=some t11:=by kernel_rfl
theorem ui12:prog.info? 12=some t12:=by kernel_rfl
theorem ui13:prog.info? 13=some t13:=by kernel_rfl
theorem ui14:prog.info? 14=some t14:=by kernel_rfl
theorem ui15:prog.info? 15=some t15:=by kernel_rfl
theorem ui16:prog.info? 16=some t16:=by kernel_rfl
theorem ui17:prog.info? 17=some t17:=by kernel_rfl
theorem ui18:prog.info? 18=some t18:=by kernel_rfl
theorem ui19:prog.info? 19=some t19:=by kernel_rfl
theorem ui20:prog.info? 20=some t20:=by kernel_rfl
theorem ui21:prog.info? 21=some t21:=by kernel_rfl
theorem ui22:prog.info? 22=some t22:=by kernel_rfl
theorem ui23:prog.info? 23=some t23:=by kernel_rfl
theorem ui24:prog.info? 24=some t24:=by kernel_rfl
theorem ui25:prog.info? 25=some t25:=by kernel_rfl
theorem ui26:prog.info? 26=some t26:=by kernel_rfl
theorem ui27:prog.info? 27=some t27:=by kernel_rfl
theorem ui28:prog.info? 28=some t28:=by kernel_rfl
theorem ui29:prog.info? 29=some t29:=by kernel_rfl
theorem ui30:prog.info? 30=some t30:=by kernel_rfl
theorem ui31:prog.info? 31=some t31:=by kernel_rfl
theorem ui32:prog.info? 32=some t32:=by kernel_rfl
theorem ui33:prog.info? 33=some t33:=by kernel_rfl
theorem ui34:prog.info? 34=some t34:=by kernel_rfl
theorem ui35:prog.info? 35=some t35:=by kernel_rfl
theorem ui36:prog.info? 36=some t36:=by kernel_rfl
theorem ui37:prog.info? 37=some t37:=by kernel_rfl
theorem ui38:prog.info? 38=some t38:=by kernel_rfl
theorem ui39:prog.info? 39=some t39:=by kernel_rfl
theorem ui40:prog.info? 40=some t40:=by kernel_rfl
theorem ui42:prog.info? 42=some t42:=by kernel_rfl
theorem ui43:prog.info? 43=some t43:=by kernel_rfl
theorem ui45:prog.info? 45=some t45:=by kernel_rfl
theorem ui46:prog.info? 46=some t46:=by kernel_rfl
theorem ui47:prog.info? 47=some t47:=by kernel_rfl
theorem ui49:prog.info? 49=some t49:=by kernel_rfl
theorem ui50:prog.info? 50=some t50:=by kernel_rfl
theorem ui51:prog.info? 51=some t51:=by kernel_rfl
theorem ui52:prog.info? 52=some t52:=by kernel_rfl
theorem ui53:prog.info? 53=some t53:=by kernel_rfl
theorem ui54:prog.info? 54=some t54:=by kernel_rfl
theorem ui55:prog.info? 55=some t55:=by kernel_rfl
theorem ui57:prog.info? 57=some t57:=by kernel_rfl
theorem ui58:prog.info? 58=some t58:=by kernel_rfl
theorem ui59:prog.info? 59=some t59:=by kernel_rfl
theorem ui60:prog.info? 60=some t60:=by kernel_rfl
theorem ui61:prog.info? 61=some t61:=by kernel_rfl
theorem ui62:prog.info? 62=some t62:=by kernel_rfl
theorem ui63:prog.info? 63=some t63:=by kernel_rfl
theorem ui64:prog.info? 64=some t64:=by kernel_rfl
theorem ui66:prog.info? 66=some t66:=by kernel_rfl
theorem ui67:prog.info? 67=some t67:=by kernel_rfl
theorem ui68:prog.info? 68=some t68:=by kernel_rfl
theorem ui69:prog.info? 69=some t69:=by kernel_rfl
theorem ui70:prog.info? 70=some t70:=by kernel_rfl
theorem ui72:prog.info? 72=some t72:=by kernel_rfl
theorem ui73:prog.info? 73=some t73:=by kernel_rfl
theorem ui74:prog.info? 74=some t74:=by kernel_rfl
theorem ui75:prog.info? 75=some t75:=by kernel_rfl
theorem ui76:prog.info? 76=some t76:=by kernel_rfl
theorem ui77:prog.info? 77=some t77:=by kernel_rfl
theorem ui78:prog.info? 78=some t78:=by kernel_rfl
theorem ui79:prog.info? 79=some t79:=by kernel_rfl
theorem ui80:prog.info? 80=some t80:=by kernel_rfl
theorem ui81:prog.info? 81=some t81:=by kernel_rfl
theorem ui82:prog.info? 82=some t82:=by kernel_rfl
theorem ui83:prog.info? 83=some t83:=by kernel_rfl
theorem ui85:prog.info? 85=some t85:=by kernel_rfl
theorem ui86:prog.info? 86=some t86:=by kernel_rfl
theorem ui87:prog.info? 87=some t87:=by kernel_rfl
theorem ui88:prog.info? 88=some t88:=by kernel_rfl
theorem ui90:prog.info? 90=some t90:=by kernel_rfl
theorem ui91:prog.info? 91=some t91:=by kernel_rfl
theorem ui92:prog.info? 92=some t92:=by kernel_rfl
theorem ui93:prog.info? 93=some t93:=by kernel_rfl
theorem ui94:prog.info? 94=some t94:=by kernel_rfl
theorem ui95:prog.info? 95=some t95:=by kernel_rfl
theorem ui96:prog.info? 96=some t96:=by kernel_rfl
theorem ui97:prog.info? 97=some t97:=by kernel_rfl
theorem ui98:prog.info? 98=some t98:=by kernel_rfl
theorem ui99:prog.info? 99=some t99:=by kernel_rfl
theorem ui100:prog.info? 100=some t100:=by kernel_rfl
theorem ui101:prog.info? 101=some t101:=by kernel_rfl
theorem ui102:prog.info? 102=some t102:=by kernel_rfl
theorem ui103:prog.info? 103=some t103:=by kernel_rfl
theorem ui105:prog.info? 105=some t105:=by kernel_rfl
theorem ui107:prog.info? 107=some t107:=by kernel_rfl
theorem ui108:prog.info? 108=some t108:=by kernel_rfl
theorem ui109:prog.info? 109=some t109:=by kernel_rfl
theorem ui111:prog.info? 111=some t111:=by kernel_rfl
theorem ui113:prog.info? 113=some t113:=by kernel_rfl
theorem ui114:prog.info? 114=some t114:=by kernel_rfl
theorem ui115:prog.info? 115=some t115:=by kernel_rfl
theorem ui116:prog.info? 116=some t116:=by kernel_rfl
theorem ui117:prog.info? 117=some t117:=by kernel_rfl
theorem ui118:prog.info? 118=some t118:=by kernel_rfl
theorem ui119:prog.info? 119=some t119:=by kernel_rfl
theorem ui120:prog.info? 120=some t120:=by kernel_rfl
theorem ui121:prog.info? 121=some t121:=by kernel_rfl
theorem ui122:prog.info? 122=some t122:=by kernel_rfl
theorem ui123:prog.info? 123=some t123:=by kernel_rfl
theorem ui124:prog.info? 124=some t124:=by kernel_rfl
theorem ui125:prog.info? 125=some t125:=by kernel_rfl
theorem ui127:prog.info? 127=some t127:=by kernel_rfl
theorem ui128:prog.info? 128=some t128:=by kernel_rfl
theorem ui129:prog.info? 129=some t129:=by kernel_rfl
theorem ui130:prog.info? 130=some t130:=by kernel_rfl
theorem ui131:prog.info? 131=some t131:=by kernel_rfl
theorem ui132:prog.info? 132=some t132:=by kernel_rfl
theorem ui133:prog.info? 133=some t133:=by kernel_rfl
theorem ui134:prog.info? 134=some t134:=by kernel_rfl
theorem ui135:prog.info? 135=some t135:=by kernel_rfl
theorem ui136:prog.info? 136=some t136:=by kernel_rfl
theorem ui137:prog.info? 137=some t137:=by kernel_rfl
theorem ui138:prog.info? 138=some t138:=by kernel_rfl
theorem ui139:prog.info? 139=some t139:=by kernel_rfl
theorem ui140:prog.info? 140=some t140:=by kernel_rfl
theorem ui141:prog.info? 141=some t141:=by kernel_rfl
theorem ui142:prog.info? 142=some t142:=by kernel_rfl
theorem ui143:prog.info? 143=some t143:=by kernel_rfl
theorem ui144:prog.info? 144=some t144:=by kernel_rfl
theorem ui145:prog.info? 145=some t145:=by kernel_rfl
theorem ui146:prog.info? 146=some t146:=by kernel_rfl
theorem ui147:prog.info? 147=some t147:=by kernel_rfl
theorem ui148:prog.info? 148=some t148:=by kernel_rfl
theorem ui149:prog.info? 149=some t149:=by kernel_rfl
theorem ui150:prog.info? 150=some t150:=by kernel_rfl
theorem ui151:prog.info? 151=some t151:=by kernel_rfl
theorem ui152:prog.info? 152=some t152:=by kernel_rfl
theorem ui153:prog.info? 153=some t153:=by kernel_rfl
theorem ui154:prog.info? 154=some t154:=by kernel_rfl
theorem ui155:prog.info? 155=some t155:=by kernel_rfl
theorem ui157:prog.info? 157=some t157:=by kernel_rfl
theorem ui159:prog.info? 159=some t159:=by kernel_rfl
theorem ui160:prog.info? 160=some t160:=by kernel_rfl
theorem ui161:prog.info? 161=some t161:=by kernel_rfl
theorem ui162:prog.info? 162=some t162:=by kernel_rfl
theorem ui163:prog.info? 163=some t163:=by kernel_rfl
theorem ui164:prog.info? 164=some t164:=by kernel_rfl
theorem ui165:prog.info? 165=some t165:=by kernel_rfl
theorem ui166:prog.info? 166=some t166:=by kernel_rfl
theorem ui167:prog.info? 167=some t167:=by kernel_rfl
theorem ui168:prog.info? 168=some t168:=by kernel_rfl
theorem ui169:prog.info? 169=some t169:=by kernel_rfl
theorem ui170:prog.info? 170=some t170:=by kernel_rfl
theorem ui171:prog.info? 171=some t171:=by kernel_rfl
theorem ui173:prog.info? 173=some t173:=by kernel_rfl
theorem ui174:prog.info? 174=some t174:=by kernel_rfl
theorem ui175:prog.info? 175=some t175:=by kernel_rfl
theorem ui176:prog.info? 176=some t176:=by kernel_rfl
theorem ui177:prog.info? 177=some t177:=by kernel_rfl
theorem ui179:prog.info? 179=some t179:=by kernel_rfl
theorem ui180:prog.info? 180=some t180:=by kernel_rfl
theorem ui181:prog.info? 181=some t181:=by kernel_rfl
theorem ui182:prog.info? 182=some t182:=by kernel_rfl
theorem ui183:prog.info? 183=some t183:=by kernel_rfl
theorem ui184:prog.info? 184=some t184:=by kernel_rfl
theorem ui185:prog.info? 185=some t185:=by kernel_rfl
theorem ui187:prog.info? 187=some t187:=by kernel_rfl
theorem ui188:prog.info? 188=some t188:=by kernel_rfl
theorem ui189:prog.info? 189=some t189:=by kernel_rfl
theorem ui190:prog.info? 190=some t190:=by kernel_rfl
theorem ui191:prog.info? 191=some t191:=by kernel_rfl
theorem ui192:prog.info? 192=some t192:=by kernel_rfl
theorem ui193:prog.info? 193=some t193:=by kernel_rfl
theorem ui194:prog.info? 194=some t194:=by kernel_rfl
theorem ui195:prog.info? 195=some t195:=by kernel_rfl
theorem ui196:prog.info? 196=some t196:=by kernel_rfl
theorem ui197:prog.info? 197=some t197:=by kernel_rfl
theorem ui198:prog.info? 198=some t198:=by kernel_rfl
theorem ui199:prog.info? 199=some t199:=by kernel_rfl
theorem ui200:prog.info? 200=some t200:=by kernel_rfl
theorem ui201:prog.info? 201=some t201:=by kernel_rfl
theorem ui202:prog.info? 202=some t202:=by kernel_rfl
theorem ui204:prog.info? 204=some t204:=by kernel_rfl
theorem ui205:prog.info? 205=some t205:=by kernel_rfl
theorem ui206:prog.info? 206=some t206:=by kernel_rfl
theorem ui207:prog.info? 207=some t207:=by kernel_rfl
theorem ui208:prog.info? 208=some t208:=by kernel_rfl
theorem ui209:prog.info? 209=some t209:=by kernel_rfl
theorem ui210:prog.info? 210=some t210:=by kernel_rfl
theorem ui211:prog.info? 211=some t211:=by kernel_rfl
theorem ui213:prog.info? 213=some t213:=by kernel_rfl
theorem ui214:prog.info? 214=some t214:=by kernel_rfl
theorem ui215:prog.info? 215=some t215:=by kernel_rfl
theorem ui216:prog.info? 216=some t216:=by kernel_rfl
theorem ui217:prog.info? 217=some t217:=by kernel_rfl
theorem ui218:prog.info? 218=some t218:=by kernel_rfl
theorem ui219:prog.info? 219=some t219:=by kernel_rfl
theorem ui220:prog.info? 220=some t220:=by kernel_rfl
theorem ui221:prog.info? 221=some t221:=by kernel_rfl
theorem ui222:prog.info? 222=some t222:=by kernel_rfl
theorem ui223:prog.info? 223=some t223:=by kernel_rfl
theorem ui224:prog.info? 224=some t224:=by kernel_rfl
theorem ui225:prog.info? 225=some t225:=by kernel_rfl
theorem ui226:prog.info? 226=some t226:=by kernel_rfl
theorem ui227:prog.info? 227=some t227:=by kernel_rfl
theorem ui228:prog.info? 228=some t228:=by kernel_rfl
theorem ui229:prog.info? 229=some t229:=by kernel_rfl
theorem ui230:prog.info? 230=some t230:=by kernel_rfl
theorem ui231:prog.info? 231=some t231:=by kernel_rfl
theorem ui232:prog.info? 232=some t232:=by kernel_rfl
theorem ui233:prog.info? 233=some t233:=by kernel_rfl
theorem ui234:prog.info? 234=some t234:=by kernel_rfl
theorem ui235:prog.info? 235=some t235:=by kernel_rfl
theorem ui236:prog.info? 236=some t236:=by kernel_rfl
theorem ui238:prog.info? 238=some t238:=by kernel_rfl
theorem ui239:prog.info? 239=some t239:=by kernel_rfl
theorem ui241:prog.info? 241=some t241:=by kernel_rfl
theorem ui242:prog.info? 242=some t242:=by kernel_rfl
theorem ui243:prog.info? 243=some t243:=by kernel_rfl
theorem ui244:prog.info? 244=some t244:=by kernel_rfl
theorem ui245:prog.info? 245=some t245:=by kernel_rfl
theorem ui246:prog.info? 246=some t246:=by kernel_rfl
theorem ui247:prog.info? 247=some t247:=by kernel_rfl
theorem ui248:prog.info? 248=some t248:=by kernel_rfl
theorem ui249:prog.info? 249=some t249:=by kernel_rfl
theorem ui251:prog.info? 251=some t251:=by kernel_rfl
theorem ui252:prog.info? 252=some t252:=by kernel_rfl
theorem ui253:prog.info? 253=some t253:=by kernel_rfl
theorem ui254:prog.info? 254=some t254:=by kernel_rfl
theorem ui255:prog.info? 255=some t255:=by kernel_rfl
theorem ui256:prog.info? 256=some t256:=by kernel_rfl
theorem ui257:prog.info? 257=some t257:=by kernel_rfl
theorem ui258:prog.info? 258=some t258:=by kernel_rfl
theorem ui259:prog.info? 259=some t259:=by kernel_rfl
theorem ui260:prog.info? 260=some t260:=by kernel_rfl
theorem ui264:prog.info? 264=some t264:=by kernel_rfl
theorem ui265:prog.info? 265=some t265:=by kernel_rfl
theorem ui266:prog.info? 266=some t266:=by kernel_rfl
theorem ui267:prog.info? 267=some t267:=by kernel_rfl
theorem ui272:prog.info? 272=some t272:=by kernel_rfl
theorem ui273:prog.info? 273=some t273:=by kernel_rfl
theorem ui275:prog.info? 275=some t275:=by kernel_rfl
theorem ui277:prog.info? 277=some t277:=by kernel_rfl
theorem ui278:prog.info? 278=some t278:=by kernel_rfl
theorem ui279:prog.info? 279=some t279:=by kernel_rfl
theorem ui284:prog.info? 284=some t284:=by kernel_rfl
theorem ui286:prog.info? 286=some t286:=by kernel_rfl
theorem ui288:prog.info? 288=some t288:=by kernel_rfl
theorem ui289:prog.info? 289=some t289:=by kernel_rfl
theorem ui292:prog.info? 292=some t292:=by kernel_rfl
theorem ui293:prog.info? 293=some t293:=by kernel_rfl
theorem ui302:prog.info? 302=some t302:=by kernel_rfl
theorem ui304:prog.info? 304=some t304:=by kernel_rfl
theorem ui316:prog.info? 316=some t316:=by kernel_rfl
theorem ui323:prog.info? 323=some t323:=by kernel_rfl
theorem ui324:prog.info? 324=some t324:=by kernel_rfl
theorem ui326:prog.info? 326=some t326:=by kernel_rfl
theorem ui337:prog.info? 337=some t337:=by kernel_rfl
theorem ui338:prog.info? 338=some t338:=by kernel_rfl
theorem ui340:prog.info? 340=some t340:=by kernel_rfl
theorem ui341:prog.info? 341=some t341:=by kernel_rfl
theorem ui342:prog.info? 342=some t342:=by kernel_rfl
theorem ui343:prog.info? 343=some t343:=by kernel_rfl
theorem ui344:prog.info? 344=some t344:=by kernel_rfl
theorem ui345:prog.info? 345=some t345:=by kernel_rfl
theorem ui347:prog.info? 347=some t347:=by kernel_rfl
noncomputable def trU:Tre (λT=>prog.underlying T):=(.node 148 _ underlying148 (.node 74 _ underlying74 (.node 34 _ underlying34 (.node 17 _ underlying17 (.node 9 _ underlying9 (.node 5 _ underlying5 (.node 3 _ underlying3 (.node 2 _ underlying2 (.node 1 _ underlying1 .nil .nil) .nil) (.node 4 _ underlying4 .nil .nil)) (.node 7 _ underlying7 (.node 6 _ underlying6 .nil .nil) (.node 8 _ underlying8 .nil .nil))) (.node 13 _ underlying13 (.node 11 _ underlying11 (.node 10 _ underlying10 .nil .nil) (.node 12 _ underlying12 .nil .nil)) (.node 15 _ underlying15 (.node 14 _ underlying14 .nil .nil) (.node 16 _ underlying16 .nil .nil)))) (.node 26 _ underlying26 (.node 22 _ underlying22 (.node 20 _ underlying20 (.node 19 _ underlying19 (.node 18 _ underlying18 .nil .nil) .nil) (.node 21 _ underlying21 .nil .nil)) (.node 24 _ underlying24 (.node 23 _ underlying23 .nil .nil) (.node 25 _ underlying25 .nil .nil))) (.node 30 _ underlying30 (.node 28 _ underlying28 (.node 27 _ underlying27 .nil .nil) (.node 29 _ underlying29 .nil .nil)) (.node 32 _ underlying32 (.node 31 _ underlying31 .nil .nil) (.node 33 _ underlying33 .nil .nil))))) (.node 54 _ underlying54 (.node 45 _ underlying45 (.node 39 _ underlying39 (.node 37 _ underlying37 (.node 36 _ underlying36 (.node 35 _ underlying35 .nil .nil) .nil) (.node 38 _ underlying38 .nil .nil)) (.node 42 _ underlying42 (.node 40 _ underlying40 .nil .nil) (.node 43 _ underlying43 .nil .nil))) (.node 50 _ underlying50 (.node 47 _ underlying47 (.node 46 _ underlying46 .nil .nil) (.node 49 _ underlying49 .nil .nil)) (.node 52 _ underlying52 (.node 51 _ underlying51 .nil .nil) (.node 53 _ underlying53 .nil .nil)))) (.node 64 _ underlying64 (.node 60 _ underlying60 (.node 58 _ underlying58 (.node 57 _ underlying57 (.node 55 _ underlying55 .nil .nil) .nil) (.node 59 _ underlying59 .nil .nil)) (.node 62 _ underlying62 (.node 61 _ underlying61 .nil .nil) (.node 63 _ underlying63 .nil .nil))) (.node 69 _ underlying69 (.node 67 _ underlying67 (.node 66 _ underlying66 .nil .nil) (.node 68 _ underlying68 .nil .nil)) (.node 72 _ underlying72 (.node 70 _ underlying70 .nil .nil) (.node 73 _ underlying73 .nil .nil)))))) (.node 114 _ underlying114 (.node 93 _ underlying93 (.node 83 _ underlying83 (.node 79 _ underlying79 (.node 77 _ underlying77 (.node 76 _ underlying76 (.node 75 _ underlying75 .nil .nil) .nil) (.node 78 _ underlying78 .nil .nil)) (.node 81 _ underlying81 (.node 80 _ underlying80 .nil .nil) (.node 82 _ underlying82 .nil .nil))) (.node 88 _ underlying88 (.node 86 _ underlying86 (.node 85 _ underlying85 .nil .nil) (.node 87 _ underlying87 .nil .nil)) (.node 91 _ underlying91 (.node 90 _ underlying90 .nil .nil) (.node 92 _ underlying92 .nil .nil)))) (.node 102 _ underlying102 (.node 98 _ underlying98 (.node 96 _ underlying96 (.node 95 _ underlying95 (.node 94 _ underlying94 .nil .nil) .nil) (.node 97 _ underlying97 .nil .nil)) (.node 100 _ underlying100 (.node 99 _ underlying99 .nil .nil) (.node 101 _ underlying101 .nil .nil))) (.node 108 _ underlying108 (.node 105 _ underlying105 (.node 103 _ underlying103 .nil .nil) (.node 107 _ underlying107 .nil .nil)) (.node 111 _ underlying111 (.node 109 _ underlying109 .nil .nil) (.node 113 _ underlying113 .nil .nil))))) (.node 132 _ underlying132 (.node 123 _ underlying123 (.node 119 _ underlying119 (.node 117 _ underlying117 (.node 116 _ underlying116 (.node 115 _ underlying115 .nil .nil) .nil) (.node 118 _ underlying118 .nil .nil)) (.node 121 _ underlying121 (.node 120 _ underlying120 .nil .nil) (.node 122 _ underlying122 .nil .nil))) (.node 128 _ underlying128 (.node 125 _ underlying125 (.node 124 _ underlying124 .nil .nil) (.node 127 _ underlying127 .nil .nil)) (.node 130 _ underlying130 (.node 129 _ underlying129 .nil .nil) (.node 131 _ underlying131 .nil .nil)))) (.node 140 _ underlying140 (.node 136 _ underlying136 (.node 134 _ underlying134 (.node 133 _ underlying133 .nil .nil) (.node 135 _ underlying135 .nil .nil)) (.node 138 _ underlying138 (.node 137 _ underlying137 .nil .nil) (.node 139 _ underlying139 .nil .nil))) (.node 144 _ underlying144 (.node 142 _ underlying142 (.node 141 _ underlying141 .nil .nil) (.node 143 _ underlying143 .nil .nil)) (.node 146 _ underlying146 (.node 145 _ underlying145 .nil .nil) (.node 147 _ underlying147 .nil .nil))))))) (.node 222 _ underlying222 (.node 187 _ underlying187 (.node 167 _ underlying167 (.node 159 _ underlying159 (.node 153 _ underlying153 (.node 151 _ underlying151 (.node 150 _ underlying150 (.node 149 _ underlying149 .nil .nil) .nil) (.node 152 _ underlying152 .nil .nil)) (.node 155 _ underlying155 (.node 154 _ underlying154 .nil .nil) (.node 157 _ underlying157 .nil .nil))) (.node 163 _ underlying163 (.node 161 _ underlying161 (.node 160 _ underlying160 .nil .nil) (.node 162 _ underlying162 .nil .nil)) (.node 165 _ underlying165 (.node 164 _ underlying164 .nil .nil) (.node 166 _ underlying166 .nil .nil)))) (.node 177 _ underlying177 (.node 173 _ underlying173 (.node 170 _ underlying170 (.node 169 _ underlying169 (.node 168 _ underlying168 .nil .nil) .nil) (.node 171 _ underlying171 .nil .nil)) (.node 175 _ underlying175 (.node 174 _ underlying174 .nil .nil) (.node 176 _ underlying176 .nil .nil))) (.node 182 _ underlying182 (.node 180 _ underlying180 (.node 179 _ underlying179 .nil .nil) (.node 181 _ underlying181 .nil .nil)) (.node 184 _ underlying184 (.node 183 _ underlying183 .nil .nil) (.node 185 _ underlying185 .nil .nil))))) (.node 205 _ underlying205 (.node 196 _ underlying196 (.node 192 _ underlying192 (.node 190 _ underlying190 (.node 189 _ underlying189 (.node 188 _ underlying188 .nil .nil) .nil) (.node 191 _ underlying191 .nil .nil)) (.node 194 _ underlying194 (.node 193 _ underlying193 .nil .nil) (.node 195 _ underlying195 .nil .nil))) (.node 200 _ underlying200 (.node 198 _ underlying198 (.node 197 _ underlying197 .nil .nil) (.node 199 _ underlying199 .nil .nil)) (.node 202 _ underlying202 (.node 201 _ underlying201 .nil .nil) (.node 204 _ underlying204 .nil .nil)))) (.node 214 _ underlying214 (.node 209 _ underlying209 (.node 207 _ underlying207 (.node 206 _ underlying206 .nil .nil) (.node 208 _ underlying208 .nil .nil)) (.node 211 _ underlying211 (.node 210 _ underlying210 .nil .nil) (.node 213 _ underlying213 .nil .nil))) (.node 218 _ underlying218 (.node 216 _ underlying216 (.node 215 _ underlying215 .nil .nil) (.node 217 _ underlying217 .nil .nil)) (.node 220 _ underlying220 (.node 219 _ underlying219 .nil .nil) (.node 221 _ underlying221 .nil .nil)))))) (.node 259 _ underlying259 (.node 241 _ underlying241 (.node 231 _ underlying231 (.node 227 _ underlying227 (.node 225 _ underlying225 (.node 224 _ underlying224 (.node 223 _ underlying223 .nil .nil) .nil) (.node 226 _ underlying226 .nil .nil)) (.node 229 _ underlying229 (.node 228 _ underlying228 .nil .nil) (.node 230 _ underlying230 .nil .nil))) (.node 235 _ underlying235 (.node 233 _ underlying233 (.node 232 _ underlying232 .nil .nil) (.node 234 _ underlying234 .nil .nil)) (.node 238 _ underlying238 (.node 236 _ underlying236 .nil .nil) (.node 239 _ underlying239 .nil .nil)))) (.node 251 _ underlying251 (.node 246 _ underlying246 (.node 244 _ underlying244 (.node 243 _ underlying243 (.node 242 _ underlying242 .nil .nil) .nil) (.node 245 _ underlying245 .nil .nil)) (.node 248 _ underlying248 (.node 247 _ underlying247 .nil .nil) (.node 249 _ underlying249 .nil .nil))) (.node 255 _ underlying255 (.node 253 _ underlying253 (.node 252 _ underlying252 .nil .nil) (.node 254 _ underlying254 .nil .nil)) (.node 257 _ underlying257 (.node 256 _ underlying256 .nil .nil) (.node 258 _ underlying258 .nil .nil))))) (.node 293 _ underlying293 (.node 277 _ underlying277 (.node 267 _ underlying267 (.node 265 _ underlying265 (.node 264 _ underlying264 (.node 260 _ underlying260 .nil .nil) .nil) (.node 266 _ underlying266 .nil .nil)) (.node 273 _ underlying273 (.node 272 _ underlying272 .nil .nil) (.node 275 _ underlying275 .nil .nil))) (.node 286 _ underlying286 (.node 279 _ underlying279 (.node 278 _ underlying278 .nil .nil) (.node 284 _ underlying284 .nil .nil)) (.node 289 _ underlying289 (.node 288 _ underlying288 .nil .nil) (.node 292 _ underlying292 .nil .nil)))) (.node 338 _ underlying338 (.node 323 _ underlying323 (.node 304 _ underlying304 (.node 302 _ underlying302 .nil .nil) (.node 316 _ underlying316 .nil .nil)) (.node 326 _ underlying326 (.node 324 _ underlying324 .nil .nil) (.node 337 _ underlying337 .nil .nil))) (.node 343 _ underlying343 (.node 341 _ underlying341 (.node 340 _ underlying340 .nil .nil) (.node 342 _ underlying342 .nil .nil)) (.node 345 _ underlying345 (.node 344 _ underlying344 .nil .nil) (.node 347 _ underlying347 .nil .nil))))))))
noncomputable def trI:Tre (λT=>prog.info? T):=(.node 148 _ ui148 (.node 74 _ ui74 (.node 34 _ ui34 (.node 17 _ ui17 (.node 9 _ ui9 (.node 5 _ ui5 (.node 3 _ ui3 (.node 2 _ ui2 (.node 1 _ ui1 .nil .nil) .nil) (.node 4 _ ui4 .nil .nil)) (.node 7 _ ui7 (.node 6 _ ui6 .nil .nil) (.node 8 _ ui8 .nil .nil))) (.node 13 _ ui13 (.node 11 _ ui11 (.node 10 _ ui10 .nil .nil) (.node 12 _ ui12 .nil .nil)) (.node 15 _ ui15 (.node 14 _ ui14 .nil .nil) (.node 16 _ ui16 .nil .nil)))) (.node 26 _ ui26 (.node 22 _ ui22 (.node 20 _ ui20 (.node 19 _ ui19 (.node 18 _ ui18 .nil .nil) .nil) (.node 21 _ ui21 .nil .nil)) (.node 24 _ ui24 (.node 23 _ ui23 .nil .nil) (.node 25 _ ui25 .nil .nil))) (.node 30 _ ui30 (.node 28 _ ui28 (.node 27 _ ui27 .nil .nil) (.node 29 _ ui29 .nil .nil)) (.node 32 _ ui32 (.node 31 _ ui31 .nil .nil) (.node 33 _ ui33 .nil .nil))))) (.node 54 _ ui54 (.node 45 _ ui45 (.node 39 _ ui39 (.node 37 _ ui37 (.node 36 _ ui36 (.node 35 _ ui35 .nil .nil) .nil) (.node 38 _ ui38 .nil .nil)) (.node 42 _ ui42 (.node 40 _ ui40 .nil .nil) (.node 43 _ ui43 .nil .nil))) (.node 50 _ ui50 (.node 47 _ ui47 (.node 46 _ ui46 .nil .nil) (.node 49 _ ui49 .nil .nil)) (.node 52 _ ui52 (.node 51 _ ui51 .nil .nil) (.node 53 _ ui53 .nil .nil)))) (.node 64 _ ui64 (.node 60 _ ui60 (.node 58 _ ui58 (.node 57 _ ui57 (.node 55 _ ui55 .nil .nil) .nil) (.node 59 _ ui59 .nil .nil)) (.node 62 _ ui62 (.node 61 _ ui61 .nil .nil) (.node 63 _ ui63 .nil .nil))) (.node 69 _ ui69 (.node 67 _ ui67 (.node 66 _ ui66 .nil .nil) (.node 68 _ ui68 .nil .nil)) (.node 72 _ ui72 (.node 70 _ ui70 .nil .nil) (.node 73 _ ui73 .nil .nil)))))) (.node 114 _ ui114 (.node 93 _ ui93 (.node 83 _ ui83 (.node 79 _ ui79 (.node 77 _ ui77 (.node 76 _ ui76 (.node 75 _ ui75 .nil .nil) .nil) (.node 78 _ ui78 .nil .nil)) (.node 81 _ ui81 (.node 80 _ ui80 .nil .nil) (.node 82 _ ui82 .nil .nil))) (.node 88 _ ui88 (.node 86 _ ui86 (.node 85 _ ui85 .nil .nil) (.node 87 _ ui87 .nil .nil)) (.node 91 _ ui91 (.node 90 _ ui90 .nil .nil) (.node 92 _ ui92 .nil .nil)))) (.node 102 _ ui102 (.node 98 _ ui98 (.node 96 _ ui96 (.node 95 _ ui95 (.node 94 _ ui94 .nil .nil) .nil) (.node 97 _ ui97 .nil .nil)) (.node 100 _ ui100 (.node 99 _ ui99 .nil .nil) (.node 101 _ ui101 .nil .nil))) (.node 108 _ ui108 (.node 105 _ ui105 (.node 103 _ ui103 .nil .nil) (.node 107 _ ui107 .nil .nil)) (.node 111 _ ui111 (.node 109 _ ui109 .nil .nil) (.node 113 _ ui113 .nil .nil))))) (.node 132 _ ui132 (.node 123 _ ui123 (.node 119 _ ui119 (.node 117 _ ui117 (.node 116 _ ui116 (.node 115 _ ui115 .nil .nil) .nil) (.node 118 _ ui118 .nil .nil)) (.node 121 _ ui121 (.node 120 _ ui120 .nil .nil) (.node 122 _ ui122 .nil .nil))) (.node 128 _ ui128 (.node 125 _ ui125 (.node 124 _ ui124 .nil .nil) (.node 127 _ ui127 .nil .nil)) (.node 130 _ ui130 (.node 129 _ ui129 .nil .nil) (.node 131 _ ui131 .nil .nil)))) (.node 140 _ ui140 (.node 136 _ ui136 (.node 134 _ ui134 (.node 133 _ ui133 .nil .nil) (.node 135 _ ui135 .nil .nil)) (.node 138 _ ui138 (.node 137 _ ui137 .nil .nil) (.node 139 _ ui139 .nil .nil))) (.node 144 _ ui144 (.node 142 _ ui142 (.node 141 _ ui141 .nil .nil) (.node 143 _ ui143 .nil .nil)) (.node 146 _ ui146 (.node 145 _ ui145 .nil .nil) (.node 147 _ ui147 .nil .nil))))))) (.node 222 _ ui222 (.node 187 _ ui187 (.node 167 _ ui167 (.node 159 _ ui159 (.node 153 _ ui153 (.node 151 _ ui151 (.node 150 _ ui150 (.node 149 _ ui149 .nil .nil) .nil) (.node 152 _ ui152 .nil .nil)) (.node 155 _ ui155 (.node 154 _ ui154 .nil .nil) (.node 157 _ ui157 .nil .nil))) (.node 163 _ ui163 (.node 161 _ ui161 (.node 160 _ ui160 .nil .nil) (.node 162 _ ui162 .nil .nil)) (.node 165 _ ui165 (.node 164 _ ui164 .nil .nil) (.node 166 _ ui166 .nil .nil)))) (.node 177 _ ui177 (.node 173 _ ui173 (.node 170 _ ui170 (.node 169 _ ui169 (.node 168 _ ui168 .nil .nil) .nil) (.node 171 _ ui171 .nil .nil)) (.node 175 _ ui175 (.node 174 _ ui174 .nil .nil) (.node 176 _ ui176 .nil .nil))) (.node 182 _ ui182 (.node 180 _ ui180 (.node 179 _ ui179 .nil .nil) (.node 181 _ ui181 .nil .nil)) (.node 184 _ ui184 (.node 183 _ ui183 .nil .nil) (.node 185 _ ui185 .nil .nil))))) (.node 205 _ ui205 (.node 196 _ ui196 (.node 192 _ ui192 (.node 190 _ ui190 (.node 189 _ ui189 (.node 188 _ ui188 .nil .nil) .nil) (.node 191 _ ui191 .nil .nil)) (.node 194 _ ui194 (.node 193 _ ui193 .nil .nil) (.node 195 _ ui195 .nil .nil))) (.node 200 _ ui200 (.node 198 _ ui198 (.node 197 _ ui197 .nil .nil) (.node 199 _ ui199 .nil .nil)) (.node 202 _ ui202 (.node 201 _ ui201 .nil .nil) (.node 204 _ ui204 .nil .nil)))) (.node 214 _ ui214 (.node 209 _ ui209 (.node 207 _ ui207 (.node 206 _ ui206 .nil .nil) (.node 208 _ ui208 .nil .nil)) (.node 211 _ ui211 (.node 210 _ ui210 .nil .nil) (.node 213 _ ui213 .nil .nil))) (.node 218 _ ui218 (.node 216 _ ui216 (.node 215 _ ui215 .nil .nil) (.node 217 _ ui217 .nil .nil)) (.node 220 _ ui220 (.node 219 _ ui219 .nil .nil) (.node 221 _ ui221 .nil .nil)))))) (.node 259 _ ui259 (.node 241 _ ui241 (.node 231 _ ui231 (.node 227 _ ui227 (.node 225 _ ui225 (.node 224 _ ui224 (.node 223 _ ui223 .nil .nil) .nil) (.node 226 _ ui226 .nil .nil)) (.node 229 _ ui229 (.node 228 _ ui228 .nil .nil) (.node 230 _ ui230 .nil .nil))) (.node 235 _ ui235 (.node 233 _ ui233 (.node 232 _ ui232 .nil .nil) (.node 234 _ ui234 .nil .nil)) (.node 238 _ ui238 (.node 236 _ ui236 .nil .nil) (.node 239 _ ui239 .nil .nil)))) (.node 251 _ ui251 (.node 246 _ ui246 (.node 244 _ ui244 (.node 243 _ ui243 (.node 242 _ ui242 .nil .nil) .nil) (.node 245 _ ui245 .nil .nil)) (.node 248 _ ui248 (.node 247 _ ui247 .nil .nil) (.node 249 _ ui249 .nil .nil))) (.node 255 _ ui255 (.node 253 _ ui253 (.node 252 _ ui252 .nil .nil) (.node 254 _ ui254 .nil .nil)) (.node 257 _ ui257 (.node 256 _ ui256 .nil .nil) (.node 258 _ ui258 .nil .nil))))) (.node 293 _ ui293 (.node 277 _ ui277 (.node 267 _ ui267 (.node 265 _ ui265 (.node 264 _ ui264 (.node 260 _ ui260 .nil .nil) .nil) (.node 266 _ ui266 .nil .nil)) (.node 273 _ ui273 (.node 272 _ ui272 .nil .nil) (.node 275 _ ui275 .nil .nil))) (.node 286 _ ui286 (.node 279 _ ui279 (.node 278 _ ui278 .nil .nil) (.node 284 _ ui284 .nil .nil)) (.node 289 _ ui289 (.node 288 _ ui288 .nil .nil) (.node 292 _ ui292 .nil .nil)))) (.node 338 _ ui338 (.node 323 _ ui323 (.node 304 _ ui304 (.node 302 _ ui302 .nil .nil) (.node 316 _ ui316 .nil .nil)) (.node 326 _ ui326 (.node 324 _ ui324 .nil .nil) (.node 337 _ ui337 .nil .nil))) (.node 343 _ ui343 (.node 341 _ ui341 (.node 340 _ ui340 .nil .nil) (.node 342 _ ui342 .nil .nil)) (.node 345 _ ui345 (.node 344 _ ui344 .nil .nil) (.node 347 _ ui347 .nil .nil))))))))
noncomputable def trF:Tre (λk=>prog.funcs[k]?):=(.node 137 _ func137 (.node 72 _ func72 (.node 39 _ func39 (.node 24 _ func24 (.node 11 _ func11 (.node 8 _ func8 (.node 5 _ func5 (.node 4 _ func4 .nil .nil) (.node 7 _ func7 .nil .nil)) (.node 10 _ func10 (.node 9 _ func9 .nil .nil) .nil)) (.node 17 _ func17 (.node 15 _ func15 (.node 14 _ func14 .nil .nil) (.node 16 _ func16 .nil .nil)) (.node 23 _ func23 (.node 18 _ func18 .nil .nil) .nil))) (.node 31 _ func31 (.node 28 _ func28 (.node 26 _ func26 (.node 25 _ func25 .nil .nil) (.node 27 _ func27 .nil .nil)) (.node 30 _ func30 (.node 29 _ func29 .nil .nil) .nil)) (.node 36 _ func36 (.node 34 _ func34 (.node 32 _ func32 .nil .nil) (.node 35 _ func35 .nil .nil)) (.node 38 _ func38 (.node 37 _ func37 .nil .nil) .nil)))) (.node 58 _ func58 (.node 51 _ func51 (.node 43 _ func43 (.node 41 _ func41 (.node 40 _ func40 .nil .nil) (.node 42 _ func42 .nil .nil)) (.node 50 _ func50 (.node 44 _ func44 .nil .nil) .nil)) (.node 55 _ func55 (.node 53 _ func53 (.node 52 _ func52 .nil .nil) (.node 54 _ func54 .nil .nil)) (.node 57 _ func57 (.node 56 _ func56 .nil .nil) .nil))) (.node 65 _ func65 (.node 62 _ func62 (.node 60 _ func60 (.node 59 _ func59 .nil .nil) (.node 61 _ func61 .nil .nil)) (.node 64 _ func64 (.node 63 _ func63 .nil .nil) .nil)) (.node 69 _ func69 (.node 67 _ func67 (.node 66 _ func66 .nil .nil) (.node 68 _ func68 .nil .nil)) (.node 71 _ func71 (.node 70 _ func70 .nil .nil) .nil))))) (.node 104 _ func104 (.node 90 _ func90 (.node 83 _ func83 (.node 76 _ func76 (.node 74 _ func74 (.node 73 _ func73 .nil .nil) (.node 75 _ func75 .nil .nil)) (.node 82 _ func82 (.node 81 _ func81 .nil .nil) .nil)) (.node 87 _ func87 (.node 85 _ func85 (.node 84 _ func84 .nil .nil) (.node 86 _ func86 .nil .nil)) (.node 89 _ func89 (.node 88 _ func88 .nil .nil) .nil))) (.node 97 _ func97 (.node 94 _ func94 (.node 92 _ func92 (.node 91 _ func91 .nil .nil) (.node 93 _ func93 .nil .nil)) (.node 96 _ func96 (.node 95 _ func95 .nil .nil) .nil)) (.node 101 _ func101 (.node 99 _ func99 (.node 98 _ func98 .nil .nil) (.node 100 _ func100 .nil .nil)) (.node 103 _ func103 (.node 102 _ func102 .nil .nil) .nil)))) (.node 123 _ func123 (.node 116 _ func116 (.node 108 _ func108 (.node 106 _ func106 (.node 105 _ func105 .nil .nil) (.node 107 _ func107 .nil .nil)) (.node 115 _ func115 (.node 109 _ func109 .nil .nil) .nil)) (.node 120 _ func120 (.node 118 _ func118 (.node 117 _ func117 .nil .nil) (.node 119 _ func119 .nil .nil)) (.node 122 _ func122 (.node 121 _ func121 .nil .nil) .nil))) (.node 131 _ func131 (.node 128 _ func128 (.node 125 _ func125 (.node 124 _ func124 .nil .nil) (.node 126 _ func126 .nil .nil)) (.node 130 _ func130 (.node 129 _ func129 .nil .nil) .nil)) (.node 134 _ func134 (.node 133 _ func133 (.node 132 _ func132 .nil .nil) .nil) (.node 136 _ func136 (.node 135 _ func135 .nil .nil) .nil)))))) (.node 207 _ func207 (.node 174 _ func174 (.node 158 _ func158 (.node 144 _ func144 (.node 141 _ func141 (.node 139 _ func139 (.node 138 _ func138 .nil .nil) (.node 140 _ func140 .nil .nil)) (.node 143 _ func143 (.node 142 _ func142 .nil .nil) .nil)) (.node 148 _ func148 (.node 146 _ func146 (.node 145 _ func145 .nil .nil) (.node 147 _ func147 .nil .nil)) (.node 157 _ func157 (.node 156 _ func156 .nil .nil) .nil))) (.node 167 _ func167 (.node 164 _ func164 (.node 160 _ func160 (.node 159 _ func159 .nil .nil) (.node 161 _ func161 .nil .nil)) (.node 166 _ func166 (.node 165 _ func165 .nil .nil) .nil)) (.node 171 _ func171 (.node 169 _ func169 (.node 168 _ func168 .nil .nil) (.node 170 _ func170 .nil .nil)) (.node 173 _ func173 (.node 172 _ func172 .nil .nil) .nil)))) (.node 191 _ func191 (.node 181 _ func181 (.node 178 _ func178 (.node 176 _ func176 (.node 175 _ func175 .nil .nil) (.node 177 _ func177 .nil .nil)) (.node 180 _ func180 (.node 179 _ func179 .nil .nil) .nil)) (.node 185 _ func185 (.node 183 _ func183 (.node 182 _ func182 .nil .nil) (.node 184 _ func184 .nil .nil)) (.node 190 _ func190 (.node 186 _ func186 .nil .nil) .nil))) (.node 198 _ func198 (.node 195 _ func195 (.node 193 _ func193 (.node 192 _ func192 .nil .nil) (.node 194 _ func194 .nil .nil)) (.node 197 _ func197 (.node 196 _ func196 .nil .nil) .nil)) (.node 204 _ func204 (.node 203 _ func203 (.node 202 _ func202 .nil .nil) .nil) (.node 206 _ func206 (.node 205 _ func205 .nil .nil) .nil))))) (.node 239 _ func239 (.node 221 _ func221 (.node 214 _ func214 (.node 211 _ func211 (.node 209 _ func209 (.node 208 _ func208 .nil .nil) (.node 210 _ func210 .nil .nil)) (.node 213 _ func213 (.node 212 _ func212 .nil .nil) .nil)) (.node 218 _ func218 (.node 216 _ func216 (.node 215 _ func215 .nil .nil) (.node 217 _ func217 .nil .nil)) (.node 220 _ func220 (.node 219 _ func219 .nil .nil) .nil))) (.node 231 _ func231 (.node 225 _ func225 (.node 223 _ func223 (.node 222 _ func222 .nil .nil) (.node 224 _ func224 .nil .nil)) (.node 230 _ func230 (.node 229 _ func229 .nil .nil) .nil)) (.node 236 _ func236 (.node 234 _ func234 (.node 233 _ func233 .nil .nil) (.node 235 _ func235 .nil .nil)) (.node 238 _ func238 (.node 237 _ func237 .nil .nil) .nil)))) (.node 256 _ func256 (.node 246 _ func246 (.node 243 _ func243 (.node 241 _ func241 (.node 240 _ func240 .nil .nil) (.node 242 _ func242 .nil .nil)) (.node 245 _ func245 (.node 244 _ func244 .nil .nil) .nil)) (.node 252 _ func252 (.node 248 _ func248 (.node 247 _ func247 .nil .nil) (.node 251 _ func251 .nil .nil)) (.node 255 _ func255 (.node 254 _ func254 .nil .nil) .nil))) (.node 272 _ func272 (.node 264 _ func264 (.node 258 _ func258 (.node 257 _ func257 .nil .nil) (.node 259 _ func259 .nil .nil)) (.node 266 _ func266 (.node 265 _ func265 .nil .nil) .nil)) (.node 275 _ func275 (.node 274 _ func274 (.node 273 _ func273 .nil .nil) .nil) (.node 279 _ func279 (.node 278 _ func278 .nil .nil) .nil)))))))
theorem ue61:(if prog.stoodInHeld 61=false∧prog.eqGuardType prog.depth 61=false then some () else none)=some ():=if_pos ⟨stoodInHeld61,eqGuardType61⟩
noncomputable def trE:Tre (λT=>if prog.stoodInHeld T=false∧prog.eqGuardType prog.depth T=false then some () else none):=(.node 61 () ue61 .nil .nil)
noncomputable instance:Tb prog:=⟨trU,trI,trF,trE⟩
end
section
abbrev al_:Ty:=(.pair .int (.one .int))
abbrev ab_:Type:=(Int×Int)
abbrev ar_:Ty:=(.pair .int al_)
abbrev ag_:Type:=(Int×ab_)
abbrev ca_:Ty:=(.pair .int (.pair .int (.one .bool)))
abbrev bg_:Type:=(Int×(Int×Bool))
abbrev ql_:Ty:=(.pair .str ar_)
abbrev gw_:Type:=((List UInt8)×ag_)
abbrev cv_:Ty:=(.pair ar_ (.one .int))
abbrev ac_:Type:=(ag_×Int)
abbrev aq_:Ty:=(.pair (.list .int) (.pair (.list .int) (.one (.list .int))))
abbrev ai_:Type:=((List Int)×((List Int)×(List Int)))
abbrev pb_:Ty:=(.pair .str (.pair .int (.one (.list ca_))))
abbrev jv_:Type:=((List UInt8)×(Int×(List bg_)))
abbrev ai2:Ty:=(.pair .int (.pair .int (.one (.list ca_))))
abbrev ot_:Type:=(Int×(Int×(List bg_)))
abbrev yq_:Ty:=(.pair (.list ca_) (.one al_))
abbrev qc_:Type:=((List bg_)×ab_)
abbrev aj_:Ty:=(.pair aq_ (.one (.list .bool)))
abbrev aa_:Type:=(ai_×(List Bool))
abbrev ap_:Ty:=(.pair .int (.pair .int (.pair .int (.pair .int (.pair .int (.pair (.list .int) (.one .bool)))))))
abbrev ak_:Type:=(Int×(Int×(Int×(Int×(Int×((List Int)×Bool))))))
abbrev mm_:Ty:=(.pair (.list aj_) (.one (.list (.list cv_))))
abbrev cf_:Type:=((List aa_)×(List (List ac_)))
abbrev ly_:Ty:=(.pair .str (.pair .int (.pair .int (.pair (.list .int) (.pair (.list ca_) (.pair (.list al_) (.pair (.list .int) (.one (.list .int)))))))))
abbrev cu_:Type:=((List UInt8)×(Int×(Int×((List Int)×((List bg_)×((List ab_)×((List Int)×(List Int))))))))
abbrev pc_:Ty:=(.pair .str (.pair .int (.pair .int (.pair (.list ca_) (.one ap_)))))
abbrev co_:Type:=((List UInt8)×(Int×(Int×((List bg_)×ak_))))
abbrev an_:Ty:=(.pair (.list .str) (.pair (.list ql_) (.pair (.list pb_) (.pair (.list ai2) (.pair (.list ly_) (.pair (.list yq_) (.pair .int (.one (.list ca_)))))))))
abbrev ae_:Type:=((List (List UInt8))×((List gw_)×((List jv_)×((List ot_)×((List cu_)×((List qc_)×(Int×(List bg_))))))))
abbrev fa_:Ty:=(.pair an_ (.one aq_))
abbrev hf_:Type:=(ae_×ai_)
abbrev ao_:Ty:=(.pair an_ (.pair (.list al_) (.pair (.list (.list .int)) (.pair (.list pc_) (.one .int)))))
abbrev ad_:Type:=(ae_×((List ab_)×((List (List Int))×((List co_)×Int))))
def pow10V:List Value:=(List.range 20).map λi=>.int .u64 ((10 ^ i:Nat):Int)
def reserved:List (List UInt8):=[[97,116],[115,116,97,116,101,115],[115,116,97,114,116],[103,111,110,101],[105,102],[108,111,99,107],[119,105,116,104],[115,101,116,115],[115,112,101,110,100,115],[98,114,105,110,103,115]]
instance :Gb:=⟨λg=>cond (Nat.beq g 0) (some ⟨.list .str,reserved⟩) none,λc p=>cond (Nat.beq c 398460928) true (cond (Nat.blt c 398460928) (cond (Nat.beq c 226500609) (cond (eqS p "ref.go:66") true false) (cond (Nat.blt c 226500609) (cond (Nat.beq c 130025472) true (cond (Nat.blt c 130025472) (cond (Nat.beq c 12591103) true (cond (Nat.blt c 12591103) (cond (Nat.beq c 12587008) true (cond (Nat.blt c 12587008) (cond (Nat.beq c 12584960) true (cond (Nat.blt c 12584960) (false) (false))) (cond (Nat.beq c 12589057) true (cond (Nat.blt c 12589057) (false) (false))))) (cond (Nat.beq c 37756929) true (cond (Nat.blt c 37756929) (cond (Nat.beq c 12593154) true (cond (Nat.blt c 12593154) (false) (false))) (false))))) (cond (Nat.beq c 150999040) true (cond (Nat.blt c 150999040) (cond (Nat.beq c 130029568) true (cond (Nat.blt c 130029568) (cond (Nat.beq c 130027520) true (cond (Nat.blt c 130027520) (false) (false))) (cond (Nat.beq c 150996992) true (cond (Nat.blt c 150996992) (false) (false))))) (cond (Nat.beq c 226498560) true (cond (Nat.blt c 226498560) (cond (Nat.beq c 151001088) (cond (eqS p "ref.go:66") true (cond (eqS p "ref.go:215") true (cond (eqS p "ref.go:196") true (cond (eqS p "ref.go:152") true (cond (eqS p "ref.go:147") true (cond (eqS p "ref.go:141") true (cond (eqS p "ref.go:121") true (cond (eqS p "prove.go:304") true (cond (eqS p "prove.go:113") true (cond (eqS p "play.go:35") true (cond (eqS p "play.go:248") true false))))))))))) (cond (Nat.blt c 151001088) (false) (false))) (false))))))) (cond (Nat.beq c 289411072) true (cond (Nat.blt c 289411072) (cond (Nat.beq c 264243200) true (cond (Nat.blt c 264243200) (cond (Nat.beq c 255858689) (cond (eqS p "room.go:255") true (cond (eqS p "room.go:223") true false)) (cond (Nat.blt c 255858689) (cond (Nat.beq c 230692865) true (cond (Nat.blt c 230692865) (false) (false))) (cond (Nat.beq c 255862786) true (cond (Nat.blt c 255862786) (false) (false))))) (cond (Nat.beq c 264247296) true (cond (Nat.blt c 264247296) (cond (Nat.beq c 264245248) (cond (eqS p "ref.go:63") true (cond (eqS p "prove.go:313") true false)) (cond (Nat.blt c 264245248) (false) (false))) (false))))) (cond (Nat.beq c 335552513) true (cond (Nat.blt c 335552513) (cond (Nat.beq c 335548416) true (cond (Nat.blt c 335548416) (cond (Nat.beq c 335546368) (cond (eqS p "ref.go:14") true (cond (eqS p "play.go:30") true false)) (cond (Nat.blt c 335546368) (false) (false))) (cond (Nat.beq c 335550465) true (cond (Nat.blt c 335550465) (false) (false))))) (cond (Nat.beq c 343943170) true (cond (Nat.blt c 343943170) (cond (Nat.beq c 343937024) true (cond (Nat.blt c 343937024) (false) (false))) (false))))))))) (cond (Nat.beq c 570431488) true (cond (Nat.blt c 570431488) (cond (Nat.beq c 486541312) true (cond (Nat.blt c 486541312) (cond (Nat.beq c 406849536) true (cond (Nat.blt c 406849536) (cond (Nat.beq c 398465025) (cond (eqS p "room.go:337") true (cond (eqS p "room.go:291") true (cond (eqS p "room.go:151") true (cond (eqS p "ref.go:336") true (cond (eqS p "ref.go:254") true (cond (eqS p "ref.go:235") true (cond (eqS p "ref.go:182") true false))))))) (cond (Nat.blt c 398465025) (cond (Nat.beq c 398462976) true (cond (Nat.blt c 398462976) (false) (false))) (cond (Nat.beq c 398467073) true (cond (Nat.blt c 398467073) (false) (false))))) (cond (Nat.beq c 406855681) true (cond (Nat.blt c 406855681) (cond (Nat.beq c 406853633) (cond (eqS p "ref.go:94") true (cond (eqS p "ref.go:60") true (cond (eqS p "ref.go:170") true (cond (eqS p "play.go:95") true (cond (eqS p "play.go:230") true (cond (eqS p "play.go:132") true false)))))) (cond (Nat.blt c 406853633) (false) (false))) (false))))) (cond (Nat.beq c 511711232) true (cond (Nat.blt c 511711232) (cond (Nat.beq c 486545408) true (cond (Nat.blt c 486545408) (cond (Nat.beq c 486543360) true (cond (Nat.blt c 486543360) (false) (false))) (cond (Nat.beq c 511707136) true (cond (Nat.blt c 511707136) (false) (false))))) (cond (Nat.beq c 570427392) true (cond (Nat.blt c 570427392) (cond (Nat.beq c 511715330) true (cond (Nat.blt c 511715330) (false) (false))) (false))))))) (cond (Nat.beq c 1036003330) true (cond (Nat.blt c 1036003330) (cond (Nat.beq c 683673600) true (cond (Nat.blt c 683673600) (cond (Nat.beq c 599789568) true (cond (Nat.blt c 599789568) (cond (Nat.beq c 591400960) true (cond (Nat.blt c 591400960) (false) (false))) (cond (Nat.beq c 637540353) true (cond (Nat.blt c 637540353) (false) (false))))) (cond (Nat.beq c 901779456) true (cond (Nat.blt c 901779456) (cond (Nat.beq c 683677696) true (cond (Nat.blt c 683677696) (false) (false))) (false))))) (cond (Nat.beq c 1191192578) true (cond (Nat.blt c 1191192578) (cond (Nat.beq c 1052780546) true (cond (Nat.blt c 1052780546) (cond (Nat.beq c 1044391938) true (cond (Nat.blt c 1044391938) (false) (false))) (cond (Nat.beq c 1161828353) true (cond (Nat.blt c 1161828353) (false) (false))))) (cond (Nat.beq c 1207963648) true (cond (Nat.blt c 1207963648) (cond (Nat.beq c 1207961600) true (cond (Nat.blt c 1207961600) (false) (false))) (false)))))))))),λc=>cond (Nat.beq c 138545152) (some []) (cond (Nat.blt c 138545152) (none) (none)),λc=>cond (Nat.beq c 230879325) true (cond (Nat.blt c 230879325) (cond (Nat.beq c 230871129) true (cond (Nat.blt c 230871129) (false) (false))) (false)),λc=>none,λg=>cond (Nat.beq g 1) (some pow10V) none⟩
end
end Go.Proofs.YtgeehfnbhbibeaaGreatDoor.Rx
namespace Go.Proofs
section
set_option maxRecDepth 100000
def Tryz.lays121_ren:Go.Shelf.Ren:=⟨λ| 121=>190 | 214=>228 | n=>n,λ| 4=>4 | 9=>9 | n=>n,λ| n=>n⟩
theorem Tryz.lays121:Go.Proofs.Lays.n121 Tryz.prog Tryz.lays121_ren:={
 mixed:=by kernel_rfl
 f121:=Tryz.func190.trans (congrArg some (by kernel_rfl))
 f214:=Tryz.func228.trans (congrArg some (by kernel_rfl))
 t4:=Tryz.underlying4
 a4:=Tryz.isAgg4
 z4:=Tryz.sizeOf4
 v4:=Tryz.zeroValue4
 t9:=Tryz.underlying9
 a9:=Tryz.isAgg9
 z9:=Tryz.sizeOf9
 v9:=Tryz.zeroValue9 }
def Tryz.lays169_ren:Go.Shelf.Ren:=⟨λ| 169=>189 | n=>n,λ| 70=>257 | 9=>9 | 0=>0 | 72=>260 | 37=>258 | 127=>293 | 3=>3 | 5=>5 | n=>n,λ| n=>n⟩
theorem Tryz.lays169:Go.Proofs.Lays.n169 Tryz.prog Tryz.lays169_ren:={
 mixed:=by kernel_rfl
 f169:=Tryz.func189.trans (congrArg some (by kernel_rfl))
 t0:=Tryz.underlying0
 a0:=Tryz.isAgg0
 z0:=Tryz.sizeOf0
 v0:=Tryz.zeroValue0
 t3:=Tryz.underlying3
 a3:=Tryz.isAgg3
 z3:=Tryz.sizeOf3
 v3:=Tryz.zeroValue3
 t9:=Tryz.underlying9
 a9:=Tryz.isAgg9
 z9:=Tryz.sizeOf9
 v9:=Tryz.zeroValue9
 t37:=Tryz.underlying258
 a37:=Tryz.isAgg258
 z37:=Tryz.sizeOf258
 v37:=Tryz.zeroValue258
 t70:=Tryz.underlying257
 a70:=Tryz.isAgg257
 z70:=Tryz.sizeOf257
 v70:=Tryz.zeroValue257
 t72:=Tryz.underlying260
 a72:=Tryz.isAgg260
 z72:=Tryz.sizeOf260
 v72:=Tryz.zeroValue260
 t127:=Tryz.underlying293
 a127:=Tryz.isAgg293
 z127:=Tryz.sizeOf293
 v127:=Tryz.zeroValue293 }
theorem Tryz.Builder_Extra_169:Builder.Extra Tryz.prog Tryz.lays169_ren:={
 sizeBuilder:=by kernel_rfl
 liesBuilder:=by kernel_rfl
 t5:=Tryz.underlying5
 a5:=Tryz.isAgg5
 z5:=Tryz.sizeOf5
 v5:=Tryz.zeroValue5
 infoByte:=by kernel_rfl
 cellsByte:=by kernel_rfl
 sizeByte:=by kernel_rfl
 neB5:=by decide }
def Tryz.laysM171_ren:Go.Shelf.Ren:=⟨λ| 171=>188 | 243=>227 | 246=>250 | 283=>260 | 284=>261 | 285=>262 | 286=>263 | 129=>268 | 317=>267 | 318=>269 | 319=>270 | 320=>271 | 337=>276 | 338=>277 | n=>n,λ| 3=>3 | 9=>9 | 2=>2 | 4=>4 | 171=>317 | 0=>0 | 53=>239 | 37=>258 | 5=>5 | 173=>320 | 212=>328 | 51=>236 | 20=>20 | 213=>329 | 46=>211 | 232=>334 | 233=>335 | n=>n,λ| 17=>1 | 18=>2 | 19=>3 | n=>n⟩
theorem Tryz.laysM171:Go.Proofs.LaysM.n171 Tryz.prog Tryz.laysM171_ren:={
 mixed:=by kernel_rfl
 f129:=Tryz.func268.trans (congrArg some (by kernel_rfl))
 f171:=Tryz.func188.trans (congrArg some (by kernel_rfl))
 f243:=Tryz.func227.trans (congrArg some (by kernel_rfl))
 f246:=Tryz.func250.trans (congrArg some (by kernel_rfl))
 f283:=Tryz.func260.trans (congrArg some (by kernel_rfl))
 f284:=Tryz.func261.trans (congrArg some (by kernel_rfl))
 f285:=Tryz.func262.trans (congrArg some (by kernel_rfl))
 f286:=Tryz.func263.trans (congrArg some (by kernel_rfl))
 f317:=Tryz.func267.trans (congrArg some (by kernel_rfl))
 f318:=Tryz.func269.trans (congrArg some (by kernel_rfl))
 f319:=Tryz.func270.trans (congrArg some (by kernel_rfl))
 f320:=Tryz.func271.trans (congrArg some (by kernel_rfl))
 f337:=Tryz.func276.trans (congrArg some (by kernel_rfl))
 f338:=Tryz.func277.trans (congrArg some (by kernel_rfl))
 t0:=Tryz.underlying0
 a0:=Tryz.isAgg0
 z0:=Tryz.sizeOf0
 v0:=Tryz.zeroValue0
 t2:=Tryz.underlying2
 a2:=Tryz.isAgg2
 z2:=Tryz.sizeOf2
 v2:=Tryz.zeroValue2
 t3:=Tryz.underlying3
 a3:=Tryz.isAgg3
 z3:=Tryz.sizeOf3
 v3:=Tryz.zeroValue3
 t4:=Tryz.underlying4
 a4:=Tryz.isAgg4
 z4:=Tryz.sizeOf4
 v4:=Tryz.zeroValue4
 t5:=Tryz.underlying5
 a5:=Tryz.isAgg5
 z5:=Tryz.sizeOf5
 v5:=Tryz.zeroValue5
 t9:=Tryz.underlying9
 a9:=Tryz.isAgg9
 z9:=Tryz.sizeOf9
 v9:=Tryz.zeroValue9
 t20:=Tryz.underlying20
 a20:=Tryz.isAgg20
 z20:=Tryz.sizeOf20
 v20:=Tryz.zeroValue20
 t37:=Tryz.underlying258
 a37:=Tryz.isAgg258
 z37:=Tryz.sizeOf258
 v37:=Tryz.zeroValue258
 t46:=Tryz.underlying211
 a46:=Tryz.isAgg211
 z46:=Tryz.sizeOf211
 v46:=Tryz.zeroValue211
 t51:=Tryz.underlying236
 a51:=Tryz.isAgg236
 z51:=Tryz.sizeOf236
 v51:=Tryz.zeroValue236
 t53:=Tryz.underlying239
 a53:=Tryz.isAgg239
 z53:=Tryz.sizeOf239
 v53:=Tryz.zeroValue239
 t171:=Tryz.underlying317
 a171:=Tryz.isAgg317
 z171:=Tryz.sizeOf317
 v171:=Tryz.zeroValue317
 t173:=Tryz.underlying320
 a173:=Tryz.isAgg320
 z173:=Tryz.sizeOf320
 v173:=Tryz.zeroValue320
 t212:=Tryz.underlying328
 a212:=Tryz.isAgg328
 z212:=Tryz.sizeOf328
 v212:=Tryz.zeroValue328
 t213:=Tryz.underlying329
 a213:=Tryz.isAgg329
 z213:=Tryz.sizeOf329
 t232:=Tryz.underlying334
 a232:=Tryz.isAgg334
 z232:=Tryz.sizeOf334
 v232:=Tryz.zeroValue334
 t233:=Tryz.underlying335
 a233:=Tryz.isAgg335
 z233:=Tryz.sizeOf335
 v233:=Tryz.zeroValue335
 g17:=by kernel_rfl
 g18:=by kernel_rfl
 g19:=by kernel_rfl
 i0:=by kernel_rfl
 i2:=by kernel_rfl
 i3:=by kernel_rfl
 i4:=by kernel_rfl
 i5:=by kernel_rfl
 i9:=by kernel_rfl
 i20:=by kernel_rfl
 i37:=by kernel_rfl
 i46:=by kernel_rfl
 i51:=by kernel_rfl
 i53:=by kernel_rfl
 i171:=by kernel_rfl
 i173:=by kernel_rfl
 i212:=by kernel_rfl
 i232:=by kernel_rfl
 i233:=by kernel_rfl
 m17:=by kernel_rfl
 m18:=by kernel_rfl
 m19:=by kernel_rfl }
def Tryz.lays166_ren:Go.Shelf.Ren:=⟨λ| 166=>187 | 240=>226 | 276=>249 | n=>n,λ| 0=>0 | 3=>3 | 4=>4 | 9=>9 | 20=>20 | 37=>258 | 70=>257 | 72=>260 | 75=>262 | 164=>308 | 5=>5 | 80=>265 | n=>n,λ| n=>n⟩
theorem Tryz.lays166:Go.Proofs.Lays.n166 Tryz.prog Tryz.lays166_ren:={
 mixed:=by kernel_rfl
 f166:=Tryz.func187.trans (congrArg some (by kernel_rfl))
 f240:=Tryz.func226.trans (congrArg some (by kernel_rfl))
 f276:=Tryz.func249.trans (congrArg some (by kernel_rfl))
 t0:=Tryz.underlying0
 a0:=Tryz.isAgg0
 z0:=Tryz.sizeOf0
 v0:=Tryz.zeroValue0
 t3:=Tryz.underlying3
 a3:=Tryz.isAgg3
 z3:=Tryz.sizeOf3
 v3:=Tryz.zeroValue3
 t4:=Tryz.underlying4
 a4:=Tryz.isAgg4
 z4:=Tryz.sizeOf4
 v4:=Tryz.zeroValue4
 t9:=Tryz.underlying9
 a9:=Tryz.isAgg9
 z9:=Tryz.sizeOf9
 v9:=Tryz.zeroValue9
 t20:=Tryz.underlying20
 a20:=Tryz.isAgg20
 z20:=Tryz.sizeOf20
 v20:=Tryz.zeroValue20
 t37:=Tryz.underlying258
 a37:=Tryz.isAgg258
 z37:=Tryz.sizeOf258
 v37:=Tryz.zeroValue258
 t70:=Tryz.underlying257
 a70:=Tryz.isAgg257
 z70:=Tryz.sizeOf257
 v70:=Tryz.zeroValue257
 t72:=Tryz.underlying260
 a72:=Tryz.isAgg260
 z72:=Tryz.sizeOf260
 v72:=Tryz.zeroValue260
 t75:=Tryz.underlying262
 a75:=Tryz.isAgg262
 z75:=Tryz.sizeOf262
 v75:=Tryz.zeroValue262
 t164:=Tryz.underlying308
 a164:=Tryz.isAgg308
 z164:=Tryz.sizeOf308
 v164:=Tryz.zeroValue308 }
theorem Tryz.Builder_Extra_166:Builder.Extra Tryz.prog Tryz.lays166_ren:={
 sizeBuilder:=by kernel_rfl
 liesBuilder:=by kernel_rfl
 t5:=Tryz.underlying5
 a5:=Tryz.isAgg5
 z5:=Tryz.sizeOf5
 v5:=Tryz.zeroValue5
 infoByte:=by kernel_rfl
 cellsByte:=by kernel_rfl
 sizeByte:=by kernel_rfl
 neB5:=by decide }
open Go.RowKit in
theorem aa6 (b:Bool) (w:World):Calls Tryz.prog 190 #[.bool b] w λe w'=>e = .returned (.string ⟨(Lib.formatBool b).toArray⟩)∧w'=w:=Any.strconv_FormatBool Tryz.lays121 b w
open Go.RowKit Go.Sort Go.Lib in
theorem sh_Itoa (n:Int) (h0 : -9223372036854775808≤n) (h1:n≤9223372036854775807) (w:World) (htab:Lib.TabIs Tryz.prog w "internal/strconv.uint64pow10" .u64 Lib.pow10Tab) :
  Calls Tryz.prog 188 #[.int .i64 n] w λe w'=>e = .returned (.string ⟨(Lib.itoa n).toArray⟩)∧∃ k os,w'=grow (w.drewN k) os:=Any.strconv_Itoa Tryz.laysM171 n h0 h1 w htab
open Go.RowKit in
theorem bn2 (B b:Nat) (l:List UInt8) (w:World) (h:Lib.IsBuilderF 260 5 B b (Lib.byteCells l) w) (hBw:B≤w.heap.size) :
  Calls Tryz.prog 189 #[.pointer (some ⟨b,0,none⟩)] w λe w'=>e = .returned (.string ⟨l.toArray⟩)∧(Lib.IsBuilderF 260 5 B b (Lib.byteCells l) w'∧Below B w w'∧Lib.OthersKept 5 (some b) w w'):=Any.Builder_String_any_k Tryz.lays169 Tryz.Builder_Extra_169 B b l w h hBw
open Go.RowKit in
theorem ye_ (B b:Nat) (bs:List Value) (s:ByteArray) (w:World) (h:Lib.IsBuilderF 260 5 B b bs w) (hlen:bs.length+s.size≤140737488355328) (hBw:B≤w.heap.size) :
  Calls Tryz.prog 187 #[.pointer (some ⟨b,0,none⟩),.string s] w λe w'=>e = .returned (.tuple #[.int .i64 s.size,.nilIface])∧(Lib.BuilderAtF 260 5 B b (.pointer (some ⟨b,0,none⟩)) (bs++Lib.strCells s) w'∧Below B w w'∧Lib.OthersKept 5 (some b) w w'):=Any.Builder_WriteString_k Tryz.lays166 Tryz.Builder_Extra_166 B b bs s w h hlen hBw
def Tryz.lays212_ren:Go.Shelf.Ren:=⟨λ| 212=>127 | 263=>162 | 264=>163 | n=>n,λ| 46=>211 | 51=>236 | 146=>237 | 53=>239 | 148=>240 | n=>n,λ| n=>n⟩
theorem Tryz.lays212:Go.Proofs.Lays.n212 Tryz.prog Tryz.lays212_ren:={
 mixed:=by kernel_rfl
 f212:=Tryz.func127.trans (congrArg some (by kernel_rfl))
 f263:=Tryz.func162.trans (congrArg some (by kernel_rfl))
 f264:=Tryz.func163.trans (congrArg some (by kernel_rfl))
 t46:=Tryz.underlying211
 a46:=Tryz.isAgg211
 z46:=Tryz.sizeOf211
 v46:=Tryz.zeroValue211
 t51:=Tryz.underlying236
 a51:=Tryz.isAgg236
 z51:=Tryz.sizeOf236
 v51:=Tryz.zeroValue236
 t53:=Tryz.underlying239
 a53:=Tryz.isAgg239
 z53:=Tryz.sizeOf239
 v53:=Tryz.zeroValue239
 t146:=Tryz.underlying237
 a146:=Tryz.isAgg237
 z146:=Tryz.sizeOf237
 v146:=Tryz.zeroValue237
 t148:=Tryz.underlying240
 a148:=Tryz.isAgg240
 z148:=Tryz.sizeOf240
 v148:=Tryz.zeroValue240 }
theorem sh_Mul (x y:Nat) (hx:x<18446744073709551616) (hy:y<18446744073709551616) (w:World) :
  Calls Tryz.prog 127 #[.int .u64 x,.int .u64 y] w λe w'=>e = .returned (.tuple #[.int .u64 ((x * y / 18446744073709551616:Nat):Int),.int .u64 ((x * y % 18446744073709551616:Nat):Int)])∧w'=w:=Any.bits_Mul Tryz.lays212 x y hx hy w
end
end Go.Proofs
namespace Go.Proofs.YtgeehfnbhbibeaaGreatDoor.Rx
open Go Pad Rex Go.Proofs Go.RowKit Go.Proofs.Tryz Sum
section
set_option maxRecDepth 100000
set_option maxHeartbeats 400000
def dx_ (a0:Bool):Option ((List UInt8)×Unit):=cond a0 (some ([116,114,117,101],())) (some ([102,97,108,115,101],()))
theorem ok_190:cd9 prog 190 [.bool] [.str] (λx=>dx_ x.1):=by
 intro w S Fr hv vs x r hG hI ha hF
 match vs,ha with
 | [v],⟨hv1,_⟩ =>
  obtain rfl:v = .bool x.1:=ee_ (a:=ofD .bool x.1) (by rw[br5];exact hv1) (by cases x.1<;>rfl)
  refine (aa6 x.1 w).mono λe w' he => ?_
  obtain⟨rfl,rfl⟩:=he
  refine⟨S,[],PH.Le.refl _,hI,rfl,?_⟩
  have e1:r.1=Lib.formatBool x.1:=by
   obtain⟨b,u⟩:=x
   cases b with
   | true=>obtain rfl:=a6_ hF;rfl
   | false=>obtain rfl:=a6_ hF;rfl
  have:=bg1 (hv:=λ_=>undef) (S:=S) r.1
  rw[← e1]
  exact this
noncomputable def c_190:Con prog:=cnv 190 [.bool] [.str] (λx=>dx_ x.1) ok_190
theorem sa_ {w w':World} {S:PH} {O:List HP} {B:Nat} (h:Inv w S O) (hB:B=w.heap.size) (hb:Below B w w'):Inv w' S O:=by
 subst hB
 exact h.world hb.os hb.output λb o e=>(hb.block b (j0_.1 e).1).trans e
theorem co9 {T e:TypeId} {B b:Nat} {bs:List Value} {w w':World} (hk:∀ (k:Nat) (o:Obj),w.heap[k]?=some o→w'.heap[k]?=some o) (h:Lib.IsBuilderF T e B b bs w):Lib.IsBuilderF T e B b bs w':=by
 have key:∀ {p:Value},Lib.BuilderAtF T e B b p bs w→Lib.BuilderAtF T e B b p bs w':=by
  rintro p ⟨h1,v,h2,⟨h3,h4⟩,h5⟩
  refine⟨h1,v,hk _ _ h2,⟨h3,?_⟩,h5⟩
  rcases h4 with h4 | ⟨g,cap,cur,fz,g1,g2,g3,g4⟩
  ·exact .inl h4
  ·exact .inr ⟨g,cap,cur,fz,g1,g2,hk _ _ g3,g4⟩
 exact h.elim (λh=>.inl (key h)) λh=>.inr (key h)
theorem am7 {w:World} {n:Nat} {os:Array Obj}:∀ (k:Nat) (o:Obj),w.heap[k]?=some o→(Go.Sort.grow (w.drewN n) os).heap[k]?=some o:=by
 intro k o h
 show (w.heap++os)[k]?=some o
 rw[Array.getElem?_append_left (j0_.1 h).1]
 exact h
theorem tab_is {w:World} {S:PH} {O:List HP} (hG:GlS S) (hI:Inv w S O):Lib.TabIs prog w "internal/strconv.uint64pow10" .u64 Lib.pow10Tab:=by
 obtain⟨T,fz,h⟩:=hG.2 1 pow10V rfl
 have h2:=Own.in_ hI.own _ _ h
 unfold Lib.TabIs World.var?
 rw[laysM171.m17]
 show (match w.heap[1]? with
  | some (.cells cs _ _)=>some cs
  | _=>none)=_
 rw[h2]
 simp[pow10V,Lib.pow10Tab]
def ce5 (n:Int):List UInt8:=Lib.itoa n++[32]
def al2 (l:List Int):List UInt8:=l.flatMap ce5
def hg_ (ls:List (List Int)):List UInt8:=ls.flatMap al2
def inI (n:Int):Bool:=decide (-9223372036854775808≤n)&&decide (n≤9223372036854775807)
def fl_ (a0:List (List Int)):Option ((List UInt8)×Unit):=cond (a0.all (λl=>l.all inI)&&Nat.ble (hg_ a0).length 2147483648) (some (hg_ a0,())) none
def NInv (v:Value) (n:Nat) (w0:World) (b:Nat) (acc:List UInt8) (f:Pad.Fr) (w:World):Prop :=
 Below w0.heap.size w0 w∧Lib.IsBuilderF 260 5 w0.heap.size b (Lib.byteCells acc) w∧f 3 = .pointer (some ⟨b,0,none⟩)∧f 8=v∧f 9 = .int .i64 n∧f.ds=[]
theorem bx8:∀ (k i:Nat),forS (λ(_:Nat) (_:Unit)=>some ()) k i ()=some ()
 | 0,_=>rfl
 | k+1,i=>bx8 k (i+1)
theorem sh45:Shape prog 55 false 1:=ys_ (by kernel_rfl)
theorem sh3':Shape prog 3 false 1:=ys_ (by kernel_rfl)
theorem cb_187:ei_ prog 187:=⟨_,func187,rfl,by kernel_rfl⟩
theorem cb_188:ei_ prog 188:=⟨_,func188,rfl,by kernel_rfl⟩
theorem cb_189:ei_ prog 189:=⟨_,func189,rfl,by kernel_rfl⟩
theorem az3 {P:Program} {n k d:Nat} {ro:Option Nat} {f:Pad.Fr} {w:World} {K:Pad.Fr→World→Prop} {ty:TypeId} {pos:String} {af:Array Edge} {gd:Option (Nat×Bool)} {vs:List Value} {g:Operand} {args:Array Operand} {ct:Array TypeId} {R:Ending→World→Prop}
  (hd:Nat.blt d n=true) (hk:ei_ P k) (hg:ev f g = .func (.func k) #[] #[]) (hargs:(args.map (ev f)) ++ #[]=vs.toArray) (hc:Calls P k vs.toArray w R) (kont:∀ e w',R e w'→∃ v,e = .returned v∧K (upd f d v) w') :
  OP P n ro ⟨some d,.call ⟨.value g,args,ct⟩,ty,pos,af,gd⟩ f w K :=
 lw_ (rm_ hk hg hargs) hc λe w' he=>by
  obtain⟨v,h1,h2⟩:=kont e w' he
  exact⟨v,h1,hd,h2⟩
theorem str_op {P:Program} [Tb P] {f:Pad.Fr} {w:World} {d:Nat} {x y:Operand} {ty T2:TypeId} {pos:String} {af:Array Edge} {gd:Option (Nat×Bool)} {a b c:Str} (hx:Pad.ev f x = .string ⟨a.toArray⟩) (hy:Pad.ev f y = .string ⟨b.toArray⟩) (h:cat? a b=some c) :
  (execOp (Pad.ev f) ⟨some d,.binOp .add 9 x y T2,ty,pos,af,gd⟩).run P w = .ok (.value (.string ⟨c.toArray⟩)) w:=by
 have h1:=bn9 (P:=P) (T:=9) (w:=w) h
 have h2:=ge_ (P:=P) (T:=9) (op:=.add) (w:=w) (X:=x) (Y:=y) (v:=.string ⟨a.toArray⟩) (u:=.string ⟨b.toArray⟩) trivial
 simp[execOp,Sem.run_bind,hx,hy,h1,h2,Result.andThen]
theorem bs0 {w:World} {S:PH} {Fr:List HP} {v:Value} {ls:List (List Int)} (hG:GlS S) (hI:Inv w S Fr) (hr:RVt (.list (.list .int)) S v ls) (hin:(ls.all λl=>l.all inI)=true) (hlen:(hg_ ls).length≤2147483648) :
  Calls prog 142 [v].toArray w λe w'=>e = .returned (.string ⟨(hg_ ls).toArray⟩)∧Inv w' S Fr:=by
 letI:Enc (List Int):=(Ty.list .int).enc
 letI:Enc Int:=Ty.int.enc
 obtain⟨a0,cap0,hv2,_,hmax,_⟩:=@hw_ (List Int) (Ty.list .int).enc S v ls hr
 have hk0:ls.length≤9223372036854775807:=by
  unfold maxLen at hmax
  omega
 refine rb_ (n:=27) func142 rfl rfl rfl ?_
 refine bi_ (bd_ (wa_ (v:=.string ⟨#[]⟩) rfl rfl (dk_ ?_)))
 have hz:=zeroValue260
 refine bi_ (bd_ (wo_ (cw_ (v:=.pointer (some ⟨w.heap.size,0,none⟩)) (w':=w.alloc (.cells #[.pointer none,.slice none 0 0] 260)) rfl (by simp only[execOp,Instr.alloc,Sem.run_bind,hz w,Result.andThen_ok];rfl) (dk_ ?_))))
 have hI1:Inv (w.alloc (.cells #[.pointer none,.slice none 0 0] 260)) S Fr:=hI.world rfl rfl λb o e=>(Below.heap_alloc w _ b (j0_.1 e).1).trans e
 have hB1:Below w.heap.size w (w.alloc (.cells #[.pointer none,.slice none 0 0] 260)):=⟨rfl,rfl,rfl,by simp,λk hk=>Below.heap_alloc w _ k hk⟩
 have hD1:Lib.IsBuilderF 260 5 w.heap.size w.heap.size (Lib.byteCells []) (w.alloc (.cells #[.pointer none,.slice none 0 0] 260)):=.inl ⟨c3_ _,.slice none 0 0,Array.getElem?_push_size,⟨rfl,.inl ⟨rfl,rfl⟩⟩,by simp[Value.ownBlock]⟩
 refine bi_ (bi_ (bd_ (wm_ (v:=v) rfl rfl (wo_ (az4 rfl underlying33 hv2 (wm_ (v:=.int .i64 0) rfl rfl (dk_ ?_)))))))
 refine ap8 (λf w'=>NInv v ls.length w w.heap.size (hg_ ls) f w') ?_ ?_
 ·refine ej_ (bk4 (σ:=Unit) (k:=ls.length) (I:=λi _ f w'=>NInv v ls.length w w.heap.size (hg_ (ls.take i)) f w'∧f 10 = .int .i64 (i:Int)) (bx8 _ _) ⟨⟨hB1,hD1,rfl,rfl,rfl,rfl⟩,rfl⟩ ?_ ?_)
  ·rintro i _ f w1 o hi ⟨⟨b1,b2,b3,b4,b5,b6⟩,b7⟩ _
   have I1:=sa_ hI rfl b1
   refine bi_ (bd_ (wo_ (zc_ rfl b7 b5 (dk_ (bi_ (lt_ rfl (len_t hi) (kt_ (bi_ (ej_ ?_)))))))))
   obtain⟨l,hl⟩:∃ l,ls[i]?=some l:=⟨_,a7_ hi⟩
   have hat:at? ls (i:Int)=some l:=by rw[aw1];exact hl
   refine bi_ (bd_ (wo_ (@nr_ _ _ _ _ _ _ _ _ _ _ _ _ _ _ _ (List Int) (Ty.list .int).enc S ls 55 (i:Int) _ rfl underlying33 sh45 b4 hr b7 hat ?_)))
   have hp:cp7 (.list .int) S (cn_ v i 1) l:=qm_ (t:=.list .int) (x:=l) hr hat
   refine wo_ (br1 (α:=List Int) (S:=S) (e:=l) rfl sh45 rfl (hp.at_ I1) λu hu => ?_)
   refine wa_ (v:=u) rfl rfl (dk_ ?_)
   obtain⟨a1,cap1,hu2,_,hmax1,_⟩:=@hw_ Int Ty.int.enc S u l hu
   have hk1:l.length≤9223372036854775807:=by
    unfold maxLen at hmax1
    omega
   refine bi_ (bd_ (wm_ (v:=u) rfl rfl (wo_ (az4 rfl underlying55 hu2 (wm_ (v:=.int .i64 0) rfl rfl (dk_ ?_))))))
   have htk:hg_ (ls.take (i+1))=hg_ (ls.take i)++al2 l:=by
    rw[d7_,hl]
    simp[hg_]
   have hle:(hg_ (ls.take (i+1))).length≤2147483648:=by
    have:hg_ ls=hg_ (ls.take (i+1))++hg_ (ls.drop (i+1)):=by
     unfold hg_
     rw[← r0_,g7_]
    rw[this,a8_] at hlen
    omega
   have hinl:∀ n ∈ l,inI n=true:=λn hn=>f0_.1 (f0_.1 hin l (b1_ hl)) n hn
   refine ap8 (λf w'=>NInv v ls.length w w.heap.size (hg_ (ls.take (i+1))) f w'∧f 10 = .int .i64 (i:Int)) ?_ ?_
   ·refine ej_ (bk4 (σ:=Unit) (k:=l.length) (I:=λj _ f w'=>NInv v ls.length w w.heap.size (hg_ (ls.take i)++al2 (l.take j)) f w'∧f 10 = .int .i64 (i:Int)∧f 14=u∧f 15 = .int .i64 l.length∧f 16 = .int .i64 (j:Int)) (bx8 _ _)
     ⟨⟨b1,by rw[show al2 (l.take 0)=[] from rfl,e7_];exact b2,b3,b4,b5,b6⟩,b7,rfl,rfl,rfl⟩ ?_ ?_)
    ·rintro j _ f w1 o hj ⟨⟨b1,b2,b3,b4,b5,b6⟩,b7,b8,b9,b10⟩ _
     have I1:=sa_ hI rfl b1
     refine bi_ (bd_ (wo_ (zc_ rfl b10 b9 (dk_ (bi_ (lt_ rfl (len_t hj) (kt_ (bi_ (ej_ ?_)))))))))
     obtain⟨n,hn⟩:∃ n,l[j]?=some n:=⟨_,a7_ hj⟩
     have hatn:at? l (j:Int)=some n:=by rw[aw1];exact hn
     refine bi_ (bd_ (wo_ (@nr_ _ _ _ _ _ _ _ _ _ _ _ _ _ _ _ Int Ty.int.enc S l 3 (j:Int) _ rfl underlying55 sh3' b8 hu b10 hatn ?_)))
     have hpn:cp7 .int S (cn_ u j 1) n:=qm_ (t:=.int) (x:=n) hu hatn
     refine wo_ (at4 rfl sh3' rfl (hpn.at_ I1) ?_)
     refine wa_ (v:=.int .i64 n) rfl rfl (dk_ ?_)
     refine bd_ (wm_ (v:=.int .i64 n) rfl rfl ?_)
     have hni:=hinl n (b1_ hn)
     unfold inI at hni
     rw[a1_] at hni
     have htj:al2 (l.take (j+1))=al2 (l.take j)++ce5 n:=by
      rw[d7_,hn]
      simp[al2]
     have hlej:(hg_ (ls.take i)++(al2 (l.take j)++ce5 n)).length≤2147483648:=by
      have:al2 l=al2 (l.take (j+1))++al2 (l.drop (j+1)):=by
       unfold al2
       rw[← r0_,g7_]
      rw[htk,this,htj,a8_,a8_] at hle
      rw[a8_]
      omega
     refine wo_ (az3 (vs:=[.int .i64 n]) rfl cb_188 rfl (args1 rfl) (sh_Itoa n (g0_ hni.1) (g0_ hni.2) w1 (tab_is hG I1)) λe w2 he => ?_)
     obtain⟨rfl,k,os,rfl⟩:=he
     refine⟨_,rfl,?_⟩
     have b1':Below w.heap.size w (Go.Sort.grow (w1.drewN k) os):=b1.trans ⟨rfl,rfl,rfl,by simp[Go.Sort.grow,World.drewN],λk hk=>by
      have h1:k<w1.heap.size:=f8_ hk b1.size
      exact (am7 k _ (d6_ h1)).trans (d6_ h1).symm⟩
     have b2':=co9 (am7 (n:=k) (os:=os)) b2
     have hcat:cat? (Lib.itoa n) [32]=some (ce5 n):=by
      unfold cat?
      have:Nat.ble ((Lib.itoa n).length+([32]:Str).length) 2147483648=true:=by
       refine i2_ ?_
       have h1:(ce5 n).length=(Lib.itoa n).length+1:=by simp[ce5]
       rw[a8_,a8_,h1] at hlej
       show (Lib.itoa n).length+1≤_
       omega
      rw[this]
      rfl
     refine wo_ (cw_ (v:=.string ⟨(ce5 n).toArray⟩) (w':=Go.Sort.grow (w1.drewN k) os) rfl (str_op rfl rfl hcat) ?_)
     refine wo_ (az3 (vs:=[.pointer (some ⟨w.heap.size,0,none⟩),.string ⟨(ce5 n).toArray⟩]) rfl cb_187 rfl (args2 b3 rfl) (ye_ w.heap.size w.heap.size (Lib.byteCells (hg_ (ls.take i)++al2 (l.take j))) ⟨(ce5 n).toArray⟩ _ b2' ?_ b1'.size) λe w2 he => ?_)
     ·rw[Lib.byteCells_length]
      show (hg_ (ls.take i)++al2 (l.take j)).length+(ce5 n).toArray.size≤_
      rw[List.size_toArray,a8_]
      rw[a8_,a8_] at hlej
      omega
     obtain⟨rfl,c1,c2,c3⟩:=he
     refine⟨_,rfl,dk_ ?_⟩
     have c1':Lib.IsBuilderF 260 5 w.heap.size w.heap.size (Lib.byteCells (hg_ (ls.take i)++al2 (l.take (j+1)))) w2:=by
      rw[htj,← b4_,Lib.byteCells_append]
      exact .inr c1
     exact bd_ (wo_ (br2 rfl b10 rfl (wm_ rfl rfl (dk_ ⟨⟨b1'.trans c2,c1',b3,b4,b5,b6⟩,b7,b8,b9,bb6 hj hk1⟩))))
    ·rintro f w1 ⟨⟨b1,b2,b3,b4,b5,b6⟩,b7,b8,b9,b10⟩
     rw[d9_,← htk] at b2
     exact bi_ (bd_ (wo_ (zc_ rfl b10 b9 (dk_ (bi_ (ik_ rfl (len_f _) (rh_ ⟨⟨b1,b2,b3,b4,b5,b6⟩,b7⟩)))))))
   ·rintro f w1 ⟨⟨b1,b2,b3,b4,b5,b6⟩,b7⟩
    refine bd_ (wo_ (br2 rfl b7 rfl (wm_ rfl rfl (dk_ ⟨⟨b1,b2,b3,b4,b5,b6⟩,bb6 hi hk0⟩))))
  ·rintro f w1 ⟨⟨b1,b2,b3,b4,b5,b6⟩,b7⟩
   rw[d9_] at b2
   exact bi_ (bd_ (wo_ (zc_ rfl b7 b5 (dk_ (bi_ (ik_ rfl (len_f _) (rh_ ⟨b1,b2,b3,b4,b5,b6⟩)))))))
 ·rintro f w1 ⟨b1,b2,b3,b4,b5,b6⟩
  have I1:=sa_ hI rfl b1
  refine bi_ (bd_ (wo_ (az3 (vs:=[.pointer (some ⟨w.heap.size,0,none⟩)]) rfl cb_189 rfl (args1 b3) (bn2 w.heap.size w.heap.size (hg_ ls) w1 b2 b1.size) λe w2 he => ?_)))
  obtain⟨rfl,c1,c2,c3⟩:=he
  refine⟨_,rfl,wa_ (v:=.string ⟨(hg_ ls).toArray⟩) rfl rfl (dk_ (vk_ ⟨b6,_,res1 rfl rfl,rfl,sa_ hI rfl (b1.trans c2)⟩))⟩
theorem ok_142:cd9 prog 142 [.list (.list .int)] [.str] (λx=>fl_ x.1):=by
 intro w S Fr hv vs x r hG hI ha hF
 match vs,ha with
 | [v],⟨hv1,_⟩ =>
  obtain⟨ls,u⟩:=x
  have hF:cond (ls.all (λl=>l.all inI)&&Nat.ble (hg_ ls).length 2147483648) (some (hg_ ls,())) none=some r:=hF
  obtain⟨hc,hF⟩:=bm_ hF
  simp only[a1_] at hc
  obtain⟨hin,hlen⟩:=hc
  obtain rfl:=a6_ hF
  have hr:RVt (.list (.list .int)) S v ls:=qq_ (hv:=hv) hv1
  refine (bs0 hG hI hr hin (b7_ hlen)).mono λe w' he => ?_
  obtain⟨rfl,hI'⟩:=he
  exact⟨S,[],PH.Le.refl _,hI',rfl,bg1 (hv:=λ_=>undef) (S:=S) (hg_ ls)⟩
noncomputable def c_142:Con prog:=cnv 142 [.list (.list .int)] [.str] (λx=>fl_ x.1) ok_142
end
end Go.Proofs.YtgeehfnbhbibeaaGreatDoor.Rx
namespace Go.Proofs.YtgeehfnbhbibeaaGreatDoor.Pad
open Go
section
abbrev sn:Value:=.slice none 0 0
theorem AllP.v {l:List Nat} {sps:List Sp} {f:Fr} {vals:Nat→Value} {S':PH} (h:AllP l (λj=>∀ t,sps[j]?=some t→(∀ d,t.dst=some d→f d=vals j)∧t.fact (t.deps.map vals) S')) (i:Nat) {a d:Nat} {t:Sp} {x:Value}
  (e:(l[i]?,sps[a]?,t.dst,t.fact (t.deps.map vals) S')=(some a,some t,some d,vals a=x)):f d=x :=
 h.u i (h6_ e).1 (h6_ (h6_ e).2).1 (h6_ (h6_ e).2).2
theorem fo {A:Value→Prop} {B C:Value→PH→Prop} {S:PH} {v:Value} (c:C v S) (a:A v:=by exact rfl) (b:B v S:=by exact rfl):∃ v S',A v∧S.Le S'∧B v S'∧C v S':=⟨v,S,a,lr,b,c⟩
section
variable {P:Program} {n:Nat} {ro:Option Nat} {ops:Array Oper} {sps:List Sp} {tks:List Tok} {f0:Fr} {S:PH} {i:Nat} {s:Sp}
theorem ob_ {o:Oper} (ho:(ops[i]?,o.guard)=(some o,none)) (h:∀ {vals:Nat→Value} {f:Fr} {w:World} {S':PH} {X:List HP},S.Le S' →
  AllP s.anc (λj=>∀ t,sps[j]?=some t→(∀ d,t.dst=some d→f d=vals j)∧t.fact (t.deps.map vals) S') →
  (∀ d,(∀ (j:Nat) (t:Sp),sps[j]?=some t→t.dst=some d→i ∈ t.anc∨i=j)→f d=f0 d) →
  Inv w S' (s.cons.map (ko_ tks vals)++(s.rd.map (ko_ tks vals)++X)) →
  OP P n ro o f w λf' w'=>∃ v S'',f'=vn_ f s.dst v∧S'.Le S''∧s.fact (s.deps.map (upv vals i v)) S'' ∧
   Inv w' S'' (s.prod.map (ko_ tks (upv vals i v))++(s.rd.map (ko_ tks vals)++X))):Ob P n ro ops sps tks f0 S i s :=
 λ_ _ _ _ _ a b c d=>pl_ ho (h a b c d)
end
section
variable {P:Program} {n:Nat} {ro:Option Nat} {f:Fr} {w:World} {K:Fr→World→Prop} {d k:Nat} {ty:TypeId} {pos:String} {af:Array Edge} {gd:Option (Nat×Bool)} {x y:Operand} {v:Value} {T:TypeId} {S:PH}
end
end
end Go.Proofs.YtgeehfnbhbibeaaGreatDoor.Pad
namespace Go.Proofs.YtgeehfnbhbibeaaGreatDoor.Rx
open Go Pad Rex Go.Proofs Go.Proofs.Tryz Sum
section
set_option maxRecDepth 100000
set_option maxHeartbeats 400000
def ivs (l:List Int):List Value:=l.map λn=>.int .i64 n
def ap4 (m n:Nat) (a:Int):List Int:=List.replicate n a++List.replicate (m - n) 0
theorem az5 {P:Program} {n d:Nat} {ro:Option Nat} {f:Pad.Fr} {w:World} {K:Pad.Fr→World→Prop} {ty T E B:TypeId} {pos:String} {af:Array Edge} {gd:Option (Nat×Bool)} {x y:Operand} {S:PH} {O:List HP} {g o dl dc sl sc:Nat} {ad:Addr} {cs:Array Value} {ys:List Value}
  (hd:Nat.blt d n=true) (hT:P.underlying T=some (.slice E)) (hs:(P.info? E).map (·.size)=some 1) (hx:Pad.ev f x = .slice (some ⟨g,o,none⟩) dl dc) (hy:Pad.ev f y = .slice (some ad) sl sc) (hI:Inv w S (ks_ g B cs::O))
  (hn:ys.length=Nat.min sl dl) (hsrc:∀ j v,ys[j]?=some v→w.cell? (ad.add j)=some v) (hfit:o+ys.length≤cs.size) (h1:∀ v ∈ ys,v.oneCell'=true)
  (k:∀ w',Inv w' S (ks_ g B (cs.toList.take o++ys++cs.toList.drop (o+ys.length)).toArray::O)→K (upd f d (.int .i64 (ys.length:Nat))) w') :
  OP P n ro ⟨some d,.call ⟨.builtin .copy,#[x,y],#[T,T]⟩,ty,pos,af,gd⟩ f w K:=by
 have h:=run_copy_row (P:=P) w T T ty E g o dl dc ad sl sc cs B ys hT hs hI.blk hn hsrc hfit h1
 exact cw_ hd (by simp[execOp,resolve,invoke,builtin,hx,hy,h,Result.andThen];rfl) (k _ hI.setRow)
theorem cj7 {P:Program} {n d:Nat} {ro:Option Nat} {f:Pad.Fr} {w:World} {K:Pad.Fr→World→Prop} {ty T E:TypeId} {pos:String} {af:Array Edge} {gd:Option (Nat×Bool)} {x y:Operand} {dl dc sl sc:Nat} {ap ad:Option Addr}
  (hd:Nat.blt d n=true) (hT:P.underlying T=some (.slice E)) (hs:(P.info? E).map (·.size)=some 1) (hx:Pad.ev f x = .slice ap dl dc) (hy:Pad.ev f y = .slice ad sl sc)
  (hn:Nat.min sl dl=0) (k:K (upd f d (.int .i64 0)) w) :
  OP P n ro ⟨some d,.call ⟨.builtin .copy,#[x,y],#[T,T]⟩,ty,pos,af,gd⟩ f w K:=by
 have h:=run_copy_none (P:=P) w T T ty E ap ad dl dc sl sc hT hs hn
 exact cw_ hd (by simp[execOp,resolve,invoke,builtin,hx,hy,h,Result.andThen];rfl) k
theorem op_make {n d:Nat} {ro:Option Nat} {f:Pad.Fr} {w:World} {K:Pad.Fr→World→Prop} {ty:TypeId} {pos:String} {af:Array Edge} {gd:Option (Nat×Bool)} {x y:Operand} {S:PH} {O:List HP} {m:Nat}
  (hd:Nat.blt d n=true) (hx:Pad.ev f x = .int .i64 m) (hy:Pad.ev f y = .int .i64 m) (hm:m≤2147483648) (hI:Inv w S O)
  (k:∀ g w',Inv w' S (ks_ g 3 (ivs (List.replicate m 0)).toArray::O)→K (upd f d (.slice (some ⟨g,0,none⟩) m m)) w') :
  OP prog n ro ⟨some d,.makeSlice 55 x y,ty,pos,af,gd⟩ f w K:=by
 obtain⟨bytes,zv,⟨ei,hE⟩,hb,hr⟩:=jc_ (show qk_ prog 3 .int=some (0:Int) by kernel_rfl)
 have hzv:zv = .int .i64 0:=ma_ (hr S)
 have hbb:(ei.bytes:Int) * (m:Int)≤281474976710656:=by
  have h1:(ei.bytes:Int)≤65536:=by rw[hE.hb];omega
  have h2:(ei.bytes:Int) * (m:Int)≤65536 * 2147483648:=Int.mul_le_mul h1 (by omega) (by omega) (by omega)
  omega
 have h:=run_make (P:=prog) w 55 3 ei zv underlying55 hE.hi hE.hz .i64 .i64 m m (by omega) (m9_ _) hbb (by omega)
 have hsz:ei.size=1:=hE.hs
 have hc:madeCells zv.cells ((m:Int).toNat * ei.size)=(ivs (List.replicate m 0)).toArray:=by
  have h2:=ky_ zv.cells m
  have h3:zv.cells.size=1:=by rw[hzv];rfl
  rw[h3] at h2
  rw[hsz,c1_]
  apply Array.toList_inj.1
  rw[h2,hzv]
  simp[Value.cells,ivs]
 rw[hc] at h
 exact cw_ hd (by rw[c1_] at h;simp[execOp,Sem.run_bind,hx,hy,h,Result.andThen]) (k _ _ (hI.alloc 3 _))
theorem cb_127:ei_ prog 127:=⟨_,func127,rfl,by kernel_rfl⟩
theorem cf3 {m:Nat} (h:m≤2147483648):wu64 (m:Int)=(m:Int):=by
 unfold wu64 IntKind.wrap
 simp[IntKind.signed,IntKind.bits]
 omega
theorem in3:(prog.info? 3).map (·.size)=some 1:=by kernel_rfl
theorem bw2 {m n q:Nat} {a:Int} (h:n+q≤m):(ivs (ap4 m n a)).take n++ivs (List.replicate q a)++(ivs (ap4 m n a)).drop (n+q)=ivs (ap4 m (n+q) a):=by
 unfold ivs ap4
 rw[← List.map_take,← List.map_drop,← j5_,← j5_]
 congr 1
 have h1:(List.replicate n a++List.replicate (m - n) (0:Int)).take n=List.replicate n a:=by
  rw[List.take_append_of_le_length (by simp),h0_ (by simp)]
 have h2:(List.replicate n a++List.replicate (m - n) (0:Int)).drop (n+q)=List.replicate (m - (n+q)) 0:=by
  rw[List.drop_append,List.drop_of_length_le (by simp)]
  simp
  omega
 rw[h1,h2,List.replicate_append_replicate]
theorem ivs_len (l:List Int):(ivs l).length=l.length:=by simp[ivs]
theorem ch4 {m n:Nat} {a:Int} (h:n≤m):(ap4 m n a).length=m:=by simp[ap4];omega
theorem rowR_at {m n j:Nat} {a:Int} (h:j<n):(ivs (ap4 m n a))[j]?=some (.int .i64 a):=by
 unfold ivs ap4
 rw[d8_,b2_ (by simpa using h),h4_,if_pos h]
 rfl
theorem ivs_one {l:List Int}:∀ v ∈ ivs l,v.oneCell'=true:=by
 intro v hv
 obtain⟨n,_,rfl⟩:=d1_.1 hv
 rfl
theorem sl_l {f:Pad.Fr} {w:World} {d m n g:Nat} {x y:Operand} {ty:TypeId} {pos:String} {af:Array Edge} {gd:Option (Nat×Bool)} (hx:Pad.ev f x = .slice (some ⟨g,0,none⟩) m m) (hy:Pad.ev f y = .int .i64 n) (h:n<m) :
  (execOp (Pad.ev f) ⟨some d,.slice 55 x (some y) none none,ty,pos,af,gd⟩).run prog w = .ok (.value (.slice (some ⟨g,n,none⟩) (m - n) (m - n))) w:=by
 have:=cr6 (P:=prog) (w:=w) (T:=55) (E:=3) (a:=some ⟨g,0,none⟩) (len:=m) (cap:=m) (lo:=(n:Int)) underlying55 sh3' (by omega) (by omega)
 have hne:¬ m=n:=by omega
 have e:(⟨g,0,none⟩:Addr).add (n * 1)=⟨g,n,none⟩:=by rw[q8_,ew_,b0_]
 simp only[sliced,hne,h8_,g6_,c1_,e] at this
 simp[execOp,hx,hy,this,Result.andThen]
theorem sl_h {f:Pad.Fr} {w:World} {d m n g:Nat} {x y:Operand} {ty:TypeId} {pos:String} {af:Array Edge} {gd:Option (Nat×Bool)} (hx:Pad.ev f x = .slice (some ⟨g,0,none⟩) m m) (hy:Pad.ev f y = .int .i64 n) (h:n<m) :
  (execOp (Pad.ev f) ⟨some d,.slice 55 x none (some y) none,ty,pos,af,gd⟩).run prog w = .ok (.value (.slice (some ⟨g,0,none⟩) n m)) w:=by
 have:=cr7 (P:=prog) (w:=w) (T:=55) (E:=3) (a:=some ⟨g,0,none⟩) (len:=m) (cap:=m) (hi:=(n:Int)) underlying55 sh3' (by omega) (by omega)
 have hne:¬ m=0:=by omega
 simp[sliced,hne,Addr.add] at this
 simp[execOp,hx,hy,this,Result.andThen]
theorem op_uI {n d:Nat} {ro:Option Nat} {f:Pad.Fr} {w:World} {K:Pad.Fr→World→Prop} {ty:TypeId} {pos:String} {af:Array Edge} {gd:Option (Nat×Bool)} {x:Operand} {m:Nat} (hd:Nat.blt d n=true) (hx:Pad.ev f x = .int .u64 (m:Int)) (hm:m≤2147483648)
  (k:K (upd f d (.int .i64 (m:Int))) w):OP prog n ro ⟨some d,.convert 211 3 x,ty,pos,af,gd⟩ f w K:=by
 have h64:IntKind.i64.wrap (m:Int)=m:=by rw[IntKind.wrap_i64];omega
 exact cw_ hd (by simp[execOp,hx,convert,run_underlying underlying211,run_underlying underlying3,Conv.intToInt,h64]) k
theorem ay4 {S:PH}:∀ (l:List Int),@RepL Int Ty.int.enc S (ivs l) l
 | []=>rfl
 | a::l=>⟨[.int .i64 a],ivs l,rfl,rfl,ay4 l⟩
def RI (m g:Nat) (a:Int) (S:PH) (Fr:List HP) (k:Nat) (f:Pad.Fr) (w:World):Prop :=
 k≤m∧(0<m→0<k)∧∃ S',S.Le S'∧Inv w S' (ks_ g 3 (ivs (ap4 m k a)).toArray::Fr)∧f 7 = .slice (some ⟨g,0,none⟩) m m∧f 8 = .int .i64 (k:Int)∧f.ds=[]
theorem ch8 {w:World} {S:PH} {Fr:List HP} {v:Value} {m:Nat} {a:Int} (hI:Inv w S Fr) (hr:RVt (.list .int) S v [a]) (hm:m≤2147483648) :
  Calls prog 98 [v,.int .i64 (m:Int)].toArray w λe w'=>∃ u S',e = .returned u∧S.Le S'∧Inv w' S' (@Row Int Ty.int.enc 3 u (List.replicate m a)::Fr):=by
 obtain⟨a0,cap0,hv2,_,hmax,hnil,hrow⟩:=@hw_ Int Ty.int.enc S v [a] hr
 obtain⟨ad,rfl⟩:∃ ad,a0=some ad:=by
  cases a0 with
  | none=>have:=(hnil rfl).1;simp at this
  | some ad=>exact⟨ad,rfl⟩
 refine rb_ (n:=48) func98 rfl rfl rfl ?_
 refine bi_ (bd_ (wa_ (v:=sn) rfl rfl (dk_ ?_)))
 refine bi_ (bi_ (bd_ (wm_ (v:=.int .i64 m) rfl rfl (wo_ (zc_ (a:=(m:Int)) (b:=0) rfl rfl rfl (dk_ ?_))))))
 refine ik_ rfl (b9_ (by omega)) (kt_ ?_)
 refine bi_ (bd_ (wm_ (v:=v) rfl rfl (wo_ (az4 rfl underlying55 hv2 ?_))))
 refine wo_ (cs2 (a:=1) rfl rfl underlying3 underlying211 (wm_ (v:=.int .i64 m) rfl rfl (wo_ (cs2 (a:=(m:Int)) rfl rfl underlying3 underlying211 ?_))))
 rw[cf3 hm,show wu64 1=((1:Nat):Int) from rfl]
 refine wo_ (az3 (vs:=[.int .u64 ((1:Nat):Int),.int .u64 (m:Int)]) rfl cb_127 rfl (args2 rfl rfl) (sh_Mul 1 m (by omega) (by omega) w) λe w2 he => ?_)
 obtain⟨rfl,rfl⟩:=he
 rw[show (1 * m / 18446744073709551616:Nat)=0 by omega,show (1 * m % 18446744073709551616:Nat)=m by omega]
 refine⟨_,rfl,?_⟩
 refine wm_ (v:=.tuple #[.int .u64 ((0:Nat):Int),.int .u64 (m:Int)]) rfl rfl (wo_ (zd_ (v:=.int .u64 ((0:Nat):Int)) rfl rfl rfl (wo_ (zd_ (v:=.int .u64 (m:Int)) rfl rfl rfl (wa_ (v:=.int .u64 ((0:Nat):Int)) rfl rfl (wa_ (v:=.int .u64 (m:Int)) rfl rfl (dk_ ?_)))))))
 refine bi_ (bi_ (bd_ (wm_ (v:=.int .u64 ((0:Nat):Int)) rfl rfl (wo_ (cs3 (a:=((0:Nat):Int)) (b:=0) rfl rfl rfl (wm_ (v:=.bool false) rfl rfl (wk_ rfl rfl rfl (ms_ (v:=.int .u64 (m:Int)) rfl rfl (wk_ rfl rfl rfl (cs3 (a:=(m:Int)) (b:=9223372036854775807) rfl rfl rfl ?_))))))))))
 have hdf:decide ((9223372036854775807:Int)<(m:Int))=false:=b9_ (by omega)
 rw[hdf]
 refine wo_ (br0 (b:=.bool false) rfl rfl rfl rfl (dk_ (ik_ rfl rfl (kt_ ?_))))
 refine bi_ (bd_ (wm_ (v:=.int .u64 (m:Int)) rfl rfl (wo_ (op_uI (m:=m) rfl rfl hm ?_))))
 refine wo_ (op_make (m:=m) rfl rfl rfl hm hI λg w3 I3=>wa_ (v:=.slice (some ⟨g,0,none⟩) m m) rfl rfl (dk_ ?_))
 have hcell:w3.cell? ad=some (.int .i64 a):=by
  obtain⟨es,h1,h2⟩:=hrow ad rfl 0 a rfl
  have h1:es=[.int .i64 a]:=h1
  have h3:=PH.cell_in I3.in_ (h2 0 (.int .i64 a) (by rw[h1];rfl))
  simpa [Addr.add] using h3
 have hl3:(ivs (List.replicate m (0:Int))).length=m:=by simp[ivs]
 refine bi_ (ap8 (λf w'=>∃ k,RI m g a S Fr k f w') ?_ ?_)
 ·refine bd_ (wm_ (v:=.slice (some ⟨g,0,none⟩) m m) rfl rfl (wm_ (v:=v) rfl rfl ?_))
  by_cases h0:m=0
  ·subst h0
   refine wo_ (cj7 (dl:=0) (dc:=0) (sl:=1) (sc:=cap0) rfl underlying55 in3 rfl hv2 rfl (wa_ (v:=.int .i64 0) rfl rfl (dk_ ?_)))
   exact⟨0,c3_ _,λh=>h,S,lr,I3,rfl,rfl,rfl⟩
  ·refine wo_ (az5 (g:=g) (o:=0) (dl:=m) (dc:=m) (sl:=1) (sc:=cap0) (ad:=ad) (ys:=[.int .i64 a]) rfl underlying55 in3 rfl hv2 I3 ?_ ?_ ?_ ?_ λw4 I4=>wa_ (v:=.int .i64 1) rfl rfl (dk_ ?_))
   ·show 1=Nat.min 1 m
    exact (Nat.min_eq_left (by omega)).symm
   ·intro j u hj
    cases j with
    | zero =>
     obtain rfl:=a6_ hj
     simpa [Addr.add] using hcell
    | succ j=>simp at hj
   ·simp[hl3]
    omega
   ·intro u hu
    simp at hu
    subst hu
    rfl
   ·refine⟨1,by omega,λ_=>by omega,S,lr,?_,rfl,rfl,rfl⟩
    have:=bw2 (m:=m) (n:=0) (q:=1) (a:=a) (by omega)
    have e0:ap4 m 0 a=List.replicate m 0:=by simp[ap4]
    rw[e0] at this
    rw[← this]
    exact I4
 ·rintro f w4 ⟨k0,hk0⟩
  refine bi_ (ej_ (rg_ (I:=λk f w'=>RI m g a S Fr k f w') (λk=>m - k) k0 hk0 ?_))
  rintro k f w5 ⟨r1,r2,S5,le5,r3,r4,r5,r6⟩
  refine bi_ (bi_ (bd_ (wm_ rfl r5 (wm_ rfl r4 (wo_ (az4 rfl underlying55 rfl (wo_ (zc_ rfl rfl rfl (dk_ ?_)))))))))
  by_cases hkm:k<m
  ·refine lt_ rfl (len_t hkm) (kt_ ?_)
   refine ej_ (wp_draw (sps:=[spV 38 [] 0 (.int .i64 k),spV 39 [] 1 (.slice (some ⟨g,0,none⟩) m m),spV 40 [] 2 (.int .i64 k),spV 41 [1,2] 3 (.slice (some ⟨g,k,none⟩) (m - k) (m - k)),spV 42 [] 4 (.slice (some ⟨g,0,none⟩) m m),spV 43 [] 5 (.int .i64 k),
    spV 44 [4,5] 6 (.slice (some ⟨g,0,none⟩) k m),⟨some 45,[1,2,3,4,5,6],[7],λvs _=>fr0 vs 0 = .int .i64 (Nat.min k (m - k):Nat),[],[0],[1],λ_ h=>h⟩,spV 46 [0,1,2,3,4,5,6,7] 8 (.int .i64 ((k+Nat.min k (m - k):Nat):Int)),spV 8 (lrg 9) 9 (.int .i64 ((k+Nat.min k (m - k):Nat):Int))])
    (tks:=[⟨none,some 7,[],λ_=>ks_ g 3 (ivs (ap4 m k a)).toArray⟩,⟨some 7,none,[],λ_=>ks_ g 3 (ivs (ap4 m (k+Nat.min k (m - k)) a)).toArray⟩]) (O:=Fr) rfl (by kernel_rfl) r3
    ⟨ob_ rfl λl A K I=>ms_ rfl ((K 8 (wv_ rfl)).trans r5) (fo I),ob_ rfl λl A K I=>ms_ rfl ((K 7 (wv_ rfl)).trans r4) (fo I),ob_ rfl λl A K I=>ms_ rfl ((K 8 (wv_ rfl)).trans r5) (fo I),
     ob_ rfl λl A K I=>cw_ rfl (sl_l (A.v 0 rfl) (A.v 1 rfl) hkm) (fo I),ob_ rfl λl A K I=>ms_ rfl ((K 7 (wv_ rfl)).trans r4) (fo I),ob_ rfl λl A K I=>ms_ rfl ((K 8 (wv_ rfl)).trans r5) (fo I),
     ob_ rfl λl A K I=>cw_ rfl (sl_h (A.v 0 rfl) (A.v 1 rfl) hkm) (fo I),?_,?_,ob_ rfl λl A K I=>ns_ rfl (A.v 8 rfl) (fo I),trivial⟩ ?_)
   ·intro vs f w_ U X le A K I
    have hq:Nat.min k (m - k)≤k∧k+Nat.min k (m - k)≤m:=⟨Nat.min_le_left _ _,by have:Nat.min k (m - k)≤m - k:=m5_ _ _;omega⟩
    refine pl_ rfl (az5 (g:=g) (o:=k) (dl:=m - k) (dc:=m - k) (sl:=k) (sc:=m) (ad:=⟨g,0,none⟩) (ys:=ivs (List.replicate (Nat.min k (m - k)) a)) rfl underlying55 in3 (A.v 2 rfl) (A.v 5 rfl) I (by simp[ivs]) ?_ ?_ ivs_one λw6 I6 => ?_)
    ·intro j u hj
     have hj2:j<Nat.min k (m - k):=by
      have:=(a3_.1 hj).1
      simpa [ivs] using this
     have e:u = .int .i64 a:=by
      unfold ivs at hj
      rw[d8_,h4_,if_pos hj2] at hj
      exact (a6_ hj).symm
     rw[ew_,b0_,I.cell,e]
     have:=rowR_at (m:=m) (n:=k) (j:=j) (a:=a) (by omega)
     simpa using this
    ·have:(ivs (ap4 m k a)).toArray.size=m:=by simp[ivs_len,ch4 r1]
     rw[this]
     simpa [ivs] using hq.2
    ·have el:(ivs (List.replicate (Nat.min k (m - k)) a)).length=Nat.min k (m - k):=by simp[ivs]
     have e:=bw2 (m:=m) (n:=k) (q:=Nat.min k (m - k)) (a:=a) hq.2
     rw[el] at I6
     refine⟨_,U,rfl,lr,by rw[el];rfl,?_⟩
     show Inv w6 U (ks_ g 3 (ivs (ap4 m (k+Nat.min k (m - k)) a)).toArray::_)
     rw[← e]
     exact I6
   ·intro vs f w_ U X le A K I
    have hq:k+Nat.min k (m - k)≤m:=by
     have:Nat.min k (m - k)≤m - k:=m5_ _ _
     omega
    have e:w64 ((k:Int)+(Nat.min k (m - k):Nat))=((k+Nat.min k (m - k):Nat):Int):=by
     rw[ku_ (by omega) (by omega)]
     rfl
    refine pl_ rfl (br2 rfl (A.v 0 rfl) (A.v 7 rfl) ?_)
    rw[e]
    exact fo I
   ·intro vs f6 w6 S6 ds6 le6 hF hK hI6
    have hq:0<Nat.min k (m - k)∧k+Nat.min k (m - k)≤m:=by
     have h1:Nat.min k (m - k)≤m - k:=m5_ _ _
     refine⟨Nat.lt_min.2 ⟨r2 (by omega),by omega⟩,by omega⟩
    have e8:f6 8 = .int .i64 ((k+Nat.min k (m - k):Nat):Int):=hF.v 9 rfl
    have e7:f6 7 = .slice (some ⟨g,0,none⟩) m m:=(hK 7 (cm1 rfl)).trans r4
    exact⟨k+Nat.min k (m - k),by omega,hq.2,λ_=>by omega,S6,le5.trans le6,hI6,e7,e8,ds6.trans r6⟩
  ·refine ik_ rfl (b9_ (by omega)) (rh_ ?_)
   obtain rfl:k=m:=by omega
   refine bi_ (bd_ (wm_ rfl r4 (wa_ (v:=.slice (some ⟨g,0,none⟩) k k) rfl rfl (dk_ (vk_ ⟨r6,.slice (some ⟨g,0,none⟩) k k,res1 rfl rfl,_,S5,rfl,le5,?_⟩)))))
   refine Inv.shut (A:=@Row Int Ty.int.enc 3 _ (List.replicate k a)) r3 (.inr ⟨g,k,[],ivs (List.replicate k a),[],by simp,by simp[ap4],ay4 _,by simp,by simp only[maxLen];omega,by simp⟩)
noncomputable def dy_ (a0:List Int) (a1:Int):Option (List Int):=match a0 with
 | [a]=>mk? a1 a
 | _=>none
noncomputable def rp_98:Rpt prog:=⟨98,[.list .int,.int],.int,3,λx=>dy_ x.1 x.2.1,λ{w S Fr hv vs x r} hG hI ha hF=>by
 obtain⟨l,c,u⟩:=x
 match vs,ha with
 | [v1,v2],⟨h1,h2,_⟩ =>
  have hF:dy_ l c=some r:=hF
  match l,hF,h1 with
  | [a],hF,h1 =>
   obtain⟨c0,c1,rfl⟩:=ad1 (show mk? c a=some r from hF)
   obtain⟨m,rfl⟩:=q0_ c0
   obtain rfl:v2 = .int .i64 (m:Int):=ma_ (S:=S) (qq_ (hv:=hv) (t:=.int) h2)
   have hr:RVt (.list .int) S v1 [a]:=qq_ (hv:=hv) h1
   rw[c1_]
   refine (ch8 hI hr (by omega)).mono λe w' he => ?_
   obtain⟨u,S',h3,h4,h5⟩:=he
   exact⟨u,S',h3,h4,h5⟩⟩
end
section
set_option maxRecDepth 100000
set_option maxHeartbeats 0
theorem cz_140:qk_ prog 3 .int=some (show Int from 0):=by kernel_rfl
theorem ce_140:Rex.elemOf prog 55=some 3:=by kernel_rfl
noncomputable def xs_:Cpy prog:=⟨140,.int,3,λhc hI h=>bd6 func140 rfl rfl rfl ce_140 cz_140 rfl hc hI h⟩
theorem cz_141:qk_ prog 4 .bool=some (show Bool from false):=by kernel_rfl
theorem ce_141:Rex.elemOf prog 92=some 4:=by kernel_rfl
noncomputable def bz6:Cpy prog:=⟨141,.bool,4,λhc hI h=>bd6 func141 rfl rfl rfl ce_141 cz_141 rfl hc hI h⟩
end
section
set_option maxRecDepth 100000
set_option maxHeartbeats 0
noncomputable def mz_ (a0:ae_):Option (Bool×Unit) :=
 (((cond (decide (12<(a0.1.length:Int)))
 (some (true,()))
 (cond (decide (15<(a0.2.1.length:Int)))
 (some (true,()))
 (cond (decide (14<(a0.2.2.1.length:Int)))
 (some (true,()))
 (cond (decide (20<(a0.2.2.2.1.length:Int)))
 (some (true,()))
 (cond (decide (30<(a0.2.2.2.2.1.length:Int)))
 (some (true,()))
 (cond (decide (15<(a0.2.2.2.2.2.1.length:Int)))
 (some (true,()))
 (some ((decide (20<(a0.2.2.2.2.2.2.2.length:Int))),()))))))))).bind λv0 =>
 (cond v0.1
 (some (true,()))
 ((af_ (ρ:=(Unit⊕(Bool×Unit))) (λ(v1:(Int×Unit)) =>
 (cond (decide (v1.1<(a0.1.length:Int)))
 ((at? a0.1 v1.1).bind λv2 =>
 (cond (decide (100<(v2.length:Int)))
 (some (inr (inr (true,()))))
 (some (inl ((w64 (v1.1+1)),())))))
 (some (inr (inl ()))))) (0,())).bind λv3 =>
 (cg_ v3 (λv4=>((af_ (ρ:=(Unit⊕(Bool×Unit))) (λ(v6:(Int×Unit)) =>
 (cond (decide (v6.1<(a0.2.1.length:Int)))
 ((at? a0.2.1 v6.1).bind λv7 =>
 (cond (decide (100<(v7.1.length:Int)))
 (some (inr (inr (true,()))))
 (some (inl ((w64 (v6.1+1)),())))))
 (some (inr (inl ()))))) (0,())).bind λv8 =>
 (cg_ v8 (λv9=>((af_ (ρ:=(Unit⊕(Bool×Unit))) (λ(v11:(Int×Unit)) =>
 (cond (decide (v11.1<(a0.2.2.1.length:Int)))
 ((((at? a0.2.2.1 v11.1).bind λv12 =>
 (cond (decide (100<(v12.1.length:Int)))
 (some (true,()))
 ((at? a0.2.2.1 v11.1).bind λv13 =>
 (some ((decide (20<(v13.2.2.length:Int))),())))))).bind λv14 =>
 (cond v14.1
 (some (inr (inr (true,()))))
 (some (inl ((w64 (v11.1+1)),())))))
 (some (inr (inl ()))))) (0,())).bind λv15 =>
 (cg_ v15 (λv16=>((af_ (ρ:=(Unit⊕(Bool×Unit))) (λ(v18:(Int×Unit)) =>
 (cond (decide (v18.1<(a0.2.2.2.1.length:Int)))
 ((at? a0.2.2.2.1 v18.1).bind λv19 =>
 (cond (decide (20<(v19.2.2.length:Int)))
 (some (inr (inr (true,()))))
 (some (inl ((w64 (v18.1+1)),())))))
 (some (inr (inl ()))))) (0,())).bind λv20 =>
 (cg_ v20 (λv21=>((af_ (ρ:=(Unit⊕(Bool×Unit))) (λ(v23:(Int×Unit)) =>
 (cond (decide (v23.1<(a0.2.2.2.2.1.length:Int)))
 ((at? a0.2.2.2.2.1 v23.1).bind λv24 =>
 (((cond (decide (100<(v24.1.length:Int)))
 (some (true,()))
 (cond (decide (20<(v24.2.2.2.2.1.length:Int)))
 (some (true,()))
 (cond (decide (20<(v24.2.2.2.1.length:Int)))
 (some (true,()))
 (cond (decide (20<(v24.2.2.2.2.2.1.length:Int)))
 (some (true,()))
 (cond (decide (20<(v24.2.2.2.2.2.2.1.length:Int)))
 (some (true,()))
 (some ((decide (20<(v24.2.2.2.2.2.2.2.length:Int))),())))))))).bind λv25 =>
 (cond v25.1
 (some (inr (inr (true,()))))
 (some (inl ((w64 (v23.1+1)),()))))))
 (some (inr (inl ()))))) (0,())).bind λv26 =>
 (cg_ v26 (λv27=>((af_ (ρ:=(Unit⊕(Bool×Unit))) (λ(v29:(Int×Unit)) =>
 (cond (decide (v29.1<(a0.2.2.2.2.2.1.length:Int)))
 ((at? a0.2.2.2.2.2.1 v29.1).bind λv30 =>
 (cond (decide (20<(v30.1.length:Int)))
 (some (inr (inr (true,()))))
 (some (inl ((w64 (v29.1+1)),())))))
 (some (inr (inl ()))))) (0,())).bind λv31 =>
 (cg_ v31 (λv32=>(some (false,())))
 (λv33=>(some v33)))))
 (λv28=>(some v28)))))
 (λv22=>(some v22)))))
 (λv17=>(some v17)))))
 (λv10=>(some v10)))))
 (λv5=>(some v5))))))
theorem x_51:aw_ (P:=prog) (cxC [] []) (.p .z (.p (.j0 [.v 49 .bool] .z .z) (.p (.p .z (.ls [.v 3 .int] [] [] 0 .z)) (.p (.p .z (.ls [.v 4 .int] [] [] 2 .z)) (.p (.p .z (.ls [.v 5 .int] [] [] 4 (.p .z (.p (.j0 [.v 103 .bool] .z .z) .z)))) (.p (.p .z (.ls [.v 6 .int] [] [] 6 .z)) (.p (.p .z (.ls [.v 7 .int] [] [] 8 (.p .z (.p (.p .z (.j0 [.v 164 .bool] .z .z)) .z)))) (.p (.p .z (.ls [.v 9 .int] [] [] 10 .z)) .z)))))))) 51 [an_] [.bool]=λx=>mz_ x.1:=by kernel_rfl
noncomputable def c_51:Con prog:=ax_ _ _ 51 [an_] [.bool] _ x_51
noncomputable def bs_ (a0:Int) (a1:Int) (a2:Int):Option (Bool×Unit) :=
 (cond (decide (a1≤a0))
 (some ((decide (a0≤a2)),()))
 (some (false,())))
theorem x_84:aw_ (P:=prog) (cxC [] []) .z 84 [.int,.int,.int] [.bool]=λx=>bs_ x.1 x.2.1 x.2.2.1:=by kernel_rfl
noncomputable def c_84:Con prog:=ax_ _ _ 84 [.int,.int,.int] [.bool] _ x_84
noncomputable def af4  : Option ((List (List UInt8))×Unit) :=
 (some ([[97,116],[115,116,97,116,101,115],[115,116,97,114,116],[103,111,110,101],[105,102],[108,111,99,107],[119,105,116,104],[115,101,116,115],[115,112,101,110,100,115],[98,114,105,110,103,115]],()))
theorem x_156:aw_ (P:=prog) (cxC [] []) .z 156 [] [(.list .str)]=λx=>af4:=by kernel_rfl
noncomputable def c_156:Con prog:=ax_ _ _ 156 [] [(.list .str)] _ x_156
noncomputable def fq_ (a0:(List (List UInt8))) (a1:Int):Option (Bool×Unit) :=
 ((af_ (ρ:=(Unit⊕(Bool×Unit))) (λ(v0:(Int×Unit)) =>
 (cond (decide (v0.1<a1))
 ((at? a0 v0.1).bind λv1 =>
 ((at? a0 a1).bind λv2 =>
 (cond (v1==v2)
 (some (inr (inr (true,()))))
 (some (inl ((w64 (v0.1+1)),()))))))
 (some (inr (inl ()))))) (0,())).bind λv3 =>
 (cg_ v3 (λv4=>(some (false,())))
 (λv5=>(some v5))))
theorem x_82:aw_ (P:=prog) (cxC [] []) (.p .z (.p (.p .z (.ls [.v 5 .int] [] [] 0 (.p .z (.p (.p (.q [] .z .z) .z) .z)))) .z)) 82 [(.list .str),.int] [.bool]=λx=>fq_ x.1 x.2.1:=by kernel_rfl
noncomputable def c_82:Con prog:=ax_ _ _ 82 [(.list .str),.int] [.bool] _ x_82
noncomputable def mg_ (a0:(List Int)) (a1:Int):Option (Bool×Unit) :=
 ((af_ (ρ:=(Unit⊕(Bool×Unit))) (λ(v0:(Int×Unit)) =>
 (cond (decide (v0.1<(a0.length:Int)))
 ((at? a0 v0.1).bind λv1 =>
 (cond (v1==a1)
 (some (inr (inr (true,()))))
 (some (inl ((w64 (v0.1+1)),())))))
 (some (inr (inl ()))))) (0,())).bind λv2 =>
 (cg_ v2 (λv3=>(some (false,())))
 (λv4=>(some v4))))
theorem x_117:aw_ (P:=prog) (cxC [] []) (.p .z (.p (.p .z (.ls [.v 5 .int] [] [] 0 .z)) .z)) 117 [(.list .int),.int] [.bool]=λx=>mg_ x.1 x.2.1:=by kernel_rfl
noncomputable def c_117:Con prog:=ax_ _ _ 117 [(.list .int),.int] [.bool] _ x_117
noncomputable def bk_ (a0:Int) (a1:Int) (a2:Int):Option (Bool×Unit) :=
 (cond (decide (a1≤a0))
 (some ((decide (a0≤a2)),()))
 (some (false,())))
theorem x_87:aw_ (P:=prog) (cxC [] []) .z 87 [.int,.int,.int] [.bool]=λx=>bk_ x.1 x.2.1 x.2.2.1:=by kernel_rfl
noncomputable def c_87:Con prog:=ax_ _ _ 87 [.int,.int,.int] [.bool] _ x_87
noncomputable def iq_ (a0:Int) (a1:Int) (a2:Int):Option (Bool×Unit) :=
 (cond (decide (a1≤a0))
 (some ((decide (a0≤a2)),()))
 (some (false,())))
theorem x_57:aw_ (P:=prog) (cxC [] []) .z 57 [.int,.int,.int] [.bool]=λx=>iq_ x.1 x.2.1 x.2.2.1:=by kernel_rfl
noncomputable def c_57:Con prog:=ax_ _ _ 57 [.int,.int,.int] [.bool] _ x_57
noncomputable def la_ (a0:ak_):Option (Bool×Unit) :=
 (cond (a0.1==0)
 (cond (a0.2.1==0)
 (cond (a0.2.2.1==0)
 (cond (a0.2.2.2.1==0)
 (cond (a0.2.2.2.2.1==0)
 (cond ((a0.2.2.2.2.2.1.length:Int)==0)
 (some ((!a0.2.2.2.2.2.2),()))
 (some (false,())))
 (some (false,())))
 (some (false,())))
 (some (false,())))
 (some (false,())))
 (some (false,())))
theorem x_89:aw_ (P:=prog) (cxC [] []) .z 89 [ap_] [.bool]=λx=>la_ x.1:=by kernel_rfl
noncomputable def c_89:Con prog:=ax_ _ _ 89 [ap_] [.bool] _ x_89
noncomputable def gp_ (a0:(List Int)) (a1:(List Int)):Option (Bool×Unit) :=
 (cond ((a0.length:Int) != (a1.length:Int))
 (some (false,()))
 ((af_ (ρ:=(Unit⊕(Bool×Unit))) (λ(v0:(Int×Unit)) =>
 (cond (decide (v0.1<(a0.length:Int)))
 ((at? a0 v0.1).bind λv1 =>
 ((at? a1 v0.1).bind λv2 =>
 (cond (v1 != v2)
 (some (inr (inr (false,()))))
 (some (inl ((w64 (v0.1+1)),()))))))
 (some (inr (inl ()))))) (0,())).bind λv3 =>
 (cg_ v3 (λv4=>(some (true,())))
 (λv5=>(some v5)))))
theorem x_202:aw_ (P:=prog) (cxC [] []) (.p .z (.p .z (.p (.p .z (.ls [.v 5 .int] [] [] 0 (.p .z (.p (.p (.q [] .z .z) .z) .z)))) .z))) 202 [(.list .int),(.list .int)] [.bool]=λx=>gp_ x.1 x.2.1:=by kernel_rfl
noncomputable def c_202:Con prog:=ax_ _ _ 202 [(.list .int),(.list .int)] [.bool] _ x_202
noncomputable def ef_ (a0:(List Int)) (a1:Int):Option (Int×Unit) :=
 ((af_ (ρ:=(Int×Unit)) (λ(v0:(Int×(Int×Unit))) =>
 (cond (decide (v0.2.1<(a0.length:Int)))
 ((((at? a0 v0.2.1).bind λv1 =>
 (cond (v1==a1)
 (some ((w64 (v0.1+1)),()))
 (some (v0.1,()))))).bind λv2 =>
 (some (inl (v2.1,((w64 (v0.2.1+1)),())))))
 (some (inr (v0.1,()))))) (0,(0,()))).bind λv3 =>
 (some (v3.1,())))
theorem x_119:aw_ (P:=prog) (cxC [] []) (.p .z (.p .z (.p (.p .z (.lp [.v 5 .int,.v 6 .int] [.v 5 .int] [] 0 (.p .z (.j0 [.v 5 .int] .z .z)))) .z))) 119 [(.list .int),.int] [.int]=λx=>ef_ x.1 x.2.1:=by kernel_rfl
noncomputable def c_119:Con prog:=ax_ _ _ 119 [(.list .int),.int] [.int] _ x_119
noncomputable def bl_ (a0:ai_) (a1:(List bg_)):Option (Bool×Unit) :=
 ((af_ (ρ:=(Unit⊕(Bool×Unit))) (λ(v0:(Int×Unit)) =>
 (cond (decide (v0.1<(a1.length:Int)))
 ((at? a1 v0.1).bind λv1 =>
 ((at? a0.1 v1.1).bind λv2 =>
 ((at? a1 v0.1).bind λv3 =>
 ((at? a1 v0.1).bind λv4 =>
 (cond ((v2==v3.2.1)==v4.2.2)
 (some (inr (inr (false,()))))
 (some (inl ((w64 (v0.1+1)),()))))))))
 (some (inr (inl ()))))) (0,())).bind λv5 =>
 (cg_ v5 (λv6=>(some (true,())))
 (λv7=>(some v7))))
theorem x_68:aw_ (P:=prog) (cxC [] []) (.p .z (.p (.p .z (.ls [.v 5 .int] [] [] 0 (.p .z (.p (.p (.q [] .z .z) .z) .z)))) .z)) 68 [aq_,(.list ca_)] [.bool]=λx=>bl_ x.1 x.2.1:=by kernel_rfl
noncomputable def c_68:Con prog:=ax_ _ _ 68 [aq_,(.list ca_)] [.bool] _ x_68
noncomputable def fr_ (a0:ai_):Option (ai_×Unit) :=
 ((push? (α:=Int) [] a0.1).bind λv0 =>
 ((push? (α:=Int) [] a0.2.1).bind λv1 =>
 ((push? (α:=Int) [] a0.2.2).bind λv2 =>
 (some ((v0,(v1,v2)),())))))
theorem x_125:aw_ (P:=prog) (cxC [] []) .z 125 [aq_] [aq_]=λx=>fr_ x.1:=by kernel_rfl
noncomputable def c_125:Con prog:=ax_ _ _ 125 [aq_] [aq_] _ x_125
def an_94:An:=.z
noncomputable def cs_94 (f:List (Con prog)):List (Con prog):=f++[]
noncomputable def cl_94:List (Cpy prog):=[]
noncomputable def cx_94 (f:List (Con prog)):Cx prog:=cxC (cs_94 f) cl_94
noncomputable def g_94 (cc_:Int→Option ((List UInt8)×Unit)) (a0:Int):Option ((List UInt8)×Unit) :=
 ((sub? [48,49,50,51,52,53,54,55,56,57] (Int.tmod a0 10) (w64 ((Int.tmod a0 10)+1))).bind λv0 =>
 (cond (decide (a0<10))
 (some (v0,()))
 ((cc_ (w64 (Int.tdiv a0 10))).bind λv1 =>
 ((cat? v1.1 v0).bind λv2 =>
 (some (v2,()))))))
theorem xr_94:(λ(F:Int→Option ((List UInt8)×Unit)) (h:cd9 prog 94 [.int] [.str] (λx=>F x.1))=>aw_ (cx_94 [cnv 94 [.int] [.str] _ h]) an_94 94 [.int] [.str])=λF h x=>g_94 F x.1:=by kernel_rfl
noncomputable def dq_:Nat→Int→Option ((List UInt8)×Unit)
 | 0=>λ_=>none
 | n+1=>g_94 (dq_ n)
theorem ok_94:∀ n,cd9 prog 94 [.int] [.str] (λx=>dq_ n x.1)
 | 0=>λ_ _ _ h=>(by cases h)
 | n+1=>λhG hI ha h=>(ax_ _ _ 94 [.int] [.str] _ (congrFun (congrFun xr_94 (dq_ n)) (ok_94 n))).ok hG hI ha h
noncomputable def cc_ (a0:Int):Option ((List UInt8)×Unit):=dq_ 20 a0
noncomputable def c_94:Con prog:=cnv 94 [.int] [.str] (λx=>cc_ x.1) (ok_94 20)
noncomputable def ha_ (a0:ai_) (a1:Int):Option (Int×Unit) :=
 ((af_ (ρ:=(Int×Unit)) (λ(v0:(Int×(Int×Unit))) =>
 (cond (decide (v0.2.1<(a0.2.1.length:Int)))
 ((((at? a0.2.1 v0.2.1).bind λv1 =>
 (cond (v1==(w64 ((-2) - a1)))
 (some ((w64 (v0.1+1)),()))
 (some (v0.1,()))))).bind λv2 =>
 (some (inl (v2.1,((w64 (v0.2.1+1)),())))))
 (some (inr (v0.1,()))))) (0,(0,()))).bind λv3 =>
 (some (v3.1,())))
theorem x_159:aw_ (P:=prog) (cxC [] []) (.p .z (.p .z (.p (.p .z (.lp [.v 5 .int,.v 6 .int] [.v 5 .int] [] 0 (.p .z (.j0 [.v 5 .int] .z .z)))) .z))) 159 [aq_,.int] [.int]=λx=>ha_ x.1 x.2.1:=by kernel_rfl
noncomputable def c_159:Con prog:=ax_ _ _ 159 [aq_,.int] [.int] _ x_159
noncomputable def ji_ (a0:ad_) (a1:(List Int)):Option ((List ak_)×Unit) :=
 ((af_ (ρ:=((List ak_)×Unit)) (λ(v0:((List ak_)×(Int×Unit))) =>
 (cond (decide (v0.2.1<(a1.length:Int)))
 ((at? a1 v0.2.1).bind λv1 =>
 ((at? a0.2.2.2.1 v1).bind λv2 =>
 ((push? (α:=ak_) v0.1 [v2.2.2.2.2]).bind λv3 =>
 (some (inl (v3,((w64 (v0.2.1+1)),())))))))
 (some (inr (v0.1,()))))) ([],(0,()))).bind λv4 =>
 (some (v4.1,())))
theorem x_204:aw_ (P:=prog) (cxC [] []) (.p .z (.p .z (.p (.p .z (.lp [.r 5 ap_ 80,.v 6 .int] [.r 5 ap_ 80] [] 0 .z)) .z))) 204 [ao_,(.list .int)] [(.list ap_)]=λx=>ji_ x.1 x.2.1:=by kernel_rfl
noncomputable def c_204:Con prog:=ax_ _ _ 204 [ao_,(.list .int)] [(.list ap_)] _ x_204
noncomputable def hl_ (a0:ad_) (a1:aa_) (a2:Int):Option ((List Int)×Unit) :=
 ((af_ (ρ:=((List Int)×Unit)) (λ(v0:((List Int)×(Int×Unit))) =>
 (cond (decide (v0.2.1<(a0.2.2.2.1.length:Int)))
 ((((((at? a1.2 v0.2.1).bind λv1 =>
 (cond v1
 ((at? a0.2.2.2.1 v0.2.1).bind λv2 =>
 (some ((v2.2.2.1==a2),())))
 (some (false,()))))).bind λv3 =>
 (cond v3.1
 ((push? (α:=Int) v0.1 [v0.2.1]).bind λv4 =>
 (some (v4,())))
 (some (v0.1,()))))).bind λv5 =>
 (some (inl (v5.1,((w64 (v0.2.1+1)),())))))
 (some (inr (v0.1,()))))) ([],(0,()))).bind λv6 =>
 (some (v6.1,())))
theorem x_161:aw_ (P:=prog) (cxC [] []) (.p .z (.p .z (.p (.p .z (.lp [.r 7 .int 3,.v 8 .int] [.r 7 .int 3] [] 0 (.p .z (.j0 [.r 7 .int 3] (.j0 [.v 30 .bool] .z .z) .z)))) .z))) 161 [ao_,aj_,.int] [(.list .int)]=λx=>hl_ x.1 x.2.1 x.2.2.1:=by kernel_rfl
noncomputable def c_161:Con prog:=ax_ _ _ 161 [ao_,aj_,.int] [(.list .int)] _ x_161
noncomputable def be_ (a0:Int) (a1:Int) (a2:Int):Option (Bool×Unit) :=
 (cond (decide (a1≤a0))
 (some ((decide (a0≤a2)),()))
 (some (false,())))
theorem x_165:aw_ (P:=prog) (cxC [] []) .z 165 [.int,.int,.int] [.bool]=λx=>be_ x.1 x.2.1 x.2.2.1:=by kernel_rfl
noncomputable def ca9:Con prog:=ax_ _ _ 165 [.int,.int,.int] [.bool] _ x_165
noncomputable def ds_ (a0:(List (List UInt8))) (a1:(List UInt8)):Option (Int×Unit) :=
 ((af_ (ρ:=(Unit⊕(Int×Unit))) (λ(v0:(Int×Unit)) =>
 (cond (decide (v0.1<(a0.length:Int)))
 ((at? a0 v0.1).bind λv1 =>
 (cond (a1==v1)
 (some (inr (inr (v0.1,()))))
 (some (inl ((w64 (v0.1+1)),())))))
 (some (inr (inl ()))))) (0,())).bind λv2 =>
 (cg_ v2 (λv3=>(some ((-1),())))
 (λv4=>(some v4))))
theorem x_255:aw_ (P:=prog) (cxC [] []) (.p .z (.p (.p .z (.ls [.v 8 .int] [] [] 0 .z)) .z)) 255 [(.list .str),.str] [.int]=λx=>ds_ x.1 x.2.1:=by kernel_rfl
noncomputable def c_255:Con prog:=ax_ _ _ 255 [(.list .str),.str] [.int] _ x_255
noncomputable def um_ (a0:(List UInt8)):Option ((List UInt8)×Unit) :=
 (some (a0,()))
theorem x_170:aw_ (P:=prog) (cxC [] []) .z 170 [.str] [.str]=λx=>um_ x.1:=by kernel_rfl
noncomputable def c_170:Con prog:=ax_ _ _ 170 [.str] [.str] _ x_170
noncomputable def ul_ (a0:gw_):Option ((List UInt8)×Unit) :=
 (some (a0.1,()))
theorem x_172:aw_ (P:=prog) (cxC [] []) .z 172 [ql_] [.str]=λx=>ul_ x.1:=by kernel_rfl
noncomputable def c_172:Con prog:=ax_ _ _ 172 [ql_] [.str] _ x_172
noncomputable def xh_ (a0:jv_):Option ((List UInt8)×Unit) :=
 (some (a0.1,()))
theorem x_174:aw_ (P:=prog) (cxC [] []) .z 174 [pb_] [.str]=λx=>xh_ x.1:=by kernel_rfl
noncomputable def c_174:Con prog:=ax_ _ _ 174 [pb_] [.str] _ x_174
noncomputable def yn_ (a0:cu_):Option ((List UInt8)×Unit) :=
 (some (a0.1,()))
theorem x_212:aw_ (P:=prog) (cxC [] []) .z 212 [ly_] [.str]=λx=>yn_ x.1:=by kernel_rfl
noncomputable def c_212:Con prog:=ax_ _ _ 212 [ly_] [.str] _ x_212
noncomputable def gz_ (a0:ae_) (a1:(List Int)):Option (Bool×Unit) :=
 ((af_ (ρ:=(Unit⊕(Bool×Unit))) (λ(v0:(Int×(Int×Unit))) =>
 (cond (decide (v0.2.1<(a1.length:Int)))
 ((at? a1 v0.2.1).bind λv1 =>
 (((cond (decide (v1≤v0.1))
 (some (true,()))
 (some ((decide ((a0.2.2.1.length:Int)≤v1)),())))).bind λv2 =>
 (cond v2.1
 (some (inr (inr (false,()))))
 (some (inl (v1,((w64 (v0.2.1+1)),())))))))
 (some (inr (inl ()))))) ((-1),(0,()))).bind λv3 =>
 (cg_ v3 (λv4=>(some (true,())))
 (λv5=>(some v5))))
theorem x_213:aw_ (P:=prog) (cxC [] []) (.p .z (.p .z (.p (.p .z (.ls [.v 5 .int,.v 10 .int] [] [] 0 (.p .z (.p .z (.p (.p .z (.p (.j0 [.v 23 .bool] .z .z) .z)) .z))))) .z))) 213 [an_,(.list .int)] [.bool]=λx=>gz_ x.1 x.2.1:=by kernel_rfl
noncomputable def c_213:Con prog:=ax_ _ _ 213 [an_,(.list .int)] [.bool] _ x_213
noncomputable def ep_ (a0:(List Int)) (a1:Int):Option (Int×Unit) :=
 ((af_ (ρ:=(Unit⊕(Int×Unit))) (λ(v0:(Int×Unit)) =>
 (cond (decide (v0.1<(a0.length:Int)))
 ((at? a0 v0.1).bind λv1 =>
 (cond (a1==v1)
 (some (inr (inr (v0.1,()))))
 (some (inl ((w64 (v0.1+1)),())))))
 (some (inr (inl ()))))) (0,())).bind λv2 =>
 (cg_ v2 (λv3=>(some ((-1),())))
 (λv4=>(some v4))))
theorem x_186:aw_ (P:=prog) (cxC [] []) (.p .z (.p (.p .z (.ls [.v 8 .int] [] [] 0 .z)) .z)) 186 [(.list .int),.int] [.int]=λx=>ep_ x.1 x.2.1:=by kernel_rfl
noncomputable def c_186:Con prog:=ax_ _ _ 186 [(.list .int),.int] [.int] _ x_186
noncomputable def bv_ (a0:Int) (a1:Int) (a2:Int):Option (Bool×Unit) :=
 (cond (decide (a1≤a0))
 (some ((decide (a0≤a2)),()))
 (some (false,())))
theorem x_177:aw_ (P:=prog) (cxC [] []) .z 177 [.int,.int,.int] [.bool]=λx=>bv_ x.1 x.2.1 x.2.2.1:=by kernel_rfl
noncomputable def co4:Con prog:=ax_ _ _ 177 [.int,.int,.int] [.bool] _ x_177
noncomputable def bz_ (a0:Int) (a1:Int) (a2:Int):Option (Bool×Unit) :=
 (cond (decide (a1≤a0))
 (some ((decide (a0≤a2)),()))
 (some (false,())))
theorem x_136:aw_ (P:=prog) (cxC [] []) .z 136 [.int,.int,.int] [.bool]=λx=>bz_ x.1 x.2.1 x.2.2.1:=by kernel_rfl
noncomputable def cb0:Con prog:=ax_ _ _ 136 [.int,.int,.int] [.bool] _ x_136
noncomputable def my_ (a0:(List UInt8)):Option (Bool×Unit) :=
 (((cond (a0==[])
 (some ((a0==[]),()))
 (cond (a0==[97,116])
 (some ((a0==[97,116]),()))
 (cond (a0==[115,116,97,116,101,115])
 (some ((a0==[115,116,97,116,101,115]),()))
 (cond (a0==[115,116,97,114,116])
 (some ((a0==[115,116,97,114,116]),()))
 (cond (a0==[103,111,110,101])
 (some ((a0==[103,111,110,101]),()))
 (cond (a0==[105,102])
 (some ((a0==[105,102]),()))
 (cond (a0==[108,111,99,107])
 (some ((a0==[108,111,99,107]),()))
 (cond (a0==[119,105,116,104])
 (some ((a0==[119,105,116,104]),()))
 (cond (a0==[115,101,116,115])
 (some ((a0==[115,101,116,115]),()))
 (cond (a0==[115,112,101,110,100,115])
 (some ((a0==[115,112,101,110,100,115]),()))
 (some ((a0==[98,114,105,110,103,115]),()))))))))))))).bind λv0 =>
 (cond v0.1
 (some (false,()))
 ((af_ (ρ:=(Unit⊕(Bool×Unit))) (λ(v1:(Int×Unit)) =>
 (cond (decide (v1.1<(a0.length:Int)))
 ((((at? a0 v1.1).bind λv2 =>
 (cond (decide (((UInt8.toNat v2):Int)<97))
 (some (true,()))
 ((at? a0 v1.1).bind λv3 =>
 (some ((decide (122<((UInt8.toNat v3):Int))),())))))).bind λv4 =>
 (cond v4.1
 (some (inr (inr (false,()))))
 (some (inl ((w64 (v1.1+1)),())))))
 (some (inr (inl ()))))) (0,())).bind λv5 =>
 (cg_ v5 (λv6=>(some (true,())))
 (λv7=>(some v7))))))
theorem x_181:aw_ (P:=prog) (cxC [] []) (.p .z (.p (.p .z (.j0 [.v 5 .bool] .z .z)) (.p (.p .z (.ls [.v 19 .int] [] [] 1 (.p .z (.p .z (.p (.p .z (.j0 [.v 31 .bool] .z .z)) .z))))) .z))) 181 [.str] [.bool]=λx=>my_ x.1:=by kernel_rfl
noncomputable def c_181:Con prog:=ax_ _ _ 181 [.str] [.bool] _ x_181
noncomputable def ki_ (a0:ak_):Option (Bool×Unit) :=
 (cond (a0.1==0)
 (cond (a0.2.1==0)
 (cond (a0.2.2.1==0)
 (cond (a0.2.2.2.1==0)
 (cond (a0.2.2.2.2.1==0)
 (cond ((a0.2.2.2.2.2.1.length:Int)==0)
 (some ((!a0.2.2.2.2.2.2),()))
 (some (false,())))
 (some (false,())))
 (some (false,())))
 (some (false,())))
 (some (false,())))
 (some (false,())))
theorem x_182:aw_ (P:=prog) (cxC [] []) .z 182 [ap_] [.bool]=λx=>ki_ x.1:=by kernel_rfl
noncomputable def c_182:Con prog:=ax_ _ _ 182 [ap_] [.bool] _ x_182
noncomputable def ii_ (a0:(List Int)) (a1:(List Int)):Option (Int×Int×Unit) :=
 ((af_ (ρ:=(Int×((List Int)×((List Int)×Unit)))) (λ(v0:(Int×(Int×((List Int)×((List Int)×Unit))))) =>
 (cond (decide (v0.2.1<(a0.length:Int)))
 ((at? a0 v0.2.1).bind λv1 =>
 ((((at? a1 v0.2.1).bind λv2 =>
 (cond (v1==v2)
 (some ((w64 (v0.1+1)),()))
 (some (v0.1,()))))).bind λv3 =>
 (cond (decide (v1<(10:Int)))
 ((at? v0.2.2.1 v1).bind λv4 =>
 ((at? v0.2.2.1 v1).bind λv5 =>
 (cond (decide (v1<(10:Int)))
 ((at? v0.2.2.1 v1).bind λv6 =>
 ((at? v0.2.2.1 v1).bind λv7 =>
 ((at? a1 v0.2.1).bind λv8 =>
 (cond (decide (v8<(10:Int)))
 ((at? v0.2.2.2.1 v8).bind λv9 =>
 ((at? v0.2.2.2.1 v8).bind λv10 =>
 (cond (decide (v8<(10:Int)))
 ((at? v0.2.2.2.1 v8).bind λv11 =>
 ((at? v0.2.2.2.1 v8).bind λv12 =>
 (some (inl (v3.1,((w64 (v0.2.1+1)),((v0.2.2.1.set v1.toNat (w64 (v5+1))),((v0.2.2.2.1.set v8.toNat (w64 (v10+1))),()))))))))
 none)))
 none))))
 none)))
 none)))
 (some (inr (v0.1,(v0.2.2.1,(v0.2.2.2.1,()))))))) (0,(0,([0,0,0,0,0,0,0,0,0,0],([0,0,0,0,0,0,0,0,0,0],()))))).bind λv13 =>
 ((af_ (ρ:=(Int×Unit)) (λ(v14:(Int×(Int×Unit))) =>
 (cond (decide (v14.2.1<10))
 (cond (decide (v14.2.1<(10:Int)))
 ((at? v13.2.1 v14.2.1).bind λv15 =>
 ((at? v13.2.1 v14.2.1).bind λv16 =>
 (cond (decide (v14.2.1<(10:Int)))
 ((at? v13.2.2.1 v14.2.1).bind λv17 =>
 ((at? v13.2.2.1 v14.2.1).bind λv18 =>
 (some (inl ((w64 (v14.1+(minI v16 v18))),((w64 (v14.2.1+1)),()))))))
 none)))
 none)
 (some (inr (v14.1,()))))) (0,(0,()))).bind λv19 =>
 (some (v13.1,((w64 (v19.1 - v13.1)),())))))
theorem x_259:aw_ (P:=prog) (cxC [] []) (.p .z (.p .z (.p (.p .z (.lp [.v 4 .int,.v 13 .int] [.v 4 .int] [.o (.s 6) .int,.o (.s 7) .int] 0 (.p .z (.p .z (.p (.p .z (.j0 [.v 4 .int] .z .z)) .z))))) (.p (.p .z (.lp [.v 5 .int,.v 40 .int] [.v 5 .int] [] 2 .z)) .z)))) 259 [(.list .int),(.list .int)] [.int,.int]=λx=>ii_ x.1 x.2.1:=by kernel_rfl
noncomputable def c_259:Con prog:=ax_ _ _ 259 [(.list .int),(.list .int)] [.int,.int] _ x_259
noncomputable def bc_ (a0:hf_) (a1:(List bg_)):Option (Bool×Unit) :=
 ((((af_ (ρ:=(Unit⊕(Bool×Unit))) (λ(v0:(Int×Unit)) =>
 (cond (decide (v0.1<(a1.length:Int)))
 ((at? a1 v0.1).bind λv1 =>
 ((at? a0.2.1 v1.1).bind λv2 =>
 (cond ((v2==v1.2.1)==v1.2.2)
 (some (inr (inr ((decide (0≤v0.1)),()))))
 (some (inl ((w64 (v0.1+1)),()))))))
 (some (inr (inl ()))))) (0,())).bind λv3 =>
 (cg_ v3 (λv4=>(some ((decide (0≤(-1))),())))
 (λv5=>(some v5))))).bind λv6 =>
 (some ((!v6.1),())))
theorem x_130:aw_ (P:=prog) (cxI (λk=>cond (Nat.beq k 166) (.p .z (.j0 [.v 4 .bool] .z .z)) (cond (Nat.beq k 167) (.p .z (.p (.q [] .z .z) .z)) (cond (Nat.beq k 205) (.p .z (.p (.p .z (.ls [.v 8 .int] [] [] 0 .z)) .z)) (.z)))) (λk=>false) (cxC [] []) 4) .z 130 [(.ref fa_),(.list ca_)] [.bool]=λx=>bc_ x.1 x.2.1:=by kernel_rfl
noncomputable def cb1:Con prog:=ax_ _ _ 130 [(.ref fa_),(.list ca_)] [.bool] _ x_130
noncomputable def lf_ (a0:aa_):Option ((List UInt8)×Unit) :=
 ((af_ (ρ:=((List UInt8)×Unit)) (λ(v0:((List UInt8)×(Int×Unit))) =>
 (cond (decide (v0.2.1<(a0.2.length:Int)))
 ((at? a0.2 v0.2.1).bind λv1 =>
 ((dx_ v1).bind λv2 =>
 ((cat? v2.1 [32]).bind λv3 =>
 ((cat? v0.1 v3).bind λv4 =>
 (some (inl (v4,((w64 (v0.2.1+1)),()))))))))
 (some (inr (v0.1,()))))) ([],(0,()))).bind λv5 =>
 (some (v5.1,())))
theorem x_143:aw_ (P:=prog) (cxC [c_190] []) (.p .z (.p .z (.p (.p .z (.lp [.v 3 .str,.v 9 .int] [.v 3 .str] [] 0 .z)) .z))) 143 [aj_] [.str]=λx=>lf_ x.1:=by kernel_rfl
noncomputable def c_143:Con prog:=ax_ _ _ 143 [aj_] [.str] _ x_143
noncomputable def dg_ (a0:hf_) (a1:Int):Option (Int×Unit) :=
 ((af_ (ρ:=(Int×Unit)) (λ(v0:(Int×(Int×Unit))) =>
 (cond (decide (v0.2.1<(a0.2.2.1.length:Int)))
 ((((at? a0.2.2.1 v0.2.1).bind λv1 =>
 (cond (v1==(w64 ((-2) - a1)))
 (some ((w64 (v0.1+1)),()))
 (some (v0.1,()))))).bind λv2 =>
 (some (inl (v2.1,((w64 (v0.2.1+1)),())))))
 (some (inr (v0.1,()))))) (0,(0,()))).bind λv3 =>
 (some (v3.1,())))
theorem x_196:aw_ (P:=prog) (cxC [] []) (.p .z (.p (.p .z (.lp [.v 4 .int,.v 13 .int] [.v 4 .int] [] 0 (.p .z (.p .z (.j0 [.v 4 .int] .z .z))))) .z)) 196 [(.ref fa_),.int] [.int]=λx=>dg_ x.1 x.2.1:=by kernel_rfl
noncomputable def c_196:Con prog:=ax_ _ _ 196 [(.ref fa_),.int] [.int] _ x_196
noncomputable def af5 (a0:ac_):Option (Bool×Unit) :=
 (some (true,()))
theorem x_64:aw_ (P:=prog) (cxC [] []) .z 64 [cv_] [.bool]=λx=>af5 x.1:=by kernel_rfl
noncomputable def c_64:Con prog:=ax_ _ _ 64 [cv_] [.bool] _ x_64
noncomputable def xj_  : Option (ae_×Unit) :=
 (some (([[104,97,108,108],[118,97,117,108,116]],([([98,111,120],(0,(2,0))),([100,111,111,114],(0,(2,0)))],([([107,101,121],(0,[(0,(1,false))]))],([(0,(1,[(1,(1,false))]))],([([111,112,101,110],(0,(0,([],([],([(0,1)],([],[]))))))),([116,117,114,110],(0,((-1),([0],([],([(1,1)],([0],[])))))))],([],(1,[]))))))),()))
theorem x_62:aw_ (P:=prog) (cxC [] []) .z 62 [] [an_]=λx=>xj_:=by kernel_rfl
noncomputable def c_62:Con prog:=ax_ _ _ 62 [] [an_] _ x_62
noncomputable def ck_ (a0:(List bg_)):Option ((List bg_)×Unit) :=
 ((push? (α:=bg_) [] a0).bind λv0 =>
 (some (v0,())))
theorem x_65:aw_ (P:=prog) (cxC [] []) .z 65 [(.list ca_)] [(.list ca_)]=λx=>ck_ x.1:=by kernel_rfl
noncomputable def c_65:Con prog:=ax_ _ _ 65 [(.list ca_)] [(.list ca_)] _ x_65
noncomputable def dp_ (a0:(List Int)):Option ((List Int)×Unit) :=
 ((push? (α:=Int) [] a0).bind λv0 =>
 (some (v0,())))
theorem x_66:aw_ (P:=prog) (cxC [] []) .z 66 [(.list .int)] [(.list .int)]=λx=>dp_ x.1:=by kernel_rfl
noncomputable def c_66:Con prog:=ax_ _ _ 66 [(.list .int)] [(.list .int)] _ x_66
noncomputable def go_ (a0:ak_):Option (ak_×Unit) :=
 ((push? (α:=Int) [] a0.2.2.2.2.2.1).bind λv0 =>
 (some ((a0.1,(a0.2.1,(a0.2.2.1,(a0.2.2.2.1,(a0.2.2.2.2.1,(v0,a0.2.2.2.2.2.2)))))),())))
theorem x_30:aw_ (P:=prog) (cxC [] []) .z 30 [ap_] [ap_]=λx=>go_ x.1:=by kernel_rfl
noncomputable def c_30:Con prog:=ax_ _ _ 30 [ap_] [ap_] _ x_30
noncomputable def og_ (a0:ac_) (a1:Int):Option (Bool×Unit) :=
 (cond (a0.1.2.1==4)
 (some ((a0.1.2.2==a1),()))
 (some (false,())))
end
section
set_option maxRecDepth 100000
set_option maxHeartbeats 0
noncomputable def kk_ (a0:ad_):Option (Bool×Unit) :=
 ((((mz_ a0.1).bind λv0 =>
 (cond v0.1
 (some (true,()))
 (cond (decide (10<(a0.2.1.length:Int)))
 (some (true,()))
 (cond (decide (10<(a0.2.2.1.length:Int)))
 (some (true,()))
 (some ((decide (20<(a0.2.2.2.1.length:Int))),()))))))).bind λv1 =>
 (cond v1.1
 (some (true,()))
 ((af_ (ρ:=(Unit⊕(Bool×Unit))) (λ(v2:(Int×Unit)) =>
 (cond (decide (v2.1<(a0.2.1.length:Int)))
 ((((at? a0.2.1 v2.1).bind λv3 =>
 (cond (decide (3<v3.1))
 ((at? a0.2.1 v2.1).bind λv4 =>
 (some ((decide (5<v4.2)),())))
 (some (false,()))))).bind λv5 =>
 (cond v5.1
 (some (inr (inr (true,()))))
 (some (inl ((w64 (v2.1+1)),())))))
 (some (inr (inl ()))))) (0,())).bind λv6 =>
 (cg_ v6 (λv7=>((af_ (ρ:=(Unit⊕(Bool×Unit))) (λ(v9:(Int×Unit)) =>
 (cond (decide (v9.1<(a0.2.2.1.length:Int)))
 ((at? a0.2.2.1 v9.1).bind λv10 =>
 (cond (decide (10<(v10.length:Int)))
 (some (inr (inr (true,()))))
 (some (inl ((w64 (v9.1+1)),())))))
 (some (inr (inl ()))))) (0,())).bind λv11 =>
 (cg_ v11 (λv12=>((af_ (ρ:=(Unit⊕(Bool×Unit))) (λ(v14:(Int×Unit)) =>
 (cond (decide (v14.1<(a0.2.2.2.1.length:Int)))
 ((at? a0.2.2.2.1 v14.1).bind λv15 =>
 (((cond (decide (100<(v15.1.length:Int)))
 (some (true,()))
 (cond (decide (20<(v15.2.2.2.1.length:Int)))
 (some (true,()))
 (some ((decide (10<(v15.2.2.2.2.2.2.2.2.2.1.length:Int))),()))))).bind λv16 =>
 (cond v16.1
 (some (inr (inr (true,()))))
 (some (inl ((w64 (v14.1+1)),()))))))
 (some (inr (inl ()))))) (0,())).bind λv17 =>
 (cg_ v17 (λv18=>(some (false,())))
 (λv19=>(some v19)))))
 (λv13=>(some v13)))))
 (λv8=>(some v8))))))
theorem x_23:aw_ (P:=prog) (cxC [c_51] []) (.p .z (.p (.j0 [.v 27 .bool] .z .z) (.p (.p .z (.ls [.v 3 .int] [] [] 0 (.p .z (.p (.j0 [.v 50 .bool] .z .z) .z)))) (.p (.p .z (.ls [.v 4 .int] [] [] 2 .z)) (.p (.p .z (.ls [.v 5 .int] [] [] 4 (.p .z (.p (.p .z (.j0 [.v 93 .bool] .z .z)) .z)))) .z))))) 23 [ao_] [.bool]=λx=>kk_ x.1:=by kernel_rfl
noncomputable def c_23:Con prog:=ax_ _ _ 23 [ao_] [.bool] _ x_23
noncomputable def gs_ (a0:ae_) (a1:Int) (a2:Int):Option (Bool×Unit) :=
 ((bs_ a1 0 (w64 ((a0.2.1.length:Int) - 1))).bind λv0 =>
 (cond v0.1
 ((at? a0.2.1 a1).bind λv1 =>
 ((bs_ a2 0 (w64 (v1.2.2.1 - 1))).bind λv2 =>
 (some (v2.1,()))))
 (some (false,()))))
theorem x_86:aw_ (P:=prog) (cxC [c_84] []) .z 86 [an_,.int,.int] [.bool]=λx=>gs_ x.1 x.2.1 x.2.2.1:=by kernel_rfl
noncomputable def c_86:Con prog:=ax_ _ _ 86 [an_,.int,.int] [.bool] _ x_86
noncomputable def hn_ (a0:(List UInt8)):Option (Bool×Unit) :=
 ((af_ (ρ:=(Unit⊕(Bool×Unit))) (λ(v0:(Int×Unit)) =>
 (cond (decide (v0.1<(a0.length:Int)))
 ((((at? a0 v0.1).bind λv1 =>
 (cond (decide (((UInt8.toNat v1):Int)<97))
 (some (true,()))
 ((at? a0 v0.1).bind λv2 =>
 (some ((decide (122<((UInt8.toNat v2):Int))),())))))).bind λv3 =>
 (cond v3.1
 (some (inr (inr (false,()))))
 (some (inl ((w64 (v0.1+1)),())))))
 (some (inr (inl ()))))) (0,())).bind λv4 =>
 (cg_ v4 (λv5=>((af_ (ρ:=(Unit⊕(Bool×Unit))) (λ(v7:(Int×Unit)) =>
 (cond (decide (v7.1<(([[97,116],[115,116,97,116,101,115],[115,116,97,114,116],[103,111,110,101],[105,102],[108,111,99,107],[119,105,116,104],[115,101,116,115],[115,112,101,110,100,115],[98,114,105,110,103,115]]).length:Int)))
 ((at? [[97,116],[115,116,97,116,101,115],[115,116,97,114,116],[103,111,110,101],[105,102],[108,111,99,107],[119,105,116,104],[115,101,116,115],[115,112,101,110,100,115],[98,114,105,110,103,115]] v7.1).bind λv8 =>
 (cond (v8==a0)
 (some (inr (inr (false,()))))
 (some (inl ((w64 (v7.1+1)),())))))
 (some (inr (inl ()))))) (0,())).bind λv9 =>
 (cg_ v9 (λv10=>(some ((!(a0==[])),())))
 (λv11=>(some v11)))))
 (λv6=>(some v6))))
theorem x_115:aw_ (P:=prog) (cxC [c_156] []) (.p .z (.p (.p .z (.ls [.v 3 .int] [] [] 0 (.p .z (.p (.j0 [.v 21 .bool] .z .z) .z)))) (.p .z (.p (.p .z (.ls [.v 5 .int] [] [] 2 .z)) .z)))) 115 [.str] [.bool]=λx=>hn_ x.1:=by kernel_rfl
noncomputable def c_115:Con prog:=ax_ _ _ 115 [.str] [.bool] _ x_115
noncomputable def cr_ (a0:ae_) (a1:Int):Option (Bool×Unit) :=
 ((bs_ a1 0 (w64 ((a0.1.length:Int) - 1))).bind λv0 =>
 (some (v0.1,())))
theorem x_83:aw_ (P:=prog) (cxC [c_84] []) .z 83 [an_,.int] [.bool]=λx=>cr_ x.1 x.2.1:=by kernel_rfl
noncomputable def c_83:Con prog:=ax_ _ _ 83 [an_,.int] [.bool] _ x_83
noncomputable def dh_ (a0:ae_) (a1:(List Int)):Option (Bool×Unit) :=
 ((af_ (ρ:=(Unit⊕(Bool×Unit))) (λ(v0:(Int×Unit)) =>
 (cond (decide (v0.1<(a1.length:Int)))
 ((((at? a1 v0.1).bind λv1 =>
 ((bs_ v1 0 (w64 ((a0.2.2.1.length:Int) - 1))).bind λv2 =>
 (cond (!v2.1)
 (some (true,()))
 (cond (decide (0<v0.1))
 ((at? a1 v0.1).bind λv3 =>
 ((at? a1 (w64 (v0.1 - 1))).bind λv4 =>
 (some ((decide (v3≤v4)),()))))
 (some (false,()))))))).bind λv5 =>
 (cond v5.1
 (some (inr (inr (false,()))))
 (some (inl ((w64 (v0.1+1)),())))))
 (some (inr (inl ()))))) (0,())).bind λv6 =>
 (cg_ v6 (λv7=>(some (true,())))
 (λv8=>(some v8))))
theorem x_116:aw_ (P:=prog) (cxC [c_84] []) (.p .z (.p (.p .z (.ls [.v 5 .int] [] [] 0 (.p .z (.p (.j0 [.v 37 .bool] (.q [] .z .z) .z) .z)))) .z)) 116 [an_,(.list .int)] [.bool]=λx=>dh_ x.1 x.2.1:=by kernel_rfl
noncomputable def c_116:Con prog:=ax_ _ _ 116 [an_,(.list .int)] [.bool] _ x_116
noncomputable def eg_ (a0:ab_):Option (Int×Unit) :=
 ((((bk_ a0.1 1 4).bind λv0 =>
 (cond (!v0.1)
 (some (true,()))
 ((bk_ a0.2 2 10).bind λv1 =>
 (some ((!v1.1),())))))).bind λv2 =>
 (cond v2.1
 (some (10,()))
 (some (0,()))))
theorem x_53:aw_ (P:=prog) (cxC [c_87] []) (.p .z (.p (.j0 [.v 12 .bool] .z .z) .z)) 53 [al_] [.int]=λx=>eg_ x.1:=by kernel_rfl
noncomputable def c_53:Con prog:=ax_ _ _ 53 [al_] [.int] _ x_53
noncomputable def gj_ (a0:ab_) (a1:(List Int)):Option (Bool×Unit) :=
 (cond ((a1.length:Int) != a0.1)
 (some (false,()))
 ((af_ (ρ:=(Unit⊕(Bool×Unit))) (λ(v0:(Int×Unit)) =>
 (cond (decide (v0.1<(a1.length:Int)))
 ((at? a1 v0.1).bind λv1 =>
 ((bk_ v1 0 (w64 (a0.2 - 1))).bind λv2 =>
 (cond (!v2.1)
 (some (inr (inr (false,()))))
 (some (inl ((w64 (v0.1+1)),()))))))
 (some (inr (inl ()))))) (0,())).bind λv3 =>
 (cg_ v3 (λv4=>(some (true,())))
 (λv5=>(some v5)))))
theorem x_88:aw_ (P:=prog) (cxC [c_87] []) (.p .z (.p .z (.p (.p .z (.ls [.v 5 .int] [] [] 0 (.p .z (.p (.p (.q [] .z .z) .z) .z)))) .z))) 88 [al_,(.list .int)] [.bool]=λx=>gj_ x.1 x.2.1:=by kernel_rfl
noncomputable def c_88:Con prog:=ax_ _ _ 88 [al_,(.list .int)] [.bool] _ x_88
noncomputable def ix_ (a0:ak_) (a1:ak_):Option (Bool×Unit) :=
 (cond (a0.1==a1.1)
 (cond (a0.2.1==a1.2.1)
 (cond (a0.2.2.1==a1.2.2.1)
 (cond (a0.2.2.2.1==a1.2.2.2.1)
 (cond (a0.2.2.2.2.1==a1.2.2.2.2.1)
 (cond (a0.2.2.2.2.2.2==a1.2.2.2.2.2.2)
 ((gp_ a0.2.2.2.2.2.1 a1.2.2.2.2.2.1).bind λv0 =>
 (some (v0.1,())))
 (some (false,())))
 (some (false,())))
 (some (false,())))
 (some (false,())))
 (some (false,())))
 (some (false,())))
theorem x_157:aw_ (P:=prog) (cxC [c_202] []) .z 157 [ap_,ap_] [.bool]=λx=>ix_ x.1 x.2.1:=by kernel_rfl
noncomputable def c_157:Con prog:=ax_ _ _ 157 [ap_,ap_] [.bool] _ x_157
noncomputable def ih_ (a0:(List Int)) (a1:(List Int)):Option (Int×Int×Unit) :=
 ((af_ (ρ:=(Int×Unit)) (λ(v0:(Int×(Int×Unit))) =>
 (cond (decide (v0.2.1<(a0.length:Int)))
 ((((at? a0 v0.2.1).bind λv1 =>
 ((at? a1 v0.2.1).bind λv2 =>
 (cond (v1==v2)
 (some ((w64 (v0.1+1)),()))
 (some (v0.1,())))))).bind λv3 =>
 (some (inl (v3.1,((w64 (v0.2.1+1)),())))))
 (some (inr (v0.1,()))))) (0,(0,()))).bind λv4 =>
 ((af_ (ρ:=(Int×Unit)) (λ(v5:(Int×(Int×Unit))) =>
 (cond (decide (v5.2.1<10))
 ((ef_ a0 v5.2.1).bind λv6 =>
 ((ef_ a1 v5.2.1).bind λv7 =>
 (some (inl ((w64 (v5.1+(minI v6.1 v7.1))),((w64 (v5.2.1+1)),()))))))
 (some (inr (v5.1,()))))) (0,(0,()))).bind λv8 =>
 (some (v4.1,((w64 (v8.1 - v4.1)),())))))
theorem x_120:aw_ (P:=prog) (cxC [c_119] []) (.p .z (.p .z (.p (.p .z (.lp [.v 6 .int,.v 8 .int] [.v 6 .int] [] 0 (.p .z (.j0 [.v 6 .int] (.p (.q [] .z .z) .z) .z)))) (.p (.p .z (.lp [.v 7 .int,.v 9 .int] [.v 7 .int] [] 2 .z)) .z)))) 120 [(.list .int),(.list .int)] [.int,.int]=λx=>ih_ x.1 x.2.1:=by kernel_rfl
noncomputable def c_120:Con prog:=ax_ _ _ 120 [(.list .int),(.list .int)] [.int,.int] _ x_120
noncomputable def gh_ (a0:ae_) (a1:ai_):Option (ai_×Bool×Unit) :=
 ((push? (α:=Int) [] a1.1).bind λv0 =>
 ((push? (α:=Int) [] a1.2.1).bind λv1 =>
 ((push? (α:=Int) [] a1.2.2).bind λv2 =>
 ((af_ (ρ:=(((List Int)×(((List Int)×((List Int)×((List Int)×Unit)))×Unit))⊕(ai_×(Bool×Unit)))) (λ(v3:(Int×((List Int)×(((List Int)×((List Int)×((List Int)×Unit)))×Unit)))) =>
 (cond (decide (v3.1≤100))
 ((af_ (ρ:=(Int×Unit)) (λ(v4:(Int×(Int×Unit))) =>
 (((cond (decide (v4.2.1<(a0.2.2.2.2.2.1.length:Int)))
 (some ((decide (v4.1<0)),()))
 (some (false,())))).bind λv5 =>
 (cond v5.1
 ((((at? a0.2.2.2.2.2.1 v4.2.1).bind λv6 =>
 ((((bl_ (v3.2.1,(v1,v2)) v6.1).bind λv7 =>
 (cond v7.1
 ((at? v3.2.1 v6.2.1).bind λv8 =>
 ((at? v3.2.1 v6.2.1).bind λv9 =>
 (some ((v9 != v6.2.2),()))))
 (some (false,()))))).bind λv10 =>
 (cond v10.1
 (some (v4.2.1,()))
 (some (v4.1,())))))).bind λv11 =>
 (some (inl (v11.1,((w64 (v4.2.1+1)),())))))
 (some (inr (v4.1,())))))) ((-1),(0,()))).bind λv12 =>
 (cond (decide (v12.1<0))
 (some (inr (inr ((v3.2.1,(v1,v2)),(true,())))))
 ((at? a0.2.2.2.2.2.1 v12.1).bind λv13 =>
 ((at? a0.2.2.2.2.2.1 v12.1).bind λv14 =>
 ((at? v3.2.1 v13.2.1).bind λv15 =>
 ((at? v3.2.1 v13.2.1).bind λv16 =>
 (some (inl ((w64 (v3.1+1)),((v3.2.1.set v13.2.1.toNat v14.2.2),((v3.2.2.1.1,(v3.2.2.1.2.1,(v3.2.2.1.2.2.1,()))),())))))))))))
 (some (inr (inl (v3.2.1,((v3.2.2.1.1,(v3.2.2.1.2.1,(v3.2.2.1.2.2.1,()))),()))))))) (0,(v0,(([],([],([],()))),())))).bind λv17 =>
 (cg_ v17 (λv18=>(some (([],([],[])),(false,()))))
 (λv19=>(some v19)))))))
theorem x_126:aw_ (P:=prog) (cxI (λk=>.z) (λk=>Nat.beq k 68||false) (cxC [c_68] []) 2) (.p .z (.p .z (.p (.p .z (.ls [.v 7 .int] [] [.o (.c (.s 6) 0) .int,.b (.s 4) [.row .int 3,.row .int 3,.row .int 3]] 0 (.p .z (.p (.p .z (.p (.p .z (.lp [.v 8 .int,.v 9 .int] [.v 8 .int] [] 2 (.p (.j0 [.v 25 .bool] .z .z) (.j0 [.v 8 .int] (.p .z (.j0 [.v 49 .bool] .z .z)) .z)))) .z)) .z)))) .z))) 126 [an_,aq_] [aq_,.bool]=λx=>gh_ x.1 x.2.1:=by kernel_rfl
noncomputable def c_126:Con prog:=ax_ _ _ 126 [an_,aq_] [aq_,.bool] _ x_126
noncomputable def ip_ (a0:ad_) (a1:aa_):Option (aa_×Unit) :=
 ((fr_ a1.1).bind λv0 =>
 ((push? (α:=Bool) [] a1.2).bind λv1 =>
 ((af_ (ρ:=((List Bool)×Unit)) (λ(v2:(Int×((List Bool)×Unit))) =>
 (cond (decide (v2.1<(a0.2.2.2.1.length:Int)))
 ((at? a0.2.2.2.1 v2.1).bind λv3 =>
 ((af_ (ρ:=((List Bool)×Unit)) (λ(v4:(Int×((List Bool)×Unit))) =>
 (cond (decide (v4.1<(v0.1.2.2.length:Int)))
 ((((((at? v0.1.2.2 v4.1).bind λv5 =>
 (cond (v5==v3.2.1)
 ((bl_ v0.1 v3.2.2.2.1).bind λv6 =>
 (some (v6.1,())))
 (some (false,()))))).bind λv7 =>
 (cond v7.1
 ((at? v4.2.1 v2.1).bind λv8 =>
 ((at? v4.2.1 v2.1).bind λv9 =>
 (some ((v4.2.1.set v2.1.toNat true),()))))
 (some (v4.2.1,()))))).bind λv10 =>
 (some (inl ((w64 (v4.1+1)),(v10.1,())))))
 (some (inr (v4.2.1,()))))) (0,(v2.2.1,()))).bind λv11 =>
 (some (inl ((w64 (v2.1+1)),(v11.1,()))))))
 (some (inr (v2.2.1,()))))) (0,(v1,()))).bind λv12 =>
 (some ((v0.1,v12.1),())))))
theorem x_93:aw_ (P:=prog) (cxI (λk=>.z) (λk=>Nat.beq k 68||Nat.beq k 125||false) (cxC [c_68,c_125] []) 2) (.p .z (.p .z (.p (.p .z (.lp [.v 6 .int] [] [.o (.c (.s 5) 3) .bool] 0 (.p .z (.p (.p .z (.p .z (.lp [.v 8 .int] [] [.o (.c (.s 5) 3) .bool] 2 (.p .z (.j0 [.o (.c (.s 5) 3) .bool] (.j0 [.v 46 .bool] .z .z) .z))))) .z)))) .z))) 93 [ao_,aj_] [aj_]=λx=>ip_ x.1 x.2.1:=by kernel_rfl
noncomputable def c_93:Con prog:=ax_ _ _ 93 [ao_,aj_] [aj_] _ x_93
noncomputable def ib_ (a0:aa_):Option ((List UInt8)×Unit) :=
 ((af_ (ρ:=((List UInt8)×Unit)) (λ(v0:((List UInt8)×(Int×Unit))) =>
 (cond (decide (v0.2.1<(a0.1.1.length:Int)))
 ((at? a0.1.1 v0.2.1).bind λv1 =>
 ((cc_ v1).bind λv2 =>
 ((cat? v0.1 v2.1).bind λv3 =>
 ((cat? v3 [32]).bind λv4 =>
 (some (inl (v4,((w64 (v0.2.1+1)),()))))))))
 (some (inr (v0.1,()))))) ([],(0,()))).bind λv5 =>
 ((af_ (ρ:=((List UInt8)×Unit)) (λ(v6:((List UInt8)×(Int×Unit))) =>
 (cond (decide (v6.2.1<(a0.1.2.1.length:Int)))
 ((at? a0.1.2.1 v6.2.1).bind λv7 =>
 ((cc_ (w64 (v7+10))).bind λv8 =>
 ((cat? v6.1 v8.1).bind λv9 =>
 ((cat? v9 [32]).bind λv10 =>
 (some (inl (v10,((w64 (v6.2.1+1)),()))))))))
 (some (inr (v6.1,()))))) (v5.1,(0,()))).bind λv11 =>
 ((af_ (ρ:=((List UInt8)×Unit)) (λ(v12:((List UInt8)×(Int×Unit))) =>
 (cond (decide (v12.2.1<(a0.1.2.2.length:Int)))
 ((at? a0.1.2.2 v12.2.1).bind λv13 =>
 ((cc_ v13).bind λv14 =>
 ((cat? v12.1 v14.1).bind λv15 =>
 ((cat? v15 [32]).bind λv16 =>
 (some (inl (v16,((w64 (v12.2.1+1)),()))))))))
 (some (inr (v12.1,()))))) (v11.1,(0,()))).bind λv17 =>
 ((af_ (ρ:=((List UInt8)×Unit)) (λ(v18:((List UInt8)×(Int×Unit))) =>
 (cond (decide (v18.2.1<(a0.2.length:Int)))
 ((((at? a0.2 v18.2.1).bind λv19 =>
 (cond v19
 ((cc_ v18.2.1).bind λv20 =>
 ((cat? v18.1 v20.1).bind λv21 =>
 ((cat? v21 [32]).bind λv22 =>
 (some (v22,())))))
 (some (v18.1,()))))).bind λv23 =>
 (some (inl (v23.1,((w64 (v18.2.1+1)),())))))
 (some (inr (v18.1,()))))) (v17.1,(0,()))).bind λv24 =>
 (some (v24.1,()))))))
theorem x_59:aw_ (P:=prog) (cxC [c_94] []) (.p .z (.p .z (.p (.p .z (.lp [.v 3 .str,.v 4 .int] [.v 3 .str] [] 0 .z)) (.p (.p .z (.lp [.v 3 .str,.v 5 .int] [.v 3 .str] [] 2 .z)) (.p (.p .z (.lp [.v 3 .str,.v 6 .int] [.v 3 .str] [] 4 .z)) (.p (.p .z (.lp [.v 3 .str,.v 7 .int] [.v 3 .str] [] 6 (.p .z (.j0 [.v 3 .str] .z .z)))) .z)))))) 59 [aj_] [.str]=λx=>ib_ x.1:=by kernel_rfl
noncomputable def c_59:Con prog:=ax_ _ _ 59 [aj_] [.str] _ x_59
noncomputable def jl_ (a0:ae_) (a1:ai_) (a2:ag_):Option (Bool×Unit) :=
 ((bs_ a2.1 0 (w64 (a0.2.2.2.2.2.2.1 - 1))).bind λv0 =>
 (cond (!v0.1)
 (some (false,()))
 ((at? a1.2.2 a2.1).bind λv1 =>
 (cond (a2.2.1==1)
 ((bs_ a2.2.2 0 (w64 ((a0.2.2.2.1.length:Int) - 1))).bind λv2 =>
 (cond v2.1
 ((at? a0.2.2.2.1 a2.2.2).bind λv3 =>
 (cond (v3.1==v1)
 ((at? a0.2.2.2.1 a2.2.2).bind λv4 =>
 ((bl_ a1 v4.2.2).bind λv5 =>
 (some (v5.1,()))))
 ((at? a0.2.2.2.1 a2.2.2).bind λv6 =>
 (cond (v6.2.1==v1)
 ((at? a0.2.2.2.1 a2.2.2).bind λv7 =>
 ((bl_ a1 v7.2.2).bind λv8 =>
 (some (v8.1,()))))
 (some (false,()))))))
 (some (false,()))))
 (cond (a2.2.1==2)
 ((bs_ a2.2.2 0 (w64 ((a0.2.2.1.length:Int) - 1))).bind λv9 =>
 (cond v9.1
 ((at? a1.2.1 a2.2.2).bind λv10 =>
 (cond (v10==v1)
 ((at? a0.2.2.1 a2.2.2).bind λv11 =>
 ((bl_ a1 v11.2.2).bind λv12 =>
 (cond v12.1
 ((ha_ a1 a2.1).bind λv13 =>
 (some ((decide (v13.1<3)),())))
 (some (false,())))))
 (some (false,()))))
 (some (false,()))))
 (cond (a2.2.1==3)
 ((bs_ a2.2.2 0 (w64 ((a0.2.2.1.length:Int) - 1))).bind λv14 =>
 (cond v14.1
 ((at? a1.2.1 a2.2.2).bind λv15 =>
 (some ((v15==(w64 ((-2) - a2.1))),())))
 (some (false,()))))
 (cond (a2.2.1==4)
 ((bs_ a2.2.2 0 (w64 ((a0.2.2.2.2.1.length:Int) - 1))).bind λv16 =>
 (cond (!v16.1)
 (some (false,()))
 ((at? a0.2.2.2.2.1 a2.2.2).bind λv17 =>
 ((af_ (ρ:=(Unit⊕(Bool×Unit))) (λ(v18:(Int×Unit)) =>
 (cond (decide (v18.1<(v17.2.2.2.1.length:Int)))
 ((at? v17.2.2.2.1 v18.1).bind λv19 =>
 ((at? a1.2.1 v19).bind λv20 =>
 (cond (v20 != (w64 ((-2) - a2.1)))
 (some (inr (inr (false,()))))
 (some (inl ((w64 (v18.1+1)),()))))))
 (some (inr (inl ()))))) (0,())).bind λv21 =>
 (cg_ v21 (λv22=>((af_ (ρ:=(Unit⊕(Bool×Unit))) (λ(v24:(Int×Unit)) =>
 (cond (decide (v24.1<(v17.2.2.2.2.2.2.2.length:Int)))
 ((at? v17.2.2.2.2.2.2.2 v24.1).bind λv25 =>
 ((at? a1.2.1 v25).bind λv26 =>
 (cond (v26 != (-1))
 (some (inr (inr (false,()))))
 (some (inl ((w64 (v24.1+1)),()))))))
 (some (inr (inl ()))))) (0,())).bind λv27 =>
 (cg_ v27 (λv28=>(cond (v17.2.1==v1)
 ((bl_ a1 v17.2.2.2.2.1).bind λv30 =>
 (cond v30.1
 ((ha_ a1 a2.1).bind λv31 =>
 (some ((decide ((w64 ((w64 (v31.1 - (v17.2.2.2.2.2.2.1.length:Int)))+(v17.2.2.2.2.2.2.2.length:Int)))≤3)),())))
 (some (false,()))))
 (some (false,()))))
 (λv29=>(some v29)))))
 (λv23=>(some v23)))))))
 (some (false,())))))))))
theorem x_123:aw_ (P:=prog) (cxC [c_68,c_84,c_159] []) (.p .z (.p .z (.p (.q [] .z .z) (.p (.p .z (.p .z (.p (.p (.q [] .z .z) .z) (.p .z (.p (.p (.q [] .z .z) .z) (.p .z (.p .z (.p .z (.p (.p .z (.p .z (.p (.p .z (.ls [.v 10 .int] [] [] 1 .z)) (.p (.p .z (.ls [.v 11 .int] [] [] 3 .z)) .z)))) .z))))))))) .z)))) 123 [an_,aq_,ar_] [.bool]=λx=>jl_ x.1 x.2.1 x.2.2.1:=by kernel_rfl
noncomputable def c_123:Con prog:=ax_ _ _ 123 [an_,aq_,ar_] [.bool] _ x_123
noncomputable def ff_ (a0:ae_) (a1:Int) (a2:Int):Option (Bool×Unit) :=
 ((be_ a1 0 (w64 ((a0.2.1.length:Int) - 1))).bind λv0 =>
 (cond v0.1
 ((at? a0.2.1 a1).bind λv1 =>
 ((be_ a2 0 (w64 (v1.2.2.1 - 1))).bind λv2 =>
 (some (v2.1,()))))
 (some (false,()))))
theorem x_164:aw_ (P:=prog) (cxC [ca9] []) .z 164 [an_,.int,.int] [.bool]=λx=>ff_ x.1 x.2.1 x.2.2.1:=by kernel_rfl
noncomputable def co5:Con prog:=ax_ _ _ 164 [an_,.int,.int] [.bool] _ x_164
noncomputable def cx_ (a0:(List (List UInt8))) (a1:(List UInt8)):Option (Bool×Unit) :=
 ((ds_ a0 a1).bind λv0 =>
 (some ((decide (0≤v0.1)),())))
theorem x_235:aw_ (P:=prog) (cxC [c_255] []) .z 235 [(.list .str),.str] [.bool]=λx=>cx_ x.1 x.2.1:=by kernel_rfl
noncomputable def c_235:Con prog:=ax_ _ _ 235 [(.list .str),.str] [.bool] _ x_235
noncomputable def bj_ (a0:(List Int)) (a1:Int):Option (Bool×Unit) :=
 ((ep_ a0 a1).bind λv0 =>
 (some ((decide (0≤v0.1)),())))
theorem x_139:aw_ (P:=prog) (cxC [c_186] []) .z 139 [(.list .int),.int] [.bool]=λx=>bj_ x.1 x.2.1:=by kernel_rfl
noncomputable def co6:Con prog:=ax_ _ _ 139 [(.list .int),.int] [.bool] _ x_139
noncomputable def eh_ (a0:ab_):Option (Int×Unit) :=
 ((((bv_ a0.1 1 4).bind λv0 =>
 (cond (!v0.1)
 (some (true,()))
 ((bv_ a0.2 2 10).bind λv1 =>
 (some ((!v1.1),())))))).bind λv2 =>
 (cond v2.1
 (some (10,()))
 (some (0,()))))
theorem x_132:aw_ (P:=prog) (cxC [co4] []) (.p .z (.p (.j0 [.v 12 .bool] .z .z) .z)) 132 [al_] [.int]=λx=>eh_ x.1:=by kernel_rfl
noncomputable def co7:Con prog:=ax_ _ _ 132 [al_] [.int] _ x_132
noncomputable def cm_ (a0:ab_) (a1:Int):Option (Bool×Unit) :=
 ((bv_ a1 0 (w64 (a0.2 - 1))).bind λv0 =>
 (some (v0.1,())))
theorem x_246:aw_ (P:=prog) (cxC [co4] []) .z 246 [al_,.int] [.bool]=λx=>cm_ x.1 x.2.1:=by kernel_rfl
noncomputable def c_246:Con prog:=ax_ _ _ 246 [al_,.int] [.bool] _ x_246
noncomputable def bt_ (a0:ab_) (a1:Int):Option (Bool×Unit) :=
 ((bv_ a1 0 (w64 (a0.1 - 1))).bind λv0 =>
 (some (v0.1,())))
theorem x_258:aw_ (P:=prog) (cxC [co4] []) .z 258 [al_,.int] [.bool]=λx=>bt_ x.1 x.2.1:=by kernel_rfl
noncomputable def c_258:Con prog:=ax_ _ _ 258 [al_,.int] [.bool] _ x_258
noncomputable def na_ (a0:ak_) (a1:(List Int)):Option (Bool×Unit) :=
 (cond (a0.1==1)
 ((at? a1 a0.2.1).bind λv0 =>
 (some ((v0==a0.2.2.2.1),())))
 (cond (a0.1==2)
 ((sub? a1 a0.2.1 (w64 (a0.2.2.1+1))).bind λv1 =>
 ((af_ (ρ:=(Int×Unit)) (λ(v2:(Int×(Int×Unit))) =>
 (cond (decide (v2.2.1<(v1.length:Int)))
 ((at? v1 v2.2.1).bind λv3 =>
 (some (inl ((w64 (v2.1+v3)),((w64 (v2.2.1+1)),())))))
 (some (inr (v2.1,()))))) (0,(0,()))).bind λv4 =>
 (some ((v4.1==a0.2.2.2.1),()))))
 (cond (a0.1==3)
 ((at? a1 a0.2.1).bind λv5 =>
 ((at? a1 a0.2.2.1).bind λv6 =>
 (some ((decide (v5<v6)),()))))
 (cond (a0.1==4)
 ((at? a1 a0.2.1).bind λv7 =>
 ((at? a1 a0.2.2.1).bind λv8 =>
 (some ((v7==v8),()))))
 (cond (a0.1==5)
 ((af_ (ρ:=(Int×Unit)) (λ(v9:(Int×(Int×Unit))) =>
 (cond (decide (v9.2.1<(a1.length:Int)))
 ((((at? a1 v9.2.1).bind λv10 =>
 (cond (v10==a0.2.2.2.1)
 (some ((w64 (v9.1+1)),()))
 (some (v9.1,()))))).bind λv11 =>
 (some (inl (v11.1,((w64 (v9.2.1+1)),())))))
 (some (inr (v9.1,()))))) (0,(0,()))).bind λv12 =>
 (some ((v12.1==a0.2.2.2.2.1),())))
 (cond (a0.1==6)
 ((ii_ a1 a0.2.2.2.2.2.1).bind λv13 =>
 (cond (v13.1==a0.2.2.2.1)
 (some ((v13.2.1==a0.2.2.2.2.1),()))
 (some (false,()))))
 ((at? a1 a0.2.1).bind λv14 =>
 ((md v14 a0.2.2.2.1).bind λv15 =>
 (some ((v15==a0.2.2.2.2.1),()))))))))))
theorem x_248:aw_ (P:=prog) (cxC [c_259] []) (.p .z (.p (.p .z (.p .z (.p (.p (.q [] .z .z) .z) (.p .z (.p (.p .z (.p (.p .z (.lp [.v 5 .int,.v 35 .int] [.v 5 .int] [] 1 .z)) .z)) (.p .z (.p (.p (.q [] .z .z) .z) (.p .z (.p (.p (.q [] .z .z) .z) (.p .z (.p (.p .z (.p (.p .z (.lp [.v 8 .int,.v 77 .int] [.v 8 .int] [] 3 (.p .z (.p .z (.j0 [.v 8 .int] .z .z))))) .z)) .z))))))))))) (.p (.q [] .z .z) .z))) 248 [ap_,(.list .int)] [.bool]=λx=>na_ x.1 x.2.1:=by kernel_rfl
noncomputable def c_248:Con prog:=ax_ _ _ 248 [ap_,(.list .int)] [.bool] _ x_248
noncomputable def lg_ (a0:ae_) (a1:(List bg_)):Option (Bool×Unit) :=
 (cond (decide ((a1.length:Int)≤8))
 ((((af_ (ρ:=(Unit⊕(Bool×Unit))) (λ(v0:(Int×Unit)) =>
 (cond (decide (v0.1<(a1.length:Int)))
 ((at? a1 v0.1).bind λv1 =>
 ((((bz_ v1.1 0 (w64 ((a0.2.1.length:Int) - 1))).bind λv2 =>
 (cond (!v2.1)
 (some (true,()))
 ((at? a0.2.1 v1.1).bind λv3 =>
 ((bz_ v1.2.1 0 (w64 (v3.2.2.1 - 1))).bind λv4 =>
 (some ((!v4.1),()))))))).bind λv5 =>
 (cond v5.1
 (some (inr (inr ((decide (0≤v0.1)),()))))
 (some (inl ((w64 (v0.1+1)),()))))))
 (some (inr (inl ()))))) (0,())).bind λv6 =>
 (cg_ v6 (λv7=>(some ((decide (0≤(-1))),())))
 (λv8=>(some v8))))).bind λv9 =>
 (some ((!v9.1),())))
 (some (false,())))
theorem x_135:aw_ (P:=prog) (cxI (λk=>cond (Nat.beq k 166) (.p .z (.j0 [.v 4 .bool] .z .z)) (cond (Nat.beq k 184) (.p .z (.j0 [.v 3 .bool] (.q [] .z .z) .z)) (cond (Nat.beq k 205) (.p .z (.p (.p .z (.ls [.v 8 .int] [] [] 0 .z)) .z)) (.z)))) (λk=>Nat.beq k 136||false) (cxC [cb0] []) 4) .z 135 [an_,(.list ca_)] [.bool]=λx=>lg_ x.1 x.2.1:=by kernel_rfl
noncomputable def c_135:Con prog:=ax_ _ _ 135 [an_,(.list ca_)] [.bool] _ x_135
noncomputable def kh_ (a0:aa_):Option ((List UInt8)×Unit) :=
 ((fl_ [a0.1.1,a0.1.2.1,a0.1.2.2]).bind λv0 =>
 ((lf_ a0).bind λv1 =>
 ((cat? v0.1 v1.1).bind λv2 =>
 (some (v2,())))))
theorem x_104:aw_ (P:=prog) (cxC [c_142,c_143] []) .z 104 [aj_] [.str]=λx=>kh_ x.1:=by kernel_rfl
noncomputable def c_104:Con prog:=ax_ _ _ 104 [aj_] [.str] _ x_104
noncomputable def cy_ (a0:hf_) (a1:ag_):Option (Bool×Unit) :=
 ((be_ a1.1 0 (w64 ((a0.2.2.2.length:Int) - 1))).bind λv0 =>
 (cond (!v0.1)
 (some (false,()))
 ((at? a0.2.2.2 a1.1).bind λv1 =>
 (cond (a1.2.1==1)
 ((be_ a1.2.2 0 (w64 ((a0.1.2.2.2.1.length:Int) - 1))).bind λv2 =>
 (cond (!v2.1)
 (some (false,()))
 ((at? a0.1.2.2.2.1 a1.2.2).bind λv3 =>
 (cond (v3.1==v1)
 ((bc_ a0 v3.2.2).bind λv4 =>
 (some (v4.1,())))
 (cond (v3.2.1==v1)
 ((bc_ a0 v3.2.2).bind λv5 =>
 (some (v5.1,())))
 (some (false,())))))))
 (cond (a1.2.1==2)
 ((be_ a1.2.2 0 (w64 ((a0.2.2.1.length:Int) - 1))).bind λv6 =>
 (cond v6.1
 ((at? a0.2.2.1 a1.2.2).bind λv7 =>
 (cond (v7==v1)
 ((at? a0.1.2.2.1 a1.2.2).bind λv8 =>
 ((bc_ a0 v8.2.2).bind λv9 =>
 (cond v9.1
 ((dg_ a0 a1.1).bind λv10 =>
 (some ((decide (v10.1<3)),())))
 (some (false,())))))
 (some (false,()))))
 (some (false,()))))
 (cond (a1.2.1==3)
 ((be_ a1.2.2 0 (w64 ((a0.2.2.1.length:Int) - 1))).bind λv11 =>
 (cond v11.1
 ((at? a0.2.2.1 a1.2.2).bind λv12 =>
 (some ((v12==(w64 ((-2) - a1.1))),())))
 (some (false,()))))
 (cond (a1.2.1==4)
 ((be_ a1.2.2 0 (w64 ((a0.1.2.2.2.2.1.length:Int) - 1))).bind λv13 =>
 (cond (!v13.1)
 (some (false,()))
 ((at? a0.1.2.2.2.2.1 a1.2.2).bind λv14 =>
 (cond (v14.2.1==v1)
 ((((af_ (ρ:=(Unit⊕(Bool×Unit))) (λ(v15:(Int×Unit)) =>
 (cond (decide (v15.1<(v14.2.2.2.1.length:Int)))
 ((at? v14.2.2.2.1 v15.1).bind λv16 =>
 ((at? a0.2.2.1 v16).bind λv17 =>
 (cond (!(v17==(w64 ((-2) - a1.1))))
 (some (inr (inr ((decide (0≤v15.1)),()))))
 (some (inl ((w64 (v15.1+1)),()))))))
 (some (inr (inl ()))))) (0,())).bind λv18 =>
 (cg_ v18 (λv19=>(some ((decide (0≤(-1))),())))
 (λv20=>(some v20))))).bind λv21 =>
 (cond (!v21.1)
 ((bc_ a0 v14.2.2.2.2.1).bind λv22 =>
 (cond v22.1
 ((((af_ (ρ:=(Unit⊕(Bool×Unit))) (λ(v23:(Int×Unit)) =>
 (cond (decide (v23.1<(v14.2.2.2.2.2.2.2.length:Int)))
 ((at? v14.2.2.2.2.2.2.2 v23.1).bind λv24 =>
 ((at? a0.2.2.1 v24).bind λv25 =>
 (cond (!(v25==(-1)))
 (some (inr (inr ((decide (0≤v23.1)),()))))
 (some (inl ((w64 (v23.1+1)),()))))))
 (some (inr (inl ()))))) (0,())).bind λv26 =>
 (cg_ v26 (λv27=>(some ((decide (0≤(-1))),())))
 (λv28=>(some v28))))).bind λv29 =>
 (cond (!v29.1)
 ((dg_ a0 a1.1).bind λv30 =>
 (some ((decide ((w64 ((w64 (v30.1 - (v14.2.2.2.2.2.2.1.length:Int)))+(v14.2.2.2.2.2.2.2.length:Int)))≤3)),())))
 (some (false,()))))
 (some (false,()))))
 (some (false,()))))
 (some (false,()))))))
 (some (false,())))))))))
theorem x_146:aw_ (P:=prog) (cxI (λk=>cond (Nat.beq k 73) (.p .z (.j0 [.v 4 .bool] .z .z)) (cond (Nat.beq k 109) (.p .z (.p (.p .z (.ls [.v 8 .int] [] [] 0 .z)) .z)) (cond (Nat.beq k 193) (.p .z (.p (.q [] .z .z) .z)) (.z)))) (λk=>Nat.beq k 130||Nat.beq k 165||Nat.beq k 196||false) (cxC [cb1,ca9,c_196] []) 7) (.p .z (.p (.p (.q [] .z .z) .z) (.p (.q [] .z .z) (.p .z (.p .z (.p .z (.p (.p .z (.p .z (.p (.p (.p (.q [] .z .z) .z) .z) (.p .z (.p (.p (.q [] .z .z) .z) (.p .z (.p (.p (.q [] .z .z) .z) (.p .z (.p (.p (.p (.q [] .z .z) .z) .z) .z))))))))) .z))))))) 146 [(.ref fa_),ar_] [.bool]=λx=>cy_ x.1 x.2.1:=by kernel_rfl
noncomputable def c_146:Con prog:=ax_ _ _ 146 [(.ref fa_),ar_] [.bool] _ x_146
noncomputable def xi_  : Option (ad_×Unit) :=
 (some ((([[104,97,108,108],[118,97,117,108,116]],([([98,111,120],(0,(2,0))),([100,111,111,114],(0,(2,0)))],([([107,101,121],(0,[(0,(1,false))]))],([(0,(1,[(1,(1,false))]))],([([111,112,101,110],(0,(0,([],([],([(0,1)],([],[]))))))),([116,117,114,110],(0,((-1),([0],([],([(1,1)],([0],[])))))))],([],(1,[]))))))),([(2,4)],([[3,1]],([([108,101,97,102],(0,(0,([],(2,(0,(1,(4,(0,([],false)))))))))),([98,97,99,107],(0,(0,([(0,(0,false))],(3,(1,(0,(0,(0,([],false)))))))))),([99,97,114,100],(1,((-1),([],(0,(0,(0,(0,(0,([],false))))))))))],1)))),()))
theorem x_26:aw_ (P:=prog) (cxC [c_62] []) .z 26 [] [ao_]=λx=>xi_:=by kernel_rfl
noncomputable def c_26:Con prog:=ax_ _ _ 26 [] [ao_] _ x_26
noncomputable def le_ (a0:ae_):Option (ae_×Unit) :=
 ((push? (α:=(List UInt8)) [] a0.1).bind λv0 =>
 ((push? (α:=gw_) [] a0.2.1).bind λv1 =>
 ((push? (α:=jv_) [] a0.2.2.1).bind λv2 =>
 ((push? (α:=ot_) [] a0.2.2.2.1).bind λv3 =>
 ((push? (α:=cu_) [] a0.2.2.2.2.1).bind λv4 =>
 ((push? (α:=qc_) [] a0.2.2.2.2.2.1).bind λv5 =>
 ((ck_ a0.2.2.2.2.2.2.2).bind λv6 =>
 ((af_ (ρ:=((List jv_)×Unit)) (λ(v7:(Int×((List jv_)×Unit))) =>
 (cond (decide (v7.1<(v7.2.1.length:Int)))
 ((at? v7.2.1 v7.1).bind λv8 =>
 ((at? v7.2.1 v7.1).bind λv9 =>
 ((ck_ v9.2.2).bind λv10 =>
 ((at? v7.2.1 v7.1).bind λv11 =>
 ((at? v7.2.1 v7.1).bind λv12 =>
 (some (inl ((w64 (v7.1+1)),((v7.2.1.set v7.1.toNat (v12.1,(v12.2.1,v10.1))),())))))))))
 (some (inr (v7.2.1,()))))) (0,(v2,()))).bind λv13 =>
 ((af_ (ρ:=((List ot_)×Unit)) (λ(v14:(Int×((List ot_)×Unit))) =>
 (cond (decide (v14.1<(v14.2.1.length:Int)))
 ((at? v14.2.1 v14.1).bind λv15 =>
 ((at? v14.2.1 v14.1).bind λv16 =>
 ((ck_ v16.2.2).bind λv17 =>
 ((at? v14.2.1 v14.1).bind λv18 =>
 ((at? v14.2.1 v14.1).bind λv19 =>
 (some (inl ((w64 (v14.1+1)),((v14.2.1.set v14.1.toNat (v19.1,(v19.2.1,v17.1))),())))))))))
 (some (inr (v14.2.1,()))))) (0,(v3,()))).bind λv20 =>
 ((af_ (ρ:=((List cu_)×Unit)) (λ(v21:(Int×((List cu_)×Unit))) =>
 (cond (decide (v21.1<(v21.2.1.length:Int)))
 ((at? v21.2.1 v21.1).bind λv22 =>
 ((at? v21.2.1 v21.1).bind λv23 =>
 ((dp_ v23.2.2.2.1).bind λv24 =>
 ((dp_ v23.2.2.2.2.2.2.1).bind λv25 =>
 ((dp_ v23.2.2.2.2.2.2.2).bind λv26 =>
 ((ck_ v23.2.2.2.2.1).bind λv27 =>
 ((push? (α:=ab_) [] v23.2.2.2.2.2.1).bind λv28 =>
 ((at? v21.2.1 v21.1).bind λv29 =>
 ((at? v21.2.1 v21.1).bind λv30 =>
 (some (inl ((w64 (v21.1+1)),((v21.2.1.set v21.1.toNat (v23.1,(v23.2.1,(v23.2.2.1,(v24.1,(v27.1,(v28,(v25.1,v26.1)))))))),())))))))))))))
 (some (inr (v21.2.1,()))))) (0,(v4,()))).bind λv31 =>
 ((af_ (ρ:=((List qc_)×Unit)) (λ(v32:(Int×((List qc_)×Unit))) =>
 (cond (decide (v32.1<(v32.2.1.length:Int)))
 ((at? v32.2.1 v32.1).bind λv33 =>
 ((at? v32.2.1 v32.1).bind λv34 =>
 ((ck_ v34.1).bind λv35 =>
 ((at? v32.2.1 v32.1).bind λv36 =>
 ((at? v32.2.1 v32.1).bind λv37 =>
 (some (inl ((w64 (v32.1+1)),((v32.2.1.set v32.1.toNat (v35.1,v37.2)),())))))))))
 (some (inr (v32.2.1,()))))) (0,(v5,()))).bind λv38 =>
 (some ((v0,(v1,(v13.1,(v20.1,(v31.1,(v38.1,(a0.2.2.2.2.2.2.1,v6.1))))))),())))))))))))))
theorem x_29:aw_ (P:=prog) (cxC [c_65,c_66] []) (.p .z (.p .z (.p (.p .z (.lp [.v 4 .int] [] [.o (.s 20) pb_] 0 .z)) (.p (.p .z (.lp [.v 5 .int] [] [.o (.s 24) ai2] 2 .z)) (.p (.p .z (.lp [.v 6 .int] [] [.o (.s 28) ly_] 4 .z)) (.p (.p .z (.lp [.v 8 .int] [] [.o (.s 32) yq_] 6 .z)) .z)))))) 29 [an_] [an_]=λx=>le_ x.1:=by kernel_rfl
noncomputable def c_29:Con prog:=ax_ _ _ 29 [an_] [an_] _ x_29
noncomputable def cz_ (a0:ad_) (a1:aa_):Option (Bool×Unit) :=
 ((bl_ a1.1 a0.1.2.2.2.2.2.2.2).bind λv0 =>
 (some (v0.1,())))
theorem x_36:aw_ (P:=prog) (cxC [c_68] []) .z 36 [ao_,aj_] [.bool]=λx=>cz_ x.1 x.2.1:=by kernel_rfl
noncomputable def c_36:Con prog:=ax_ _ _ 36 [ao_,aj_] [.bool] _ x_36
end
section
set_option maxRecDepth 100000
set_option maxHeartbeats 0
noncomputable def cs_ (a0:ae_) (a1:(List bg_)):Option (Bool×Unit) :=
 ((af_ (ρ:=(Unit⊕(Bool×Unit))) (λ(v0:(Int×Unit)) =>
 (cond (decide (v0.1<(a1.length:Int)))
 ((at? a1 v0.1).bind λv1 =>
 ((at? a1 v0.1).bind λv2 =>
 ((gs_ a0 v1.1 v2.2.1).bind λv3 =>
 (cond (!v3.1)
 (some (inr (inr (false,()))))
 (some (inl ((w64 (v0.1+1)),())))))))
 (some (inr (inl ()))))) (0,())).bind λv4 =>
 (cg_ v4 (λv5=>(some ((decide ((a1.length:Int)≤8)),())))
 (λv6=>(some v6))))
theorem x_56:aw_ (P:=prog) (cxC [c_86] []) (.p .z (.p (.p .z (.ls [.v 5 .int] [] [] 0 (.p .z (.p (.p (.q [] .z .z) .z) .z)))) .z)) 56 [an_,(.list ca_)] [.bool]=λx=>cs_ x.1 x.2.1:=by kernel_rfl
noncomputable def c_56:Con prog:=ax_ _ _ 56 [an_,(.list ca_)] [.bool] _ x_56
noncomputable def du_ (a0:(List UInt8)):Option (Bool×Unit) :=
 (cond (decide ((a0.length:Int)≤12))
 ((hn_ a0).bind λv0 =>
 (some (v0.1,())))
 (some (false,())))
theorem x_81:aw_ (P:=prog) (cxC [c_115] []) .z 81 [.str] [.bool]=λx=>du_ x.1:=by kernel_rfl
noncomputable def c_81:Con prog:=ax_ _ _ 81 [.str] [.bool] _ x_81
noncomputable def ft_ (a0:ab_) (a1:(List Int)):Option (Int×Unit) :=
 ((eg_ a0).bind λv0 =>
 (cond (v0.1 != 0)
 (some (v0.1,()))
 ((gj_ a0 a1).bind λv1 =>
 (cond (!v1.1)
 (some (12,()))
 (some (0,()))))))
theorem x_54:aw_ (P:=prog) (cxC [c_53,c_88] []) .z 54 [al_,(.list .int)] [.int]=λx=>ft_ x.1 x.2.1:=by kernel_rfl
noncomputable def c_54:Con prog:=ax_ _ _ 54 [al_,(.list .int)] [.int] _ x_54
noncomputable def gk_ (a0:ab_) (a1:ak_):Option (Bool×Unit) :=
 ((bk_ a1.2.1 0 (w64 (a0.1 - 1))).bind λv0 =>
 ((bk_ a1.2.2.1 0 (w64 (a0.1 - 1))).bind λv1 =>
 (((cond (a1.1==1)
 (((cond v0.1
 ((bk_ a1.2.2.2.1 0 (w64 (a0.2 - 1))).bind λv2 =>
 (some (v2.1,())))
 (some (false,())))).bind λv3 =>
 (some (v3.1,((a1.2.1,(0,(a1.2.2.2.1,(0,([],()))))),()))))
 (cond (a1.1==2)
 (((cond v0.1
 (cond v1.1
 (cond (decide (a1.2.1≤a1.2.2.1))
 ((bk_ a1.2.2.2.1 0 100).bind λv4 =>
 (some (v4.1,())))
 (some (false,())))
 (some (false,())))
 (some (false,())))).bind λv5 =>
 (some (v5.1,((a1.2.1,(a1.2.2.1,(a1.2.2.2.1,(0,([],()))))),()))))
 (((cond (a1.1==3)
 (some ((a1.1==3),()))
 (some ((a1.1==4),())))).bind λv6 =>
 (cond v6.1
 (((cond v0.1
 (cond v1.1
 (some ((a1.2.1 != a1.2.2.1),()))
 (some (false,())))
 (some (false,())))).bind λv7 =>
 (some (v7.1,((a1.2.1,(a1.2.2.1,(0,(0,([],()))))),()))))
 (cond (a1.1==5)
 ((((bk_ a1.2.2.2.1 0 (w64 (a0.2 - 1))).bind λv8 =>
 (cond v8.1
 ((bk_ a1.2.2.2.2.1 0 a0.1).bind λv9 =>
 (some (v9.1,())))
 (some (false,()))))).bind λv10 =>
 (some (v10.1,((0,(0,(a1.2.2.2.1,(a1.2.2.2.2.1,([],()))))),()))))
 (cond (a1.1==6)
 ((((gj_ a0 a1.2.2.2.2.2.1).bind λv11 =>
 (cond v11.1
 ((bk_ a1.2.2.2.1 0 a0.1).bind λv12 =>
 (cond v12.1
 ((bk_ a1.2.2.2.2.1 0 a0.1).bind λv13 =>
 (some (v13.1,())))
 (some (false,()))))
 (some (false,()))))).bind λv14 =>
 (some (v14.1,((0,(0,(a1.2.2.2.1,(a1.2.2.2.2.1,(a1.2.2.2.2.2.1,()))))),()))))
 (cond (a1.1==7)
 (((cond v0.1
 ((bk_ a1.2.2.2.1 2 10).bind λv15 =>
 (cond v15.1
 ((bk_ a1.2.2.2.2.1 0 (w64 (a1.2.2.2.1 - 1))).bind λv16 =>
 (some (v16.1,())))
 (some (false,()))))
 (some (false,())))).bind λv17 =>
 (some (v17.1,((a1.2.1,(0,(a1.2.2.2.1,(a1.2.2.2.2.1,([],()))))),()))))
 (some (false,((0,(0,(0,(0,([],()))))),()))))))))))).bind λv18 =>
 (cond v18.1
 ((ix_ a1 (a1.1,(v18.2.1.1,(v18.2.1.2.1,(v18.2.1.2.2.1,(v18.2.1.2.2.2.1,(v18.2.1.2.2.2.2.1,a1.2.2.2.2.2.2))))))).bind λv19 =>
 (some (v19.1,())))
 (some (false,()))))))
theorem x_118:aw_ (P:=prog) (cxC [c_87,c_88,c_157] []) (.p .z (.p (.q [] .z .z) (.p .z (.p .z (.j0 [.v 8 .bool,.b (.s 7) [.keep,.val .int,.val .int,.val .int,.val .int,.val (.list .int),.keep]] (.p .z (.p .z (.p (.j0 [.v 8 .bool] .z .z) (.p .z (.p (.j0 [.v 8 .bool] .z .z) (.j0 [.v 72 .bool] .z (.p (.j0 [.v 8 .bool] .z .z) (.p .z (.p (.j0 [.v 8 .bool] .z .z) (.p .z (.p (.j0 [.v 8 .bool] .z .z) (.p .z (.p (.j0 [.v 8 .bool] .z .z) .z))))))))))))) .z))))) 118 [al_,ap_] [.bool]=λx=>gk_ x.1 x.2.1:=by kernel_rfl
noncomputable def c_118:Con prog:=ax_ _ _ 118 [al_,ap_] [.bool] _ x_118
noncomputable def fk_ (a0:ak_) (a1:(List Int)):Option (Bool×Unit) :=
 (((cond (a0.1==1)
 ((at? a1 a0.2.1).bind λv0 =>
 (some ((v0==a0.2.2.2.1),())))
 (cond (a0.1==2)
 ((af_ (ρ:=(Int×Unit)) (λ(v1:(Int×(Int×Unit))) =>
 (cond (decide (v1.2.1≤a0.2.2.1))
 ((at? a1 v1.2.1).bind λv2 =>
 (some (inl ((w64 (v1.1+v2)),((w64 (v1.2.1+1)),())))))
 (some (inr (v1.1,()))))) (0,(a0.2.1,()))).bind λv3 =>
 (some ((v3.1==a0.2.2.2.1),())))
 (cond (a0.1==3)
 ((at? a1 a0.2.1).bind λv4 =>
 ((at? a1 a0.2.2.1).bind λv5 =>
 (some ((decide (v4<v5)),()))))
 (cond (a0.1==4)
 ((at? a1 a0.2.1).bind λv6 =>
 ((at? a1 a0.2.2.1).bind λv7 =>
 (some ((v6==v7),()))))
 (cond (a0.1==5)
 ((ef_ a1 a0.2.2.2.1).bind λv8 =>
 (some ((v8.1==a0.2.2.2.2.1),())))
 (cond (a0.1==6)
 ((ih_ a1 a0.2.2.2.2.2.1).bind λv9 =>
 (cond (v9.1==a0.2.2.2.1)
 (some ((v9.2.1==a0.2.2.2.2.1),()))
 (some (false,()))))
 (cond (a0.1==7)
 ((at? a1 a0.2.1).bind λv10 =>
 ((md v10 a0.2.2.2.1).bind λv11 =>
 (some ((v11==a0.2.2.2.2.1),()))))
 (some (false,())))))))))).bind λv12 =>
 (some ((v12.1 != a0.2.2.2.2.2.2),())))
theorem x_91:aw_ (P:=prog) (cxC [c_119,c_120] []) (.p .z (.p .z (.j0 [.v 5 .bool] (.p .z (.p .z (.p (.q [] .z .z) (.p .z (.p (.p .z (.p (.p .z (.lp [.v 6 .int,.v 7 .int] [.v 6 .int] [] 1 .z)) .z)) (.p .z (.p (.q [] .z .z) (.p .z (.p (.q [] .z .z) (.p .z (.p (.q [] .z .z) (.p .z (.p .z (.p .z (.p (.q [] .z .z) .z))))))))))))))) .z))) 91 [ap_,(.list .int)] [.bool]=λx=>fk_ x.1 x.2.1:=by kernel_rfl
noncomputable def c_91:Con prog:=ax_ _ _ 91 [ap_,(.list .int)] [.bool] _ x_91
noncomputable def er_ (a0:ae_) (a1:ai_):Option ((List ag_)×Unit) :=
 ((af_ (ρ:=((List ag_)×Unit)) (λ(v0:((List ag_)×(Int×Unit))) =>
 (cond (decide (v0.2.1<a0.2.2.2.2.2.2.1))
 ((af_ (ρ:=((List ag_)×Unit)) (λ(v1:((List ag_)×(Int×Unit))) =>
 (cond (decide (v1.2.1≤4))
 ((af_ (ρ:=((List ag_)×Unit)) (λ(v2:((List ag_)×(Int×Unit))) =>
 (cond (decide (v2.2.1<24))
 ((((jl_ a0 a1 (v0.2.1,(v1.2.1,v2.2.1))).bind λv3 =>
 (cond v3.1
 ((push? (α:=ag_) v2.1 [(v0.2.1,(v1.2.1,v2.2.1))]).bind λv4 =>
 (some (v4,())))
 (some (v2.1,()))))).bind λv5 =>
 (some (inl (v5.1,((w64 (v2.2.1+1)),())))))
 (some (inr (v2.1,()))))) (v1.1,(0,()))).bind λv6 =>
 (some (inl (v6.1,((w64 (v1.2.1+1)),())))))
 (some (inr (v1.1,()))))) (v0.1,(1,()))).bind λv7 =>
 (some (inl (v7.1,((w64 (v0.2.1+1)),())))))
 (some (inr (v0.1,()))))) ([],(0,()))).bind λv8 =>
 (some (v8.1,())))
theorem x_95:aw_ (P:=prog) (cxC [c_123] []) (.p .z (.p .z (.p (.p .z (.lp [.r 5 ar_ 61,.v 6 .int] [.r 5 ar_ 61] [] 0 (.p .z (.p (.p .z (.lp [.r 5 ar_ 61,.v 7 .int] [.r 5 ar_ 61] [] 2 (.p .z (.p (.p .z (.lp [.r 5 ar_ 61,.v 8 .int] [.r 5 ar_ 61] [] 4 (.p .z (.j0 [.r 5 ar_ 61] .z .z)))) .z)))) .z)))) .z))) 95 [an_,aq_] [(.list ar_)]=λx=>er_ x.1 x.2.1:=by kernel_rfl
noncomputable def c_95:Con prog:=ax_ _ _ 95 [an_,aq_] [(.list ar_)] _ x_95
noncomputable def gi_ (a0:ae_) (a1:ai_) (a2:ag_):Option (ai_×Bool×Unit) :=
 ((push? (α:=Int) [] a1.1).bind λv0 =>
 ((push? (α:=Int) [] a1.2.1).bind λv1 =>
 ((push? (α:=Int) [] a1.2.2).bind λv2 =>
 ((at? a1.2.2 a2.1).bind λv3 =>
 (((cond (a2.2.1==1)
 ((at? a0.2.2.2.1 a2.2.2).bind λv4 =>
 ((at? a0.2.2.2.1 a2.2.2).bind λv5 =>
 ((at? v2 a2.1).bind λv6 =>
 ((at? v2 a2.1).bind λv7 =>
 (some (v0,(v1,((v2.set a2.1.toNat (w64 ((w64 (v4.1+v5.2.1)) - v3))),()))))))))
 (cond (a2.2.1==2)
 ((at? v1 a2.2.2).bind λv8 =>
 ((at? v1 a2.2.2).bind λv9 =>
 (some (v0,((v1.set a2.2.2.toNat (w64 ((-2) - a2.1))),(v2,()))))))
 (cond (a2.2.1==3)
 ((at? v1 a2.2.2).bind λv10 =>
 ((at? v1 a2.2.2).bind λv11 =>
 (some (v0,((v1.set a2.2.2.toNat v3),(v2,()))))))
 (cond (a2.2.1==4)
 ((at? a0.2.2.2.2.1 a2.2.2).bind λv12 =>
 ((af_ (ρ:=((List Int)×Unit)) (λ(v13:(Int×((List Int)×Unit))) =>
 (cond (decide (v13.1<(v12.2.2.2.2.2.2.1.length:Int)))
 ((at? v12.2.2.2.2.2.2.1 v13.1).bind λv14 =>
 ((at? v13.2.1 v14).bind λv15 =>
 ((at? v13.2.1 v14).bind λv16 =>
 (some (inl ((w64 (v13.1+1)),((v13.2.1.set v14.toNat (-1)),())))))))
 (some (inr (v13.2.1,()))))) (0,(v1,()))).bind λv17 =>
 ((af_ (ρ:=((List Int)×Unit)) (λ(v18:(Int×((List Int)×Unit))) =>
 (cond (decide (v18.1<(v12.2.2.2.2.2.2.2.length:Int)))
 ((at? v12.2.2.2.2.2.2.2 v18.1).bind λv19 =>
 ((at? v18.2.1 v19).bind λv20 =>
 ((at? v18.2.1 v19).bind λv21 =>
 (some (inl ((w64 (v18.1+1)),((v18.2.1.set v19.toNat (w64 ((-2) - a2.1))),())))))))
 (some (inr (v18.2.1,()))))) (0,(v17.1,()))).bind λv22 =>
 ((af_ (ρ:=((List Int)×Unit)) (λ(v23:(Int×((List Int)×Unit))) =>
 (cond (decide (v23.1<(v12.2.2.2.2.2.1.length:Int)))
 ((at? v12.2.2.2.2.2.1 v23.1).bind λv24 =>
 ((at? v12.2.2.2.2.2.1 v23.1).bind λv25 =>
 ((at? v23.2.1 v24.1).bind λv26 =>
 ((at? v23.2.1 v24.1).bind λv27 =>
 (some (inl ((w64 (v23.1+1)),((v23.2.1.set v24.1.toNat v25.2),()))))))))
 (some (inr (v23.2.1,()))))) (0,(v0,()))).bind λv28 =>
 (some (v28.1,(v22.1,(v2,()))))))))
 (some (v0,(v1,(v2,()))))))))).bind λv29 =>
 ((gh_ a0 (v29.1,(v29.2.1,v29.2.2.1))).bind λv30 =>
 (some (v30.1,(v30.2.1,())))))))))
theorem x_97:aw_ (P:=prog) (cxI (λk=>.z) (λk=>Nat.beq k 126||false) (cxC [c_126] []) 2) (.p .z (.p .z (.p (.q [] .z .z) (.j0 [.o (.c (.s 8) 0) .int,.o (.c (.s 8) 1) .int,.o (.c (.s 8) 2) .int] (.p .z (.p .z (.p .z (.p .z (.p .z (.p .z (.p .z (.p .z (.p (.p .z (.p (.p .z (.lp [.v 12 .int] [] [.o (.c (.s 8) 1) .int] 1 .z)) (.p (.p .z (.lp [.v 13 .int] [] [.o (.c (.s 8) 1) .int] 3 .z)) (.p .z (.lp [.v 14 .int] [] [.o (.c (.s 8) 0) .int] 5 .z))))) .z))))))))) .z)))) 97 [an_,aq_,ar_] [aq_,.bool]=λx=>gi_ x.1 x.2.1 x.2.2.1:=by kernel_rfl
noncomputable def c_97:Con prog:=ax_ _ _ 97 [an_,aq_,ar_] [aq_,.bool] _ x_97
noncomputable def fe_ (a0:(List UInt8)):Option (Bool×Unit) :=
 ((af_ (ρ:=(Unit⊕(Bool×Unit))) (λ(v0:(Int×Unit)) =>
 (cond (decide (v0.1<(a0.length:Int)))
 ((((at? a0 v0.1).bind λv1 =>
 (cond (decide (((UInt8.toNat v1):Int)<97))
 (some (true,()))
 ((at? a0 v0.1).bind λv2 =>
 (some ((decide (122<((UInt8.toNat v2):Int))),())))))).bind λv3 =>
 (cond v3.1
 (some (inr (inr (false,()))))
 (some (inl ((w64 (v0.1+1)),())))))
 (some (inr (inl ()))))) (0,())).bind λv4 =>
 (cg_ v4 (λv5=>(cond (!(a0==[]))
 ((cx_ [[97,116],[115,116,97,116,101,115],[115,116,97,114,116],[103,111,110,101],[105,102],[108,111,99,107],[119,105,116,104],[115,101,116,115],[115,112,101,110,100,115],[98,114,105,110,103,115]] a0).bind λv7 =>
 (some ((!v7.1),())))
 (some (false,()))))
 (λv6=>(some v6))))
theorem x_206:aw_ (P:=prog) (cxC [c_235] []) (.p .z (.p (.p .z (.ls [.v 6 .int] [] [] 0 (.p .z (.p .z (.p (.p .z (.j0 [.v 18 .bool] .z .z)) .z))))) .z)) 206 [.str] [.bool]=λx=>fe_ x.1:=by kernel_rfl
noncomputable def c_206:Con prog:=ax_ _ _ 206 [.str] [.bool] _ x_206
noncomputable def dt_ (a0:ae_) (a1:(List bg_)):Option (Bool×Unit) :=
 (cond (decide ((a1.length:Int)≤8))
 ((((af_ (ρ:=(Unit⊕(Bool×Unit))) (λ(v0:(Int×Unit)) =>
 (cond (decide (v0.1<(a1.length:Int)))
 ((at? a1 v0.1).bind λv1 =>
 ((ff_ a0 v1.1 v1.2.1).bind λv2 =>
 (cond (!v2.1)
 (some (inr (inr ((decide (0≤v0.1)),()))))
 (some (inl ((w64 (v0.1+1)),()))))))
 (some (inr (inl ()))))) (0,())).bind λv3 =>
 (cg_ v3 (λv4=>(some ((decide (0≤(-1))),())))
 (λv5=>(some v5))))).bind λv6 =>
 (some ((!v6.1),())))
 (some (false,())))
theorem x_175:aw_ (P:=prog) (cxI (λk=>cond (Nat.beq k 166) (.p .z (.j0 [.v 4 .bool] .z .z)) (cond (Nat.beq k 205) (.p .z (.p (.p .z (.ls [.v 8 .int] [] [] 0 .z)) .z)) (.z))) (λk=>Nat.beq k 164||false) (cxC [co5] []) 4) .z 175 [an_,(.list ca_)] [.bool]=λx=>dt_ x.1 x.2.1:=by kernel_rfl
noncomputable def c_175:Con prog:=ax_ _ _ 175 [an_,(.list ca_)] [.bool] _ x_175
noncomputable def di_ (a0:ab_) (a1:(List Int)):Option (Bool×Unit) :=
 (cond ((a1.length:Int)==a0.1)
 ((((af_ (ρ:=(Unit⊕(Bool×Unit))) (λ(v0:(Int×Unit)) =>
 (cond (decide (v0.1<(a1.length:Int)))
 ((at? a1 v0.1).bind λv1 =>
 ((cm_ a0 v1).bind λv2 =>
 (cond (!v2.1)
 (some (inr (inr ((decide (0≤v0.1)),()))))
 (some (inl ((w64 (v0.1+1)),()))))))
 (some (inr (inl ()))))) (0,())).bind λv3 =>
 (cg_ v3 (λv4=>(some ((decide (0≤(-1))),())))
 (λv5=>(some v5))))).bind λv6 =>
 (some ((!v6.1),())))
 (some (false,())))
theorem x_220:aw_ (P:=prog) (cxI (λk=>cond (Nat.beq k 73) (.p .z (.j0 [.v 4 .bool] .z .z)) (cond (Nat.beq k 109) (.p .z (.p (.p .z (.ls [.v 8 .int] [] [] 0 .z)) .z)) (.z))) (λk=>Nat.beq k 246||false) (cxC [c_246] []) 4) .z 220 [al_,(.list .int)] [.bool]=λx=>di_ x.1 x.2.1:=by kernel_rfl
noncomputable def c_220:Con prog:=ax_ _ _ 220 [al_,(.list .int)] [.bool] _ x_220
noncomputable def fw_ (a0:ak_) (a1:(List Int)):Option (Bool×Unit) :=
 ((na_ a0 a1).bind λv0 =>
 (some ((v0.1 != a0.2.2.2.2.2.2),())))
theorem x_223:aw_ (P:=prog) (cxC [c_248] []) (.p .z (.p (.q [] .z .z) .z)) 223 [ap_,(.list .int)] [.bool]=λx=>fw_ x.1 x.2.1:=by kernel_rfl
noncomputable def c_223:Con prog:=ax_ _ _ 223 [ap_,(.list .int)] [.bool] _ x_223
noncomputable def ld_ (a0:ad_):Option (ad_×Unit) :=
 ((le_ a0.1).bind λv0 =>
 ((push? (α:=ab_) [] a0.2.1).bind λv1 =>
 ((push? (α:=co_) [] a0.2.2.2.1).bind λv2 =>
 ((af_ (ρ:=(((List (List Int))×Unit)×Unit)) (λ(v3:(Int×(((List (List Int))×Unit)×Unit))) =>
 (cond (decide (v3.1<(a0.2.2.1.length:Int)))
 ((at? a0.2.2.1 v3.1).bind λv4 =>
 ((push? (α:=Int) [] v4).bind λv5 =>
 ((push? (α:=(List Int)) v3.2.1.1 [v5]).bind λv6 =>
 (some (inl ((w64 (v3.1+1)),((v6,()),())))))))
 (some (inr ((v3.2.1.1,()),()))))) (0,(([],()),()))).bind λv7 =>
 ((af_ (ρ:=((List co_)×Unit)) (λ(v8:(Int×((List co_)×Unit))) =>
 (cond (decide (v8.1<(v8.2.1.length:Int)))
 ((at? v8.2.1 v8.1).bind λv9 =>
 ((at? v8.2.1 v8.1).bind λv10 =>
 ((push? (α:=bg_) [] v10.2.2.2.1).bind λv11 =>
 ((at? v8.2.1 v8.1).bind λv12 =>
 ((at? v8.2.1 v8.1).bind λv13 =>
 ((at? (v8.2.1.set v8.1.toNat (v13.1,(v13.2.1,(v13.2.2.1,(v11,v13.2.2.2.2))))) v8.1).bind λv14 =>
 ((at? (v8.2.1.set v8.1.toNat (v13.1,(v13.2.1,(v13.2.2.1,(v11,v13.2.2.2.2))))) v8.1).bind λv15 =>
 ((go_ v15.2.2.2.2).bind λv16 =>
 ((at? (v8.2.1.set v8.1.toNat (v13.1,(v13.2.1,(v13.2.2.1,(v11,v13.2.2.2.2))))) v8.1).bind λv17 =>
 ((at? (v8.2.1.set v8.1.toNat (v13.1,(v13.2.1,(v13.2.2.1,(v11,v13.2.2.2.2))))) v8.1).bind λv18 =>
 (some (inl ((w64 (v8.1+1)),(((v8.2.1.set v8.1.toNat (v13.1,(v13.2.1,(v13.2.2.1,(v11,v13.2.2.2.2))))).set v8.1.toNat (v18.1,(v18.2.1,(v18.2.2.1,(v18.2.2.2.1,v16.1))))),()))))))))))))))
 (some (inr (v8.2.1,()))))) (0,(v2,()))).bind λv19 =>
 (some ((v0.1,(v1,(v7.1.1,(v19.1,a0.2.2.2.2)))),())))))))
theorem x_10:aw_ (P:=prog) (cxC [c_29,c_30] []) (.p .z (.p .z (.p (.p .z (.lp [.v 4 .int] [] [.b (.s 3) [.keep,.keep,.keep,.keep,.keep,.keep,.keep,.keep,.keep,.row (.list .int) 55,.keep,.keep]] 0 .z)) (.p (.p .z (.lp [.v 5 .int] [] [.o (.s 16) pc_] 2 .z)) .z)))) 10 [ao_] [ao_]=λx=>ld_ x.1:=by kernel_rfl
noncomputable def c_10:Con prog:=ax_ _ _ 10 [ao_] [ao_] _ x_10
noncomputable def ic_ (a0:ad_) (a1:cf_) (a2:Int):Option ((List Int)×Unit) :=
 ((mk? (α:=Int) (a1.1.length:Int) 0).bind λv0 =>
 ((af_ (ρ:=((List Int)×Unit)) (λ(v1:(Int×((List Int)×Unit))) =>
 (cond (decide (v1.1<(v1.2.1.length:Int)))
 ((((at? v1.2.1 v1.1).bind λv2 =>
 ((at? v1.2.1 v1.1).bind λv3 =>
 ((at? a1.1 v1.1).bind λv4 =>
 ((cz_ a0 v4).bind λv5 =>
 (cond v5.1
 ((at? (v1.2.1.set v1.1.toNat (-1)) v1.1).bind λv6 =>
 ((at? (v1.2.1.set v1.1.toNat (-1)) v1.1).bind λv7 =>
 (some (((v1.2.1.set v1.1.toNat (-1)).set v1.1.toNat 0),()))))
 (some ((v1.2.1.set v1.1.toNat (-1)),())))))))).bind λv8 =>
 (some (inl ((w64 (v1.1+1)),(v8.1,())))))
 (some (inr (v1.2.1,()))))) (0,(v0,()))).bind λv9 =>
 ((af_ (ρ:=((List Int)×Unit)) (λ(v10:(Int×(Bool×((List Int)×Unit)))) =>
 (cond v10.2.1
 ((af_ (ρ:=(Bool×((List Int)×Unit))) (λ(v11:(Bool×(Int×((List Int)×Unit)))) =>
 (cond (decide (v11.2.1<(v11.2.2.1.length:Int)))
 ((af_ (ρ:=(Bool×((List Int)×Unit))) (λ(v12:(Bool×(Int×((List Int)×Unit)))) =>
 ((((at? a1.2 v11.2.1).bind λv13 =>
 (cond (decide (v12.2.1<(v13.length:Int)))
 ((at? v12.2.2.1 v11.2.1).bind λv14 =>
 ((at? v12.2.2.1 v11.2.1).bind λv15 =>
 (some ((decide (v15<0)),()))))
 (some (false,()))))).bind λv16 =>
 (cond v16.1
 ((((at? a1.2 v11.2.1).bind λv17 =>
 ((at? v17 v12.2.1).bind λv18 =>
 ((((at? v12.2.2.1 v18.2).bind λv19 =>
 ((at? v12.2.2.1 v18.2).bind λv20 =>
 (cond (v20==(w64 (v10.1 - 1)))
 ((og_ v18 a2).bind λv21 =>
 (some ((!v21.1),())))
 (some (false,())))))).bind λv22 =>
 (cond v22.1
 ((at? v12.2.2.1 v11.2.1).bind λv23 =>
 ((at? v12.2.2.1 v11.2.1).bind λv24 =>
 (some (true,((v12.2.2.1.set v11.2.1.toNat v10.1),())))))
 (some (v12.1,(v12.2.2.1,())))))))).bind λv25 =>
 (some (inl (v25.1,((w64 (v12.2.1+1)),(v25.2.1,()))))))
 (some (inr (v12.1,(v12.2.2.1,()))))))) (v11.1,(0,(v11.2.2.1,())))).bind λv26 =>
 (some (inl (v26.1,((w64 (v11.2.1+1)),(v26.2.1,()))))))
 (some (inr (v11.1,(v11.2.2.1,())))))) (false,(0,(v10.2.2.1,())))).bind λv27 =>
 (some (inl ((w64 (v10.1+1)),(v27.1,(v27.2.1,()))))))
 (some (inr (v10.2.2.1,()))))) (1,(true,(v9.1,())))).bind λv28 =>
 (some (v28.1,())))))
end
section
set_option maxRecDepth 100000
set_option maxHeartbeats 0
noncomputable def mw_ (a0:ae_) (a1:Int):Option (Bool×Unit) :=
 ((at? a0.2.2.2.2.1 a1).bind λv0 =>
 ((af_ (ρ:=(Unit⊕(Bool×Unit))) (λ(v1:(Int×Unit)) =>
 (cond (decide (v1.1<a1))
 ((at? a0.2.2.2.2.1 v1.1).bind λv2 =>
 (cond (v2.1==v0.1)
 (some (inr (inr (false,()))))
 (some (inl ((w64 (v1.1+1)),())))))
 (some (inr (inl ()))))) (0,())).bind λv3 =>
 (cg_ v3 (λv4=>((((du_ v0.1).bind λv6 =>
 (cond (!v6.1)
 (some (true,()))
 ((cr_ a0 v0.2.1).bind λv7 =>
 (cond (!v7.1)
 (some (true,()))
 ((bs_ v0.2.2.1 (-1) 7).bind λv8 =>
 (cond (!v8.1)
 (some (true,()))
 ((dh_ a0 v0.2.2.2.1).bind λv9 =>
 (cond (!v9.1)
 (some (true,()))
 ((dh_ a0 v0.2.2.2.2.2.2.1).bind λv10 =>
 (cond (!v10.1)
 (some (true,()))
 ((dh_ a0 v0.2.2.2.2.2.2.2).bind λv11 =>
 (cond (!v11.1)
 (some (true,()))
 (some ((decide (6<(v0.2.2.2.2.2.1.length:Int))),()))))))))))))))).bind λv12 =>
 (cond v12.1
 (some (false,()))
 ((af_ (ρ:=(Unit⊕(Bool×Unit))) (λ(v13:(Int×Unit)) =>
 (cond (decide (v13.1<(v0.2.2.2.2.2.2.1.length:Int)))
 ((at? v0.2.2.2.2.2.2.1 v13.1).bind λv14 =>
 ((mg_ v0.2.2.2.1 v14).bind λv15 =>
 (cond (!v15.1)
 (some (inr (inr (false,()))))
 (some (inl ((w64 (v13.1+1)),()))))))
 (some (inr (inl ()))))) (0,())).bind λv16 =>
 (cg_ v16 (λv17=>((af_ (ρ:=(Unit⊕(Bool×Unit))) (λ(v19:(Int×Unit)) =>
 (cond (decide (v19.1<(v0.2.2.2.2.2.2.2.length:Int)))
 ((at? v0.2.2.2.2.2.2.2 v19.1).bind λv20 =>
 ((mg_ v0.2.2.2.1 v20).bind λv21 =>
 (cond v21.1
 (some (inr (inr (false,()))))
 (some (inl ((w64 (v19.1+1)),()))))))
 (some (inr (inl ()))))) (0,())).bind λv22 =>
 (cg_ v22 (λv23=>((af_ (ρ:=(Unit⊕(Bool×Unit))) (λ(v25:(Int×Unit)) =>
 (cond (decide (v25.1<(v0.2.2.2.2.2.1.length:Int)))
 ((at? v0.2.2.2.2.2.1 v25.1).bind λv26 =>
 ((at? v0.2.2.2.2.2.1 v25.1).bind λv27 =>
 ((gs_ a0 v26.1 v27.2).bind λv28 =>
 (cond (!v28.1)
 (some (inr (inr (false,()))))
 ((af_ (ρ:=(Unit⊕((Int×Unit)⊕(Unit⊕(Bool×Unit))))) (λ(v29:(Int×Unit)) =>
 (cond (decide (v29.1<v25.1))
 ((at? v0.2.2.2.2.2.1 v29.1).bind λv30 =>
 ((at? v0.2.2.2.2.2.1 v25.1).bind λv31 =>
 (cond (v30.1==v31.1)
 (some (inr (inr (inr (inr (false,()))))))
 (some (inl ((w64 (v29.1+1)),()))))))
 (some (inr (inl ()))))) (0,())).bind λv32 =>
 (cg_ v32 (λv33=>(some (inl ((w64 (v25.1+1)),()))))
 (λv34=>(some v34))))))))
 (some (inr (inl ()))))) (0,())).bind λv35 =>
 (cg_ v35 (λv36=>(some (true,())))
 (λv37=>(some v37)))))
 (λv24=>(some v24)))))
 (λv18=>(some v18)))))))
 (λv5=>(some v5)))))
theorem x_85:aw_ (P:=prog) (cxC [c_81,c_83,c_84,c_86,c_116,c_117] []) (.p .z (.p .z (.p (.p .z (.ls [.v 6 .int] [] [] 0 .z)) (.p (.j0 [.v 73 .bool] .z .z) (.p (.p .z (.ls [.v 7 .int] [] [] 2 .z)) (.p (.p .z (.ls [.v 8 .int] [] [] 4 .z)) (.p (.p .z (.ls [.v 9 .int] [] [] 6 (.p .z (.p (.p .z (.p .z (.ls [.v 10 .int] [] [] 8 .z))) .z)))) .z))))))) 85 [an_,.int] [.bool]=λx=>mw_ x.1 x.2.1:=by kernel_rfl
noncomputable def c_85:Con prog:=ax_ _ _ 85 [an_,.int] [.bool] _ x_85
noncomputable def fu_ (a0:ab_) (a1:ak_):Option (Int×Unit) :=
 ((eg_ a0).bind λv0 =>
 (cond (v0.1 != 0)
 (some (v0.1,()))
 ((gk_ a0 a1).bind λv1 =>
 (cond (!v1.1)
 (some (11,()))
 (some (0,()))))))
theorem x_90:aw_ (P:=prog) (cxC [c_53,c_118] []) .z 90 [al_,ap_] [.int]=λx=>fu_ x.1 x.2.1:=by kernel_rfl
noncomputable def c_90:Con prog:=ax_ _ _ 90 [al_,ap_] [.int] _ x_90
noncomputable def et_ (a0:ab_) (a1:(List ak_)):Option (Int×Unit) :=
 ((eg_ a0).bind λv0 =>
 (cond (v0.1 != 0)
 (some (v0.1,()))
 (cond (decide (20<(a1.length:Int)))
 (some (2,()))
 ((af_ (ρ:=(Unit⊕(Int×Unit))) (λ(v1:(Int×Unit)) =>
 (cond (decide (v1.1<(a1.length:Int)))
 ((at? a1 v1.1).bind λv2 =>
 ((gk_ a0 v2).bind λv3 =>
 (cond (!v3.1)
 (some (inr (inr (11,()))))
 (some (inl ((w64 (v1.1+1)),()))))))
 (some (inr (inl ()))))) (0,())).bind λv4 =>
 (cg_ v4 (λv5=>(some (0,())))
 (λv6=>(some v6)))))))
theorem x_233:aw_ (P:=prog) (cxC [c_53,c_118] []) (.p .z (.p .z (.p .z (.p (.p .z (.ls [.v 6 .int] [] [] 0 (.p .z (.p (.p (.q [] .z .z) .z) .z)))) .z)))) 233 [al_,(.list ap_)] [.int]=λx=>et_ x.1 x.2.1:=by kernel_rfl
noncomputable def c_233:Con prog:=ax_ _ _ 233 [al_,(.list ap_)] [.int] _ x_233
noncomputable def jn_ (a0:(List ak_)) (a1:(List Int)):Option (Int×Unit) :=
 ((af_ (ρ:=(Unit⊕(Int×Unit))) (λ(v0:(Int×Unit)) =>
 (cond (decide (v0.1<(a0.length:Int)))
 ((at? a0 v0.1).bind λv1 =>
 ((fk_ v1 a1).bind λv2 =>
 (cond (!v2.1)
 (some (inr (inr (v0.1,()))))
 (some (inl ((w64 (v0.1+1)),()))))))
 (some (inr (inl ()))))) (0,())).bind λv3 =>
 (cg_ v3 (λv4=>(some ((-1),())))
 (λv5=>(some v5))))
theorem x_254:aw_ (P:=prog) (cxC [c_91] []) (.p .z (.p (.p .z (.ls [.v 5 .int] [] [] 0 .z)) .z)) 254 [(.list ap_),(.list .int)] [.int]=λx=>jn_ x.1 x.2.1:=by kernel_rfl
noncomputable def c_254:Con prog:=ax_ _ _ 254 [(.list ap_),(.list .int)] [.int] _ x_254
noncomputable def lc_ (a0:ad_) (a1:aa_) (a2:ag_):Option (aa_×Unit) :=
 ((gi_ a0.1 a1.1 a2).bind λv0 =>
 ((ip_ a0 (v0.1,a1.2)).bind λv1 =>
 (some (v1.1,()))))
theorem x_61:aw_ (P:=prog) (cxC [c_93,c_97] []) .z 61 [ao_,aj_,ar_] [aj_]=λx=>lc_ x.1 x.2.1 x.2.2.1:=by kernel_rfl
noncomputable def c_61:Con prog:=ax_ _ _ 61 [ao_,aj_,ar_] [aj_] _ x_61
noncomputable def pv_ (a0:ae_) (a1:Int) (a2:cu_):Option (Bool×Unit) :=
 ((((sub? a0.2.2.2.2.1 0 a1).bind λv0 =>
 ((((fe_ a2.1).bind λv1 =>
 (cond v1.1
 (cond (decide ((a2.1.length:Int)≤12))
 ((((af_ (ρ:=(Unit⊕(Int×Unit))) (λ(v2:(Int×Unit)) =>
 (cond (decide (v2.1<(v0.length:Int)))
 ((at? v0 v2.1).bind λv3 =>
 (cond (v3.1==a2.1)
 (some (inr (inr (v2.1,()))))
 (some (inl ((w64 (v2.1+1)),())))))
 (some (inr (inl ()))))) (0,())).bind λv4 =>
 (cg_ v4 (λv5=>(some ((-1),())))
 (λv6=>(some v6))))).bind λv7 =>
 (some ((decide (v7.1<0)),())))
 (some (false,())))
 (some (false,()))))).bind λv8 =>
 (cond (!v8.1)
 (some (true,()))
 ((be_ a2.2.1 0 (w64 ((a0.1.length:Int) - 1))).bind λv9 =>
 (cond (!v9.1)
 (some (true,()))
 ((be_ a2.2.2.1 (-1) 7).bind λv10 =>
 (some ((!v10.1),()))))))))).bind λv11 =>
 (cond v11.1
 (some (false,()))
 ((((gz_ a0 a2.2.2.2.1).bind λv12 =>
 (cond (!v12.1)
 (some (true,()))
 ((gz_ a0 a2.2.2.2.2.2.2.1).bind λv13 =>
 (cond (!v13.1)
 (some (true,()))
 ((gz_ a0 a2.2.2.2.2.2.2.2).bind λv14 =>
 (cond (!v14.1)
 (some (true,()))
 (some ((decide (6<(a2.2.2.2.2.2.1.length:Int))),()))))))))).bind λv15 =>
 (cond v15.1
 (some (false,()))
 ((((((af_ (ρ:=(Unit⊕(Bool×Unit))) (λ(v16:(Int×Unit)) =>
 (cond (decide (v16.1<(a2.2.2.2.2.2.2.1.length:Int)))
 ((at? a2.2.2.2.2.2.2.1 v16.1).bind λv17 =>
 ((bj_ a2.2.2.2.1 v17).bind λv18 =>
 (cond (!v18.1)
 (some (inr (inr ((decide (0≤v16.1)),()))))
 (some (inl ((w64 (v16.1+1)),()))))))
 (some (inr (inl ()))))) (0,())).bind λv19 =>
 (cg_ v19 (λv20=>(some ((decide (0≤(-1))),())))
 (λv21=>(some v21))))).bind λv22 =>
 (cond v22.1
 (some (true,()))
 ((((af_ (ρ:=(Unit⊕(Bool×Unit))) (λ(v23:(Int×Unit)) =>
 (cond (decide (v23.1<(a2.2.2.2.2.2.2.2.length:Int)))
 ((at? a2.2.2.2.2.2.2.2 v23.1).bind λv24 =>
 ((bj_ a2.2.2.2.1 v24).bind λv25 =>
 (cond v25.1
 (some (inr (inr ((decide (0≤v23.1)),()))))
 (some (inl ((w64 (v23.1+1)),()))))))
 (some (inr (inl ()))))) (0,())).bind λv26 =>
 (cg_ v26 (λv27=>(some ((decide (0≤(-1))),())))
 (λv28=>(some v28))))).bind λv29 =>
 (some (v29.1,())))))).bind λv30 =>
 (cond v30.1
 (some (false,()))
 ((af_ (ρ:=(Unit⊕(Bool×Unit))) (λ(v31:(Int×Unit)) =>
 (cond (decide (v31.1<(a2.2.2.2.2.2.1.length:Int)))
 ((at? a2.2.2.2.2.2.1 v31.1).bind λv32 =>
 ((sub? a2.2.2.2.2.2.1 0 v31.1).bind λv33 =>
 ((((af_ (ρ:=(Unit⊕(Bool×Unit))) (λ(v34:(Int×Unit)) =>
 (cond (decide (v34.1<(v33.length:Int)))
 ((at? v33 v34.1).bind λv35 =>
 (cond (v35.1==v32.1)
 (some (inr (inr ((decide (0≤v34.1)),()))))
 (some (inl ((w64 (v34.1+1)),())))))
 (some (inr (inl ()))))) (0,())).bind λv36 =>
 (cg_ v36 (λv37=>(some ((decide (0≤(-1))),())))
 (λv38=>(some v38))))).bind λv39 =>
 ((((ff_ a0 v32.1 v32.2).bind λv40 =>
 (cond (!v40.1)
 (some (true,()))
 (some (v39.1,()))))).bind λv41 =>
 (cond v41.1
 (some (inr (inr (false,()))))
 (some (inl ((w64 (v31.1+1)),()))))))))
 (some (inr (inl ()))))) (0,())).bind λv42 =>
 (cg_ v42 (λv43=>(some (true,())))
 (λv44=>(some v44))))))))))
theorem x_176:aw_ (P:=prog) (cxI (λk=>cond (Nat.beq k 73) (.p .z (.j0 [.v 4 .bool] .z .z)) (cond (Nat.beq k 109) (.p .z (.p (.p .z (.ls [.v 8 .int] [] [] 0 .z)) .z)) (cond (Nat.beq k 211) (.p .z (.j0 [.v 6 .bool] .z .z)) (cond (Nat.beq k 216) (.p .z (.j0 [.v 4 .bool] .z .z)) (cond (Nat.beq k 242) (.p .z (.j0 [.v 6 .int] .z .z)) (cond (Nat.beq k 243) (.p .z (.p (.p .z (.ls [.v 8 .int] [] [] 0 .z)) .z)) (cond (Nat.beq k 256) (.p .z (.p (.p .z (.ls [.v 8 .int] [] [] 0 .z)) .z)) (cond (Nat.beq k 257) (.p .z (.p (.q [] .z .z) .z)) (.z))))))))) (λk=>Nat.beq k 139||Nat.beq k 164||Nat.beq k 165||Nat.beq k 206||Nat.beq k 212||Nat.beq k 213||false) (cxC [co6,co5,ca9,c_206,c_212,c_213] []) 12) (.p .z (.p (.j0 [.v 35 .bool] (.q [] .z .z) .z) (.p (.j0 [.v 60 .bool] .z .z) (.p .z (.p .z (.p (.j0 [.v 72 .bool] .z .z) (.p (.p .z (.ls [.v 76 .int] [] [] 0 (.p .z (.p .z (.p (.p .z (.p .z (.j0 [.v 96 .bool] .z .z))) .z))))) .z))))))) 176 [an_,.int,ly_] [.bool]=λx=>pv_ x.1 x.2.1 x.2.2.1:=by kernel_rfl
noncomputable def c_176:Con prog:=ax_ _ _ 176 [an_,.int,ly_] [.bool] _ x_176
noncomputable def ho_ (a0:ab_) (a1:(List (List Int))):Option (Int×Unit) :=
 ((eh_ a0).bind λv0 =>
 (cond (v0.1 != 0)
 (some (v0.1,()))
 ((((af_ (ρ:=(Unit⊕(Bool×Unit))) (λ(v1:(Int×Unit)) =>
 (cond (decide (v1.1<(a1.length:Int)))
 ((at? a1 v1.1).bind λv2 =>
 ((di_ a0 v2).bind λv3 =>
 (cond (!v3.1)
 (some (inr (inr ((decide (0≤v1.1)),()))))
 (some (inl ((w64 (v1.1+1)),()))))))
 (some (inr (inl ()))))) (0,())).bind λv4 =>
 (cg_ v4 (λv5=>(some ((decide (0≤(-1))),())))
 (λv6=>(some v6))))).bind λv7 =>
 (cond v7.1
 (some (12,()))
 (some (0,()))))))
theorem x_178:aw_ (P:=prog) (cxI (λk=>cond (Nat.beq k 218) (.p .z (.j0 [.v 4 .bool] .z .z)) (cond (Nat.beq k 244) (.p .z (.p (.p .z (.ls [.v 8 .int] [] [] 0 .z)) .z)) (.z))) (λk=>Nat.beq k 132||Nat.beq k 220||false) (cxC [co7,c_220] []) 4) .z 178 [al_,(.list (.list .int))] [.int]=λx=>ho_ x.1 x.2.1:=by kernel_rfl
noncomputable def c_178:Con prog:=ax_ _ _ 178 [al_,(.list (.list .int))] [.int] _ x_178
noncomputable def dj_ (a0:ab_) (a1:ak_):Option (Bool×Unit) :=
 (((cond (a1.1==1)
 ((bt_ a0 a1.2.1).bind λv0 =>
 (cond v0.1
 ((cm_ a0 a1.2.2.2.1).bind λv1 =>
 (some (v1.1,((a1.2.1,(0,(a1.2.2.2.1,(0,([],()))))),()))))
 (some (false,((a1.2.1,(0,(a1.2.2.2.1,(0,([],()))))),())))))
 (cond (a1.1==2)
 ((bt_ a0 a1.2.1).bind λv2 =>
 (cond v2.1
 ((bt_ a0 a1.2.2.1).bind λv3 =>
 (cond v3.1
 (cond (decide (a1.2.1≤a1.2.2.1))
 ((bv_ a1.2.2.2.1 0 100).bind λv4 =>
 (some (v4.1,((a1.2.1,(a1.2.2.1,(a1.2.2.2.1,(0,([],()))))),()))))
 (some (false,((a1.2.1,(a1.2.2.1,(a1.2.2.2.1,(0,([],()))))),()))))
 (some (false,((a1.2.1,(a1.2.2.1,(a1.2.2.2.1,(0,([],()))))),())))))
 (some (false,((a1.2.1,(a1.2.2.1,(a1.2.2.2.1,(0,([],()))))),())))))
 (((cond (a1.1==3)
 (some ((a1.1==3),()))
 (some ((a1.1==4),())))).bind λv5 =>
 (cond v5.1
 ((bt_ a0 a1.2.1).bind λv6 =>
 (cond v6.1
 ((bt_ a0 a1.2.2.1).bind λv7 =>
 (cond v7.1
 (some ((a1.2.1 != a1.2.2.1),((a1.2.1,(a1.2.2.1,(0,(0,([],()))))),())))
 (some (false,((a1.2.1,(a1.2.2.1,(0,(0,([],()))))),())))))
 (some (false,((a1.2.1,(a1.2.2.1,(0,(0,([],()))))),())))))
 (cond (a1.1==5)
 ((cm_ a0 a1.2.2.2.1).bind λv8 =>
 (cond v8.1
 ((bv_ a1.2.2.2.2.1 0 a0.1).bind λv9 =>
 (some (v9.1,((0,(0,(a1.2.2.2.1,(a1.2.2.2.2.1,([],()))))),()))))
 (some (false,((0,(0,(a1.2.2.2.1,(a1.2.2.2.2.1,([],()))))),())))))
 (cond (a1.1==6)
 ((bv_ a1.2.2.2.1 0 a0.1).bind λv10 =>
 (cond v10.1
 ((bv_ a1.2.2.2.2.1 0 a0.1).bind λv11 =>
 (cond v11.1
 ((di_ a0 a1.2.2.2.2.2.1).bind λv12 =>
 (some (v12.1,((0,(0,(a1.2.2.2.1,(a1.2.2.2.2.1,(a1.2.2.2.2.2.1,()))))),()))))
 (some (false,((0,(0,(a1.2.2.2.1,(a1.2.2.2.2.1,(a1.2.2.2.2.2.1,()))))),())))))
 (some (false,((0,(0,(a1.2.2.2.1,(a1.2.2.2.2.1,(a1.2.2.2.2.2.1,()))))),())))))
 (cond (a1.1==7)
 ((bt_ a0 a1.2.1).bind λv13 =>
 (cond v13.1
 ((bv_ a1.2.2.2.1 2 10).bind λv14 =>
 (cond v14.1
 ((bv_ a1.2.2.2.2.1 0 (w64 (a1.2.2.2.1 - 1))).bind λv15 =>
 (some (v15.1,((a1.2.1,(0,(a1.2.2.2.1,(a1.2.2.2.2.1,([],()))))),()))))
 (some (false,((a1.2.1,(0,(a1.2.2.2.1,(a1.2.2.2.2.1,([],()))))),())))))
 (some (false,((a1.2.1,(0,(a1.2.2.2.1,(a1.2.2.2.2.1,([],()))))),())))))
 (some (false,((0,(0,(0,(0,([],()))))),()))))))))))).bind λv16 =>
 (cond v16.1
 (cond (a1.2.1==v16.2.1.1)
 (cond (a1.2.2.1==v16.2.1.2.1)
 (cond (a1.2.2.2.1==v16.2.1.2.2.1)
 (cond (a1.2.2.2.2.1==v16.2.1.2.2.2.1)
 (some (((a1.2.2.2.2.2.1.length:Int)==(v16.2.1.2.2.2.2.1.length:Int)),()))
 (some (false,())))
 (some (false,())))
 (some (false,())))
 (some (false,())))
 (some (false,()))))
theorem x_247:aw_ (P:=prog) (cxC [co4,c_220,c_246,c_258] []) (.p .z (.p .z (.p .z (.j0 [.v 6 .bool,.b (.s 5) [.keep,.val .int,.val .int,.val .int,.val .int,.val (.list .int),.keep]] (.p .z (.p .z (.p .z (.p .z (.p .z (.j0 [.v 65 .bool] .z .z)))))) .z)))) 247 [al_,ap_] [.bool]=λx=>dj_ x.1 x.2.1:=by kernel_rfl
noncomputable def c_247:Con prog:=ax_ _ _ 247 [al_,ap_] [.bool] _ x_247
noncomputable def fx_ (a0:(List ak_)) (a1:(List Int)):Option (Int×Unit) :=
 ((af_ (ρ:=(Unit⊕(Int×Unit))) (λ(v0:(Int×Unit)) =>
 (cond (decide (v0.1<(a0.length:Int)))
 ((at? a0 v0.1).bind λv1 =>
 ((fw_ v1 a1).bind λv2 =>
 (cond (!v2.1)
 (some (inr (inr (v0.1,()))))
 (some (inl ((w64 (v0.1+1)),()))))))
 (some (inr (inl ()))))) (0,())).bind λv3 =>
 (cg_ v3 (λv4=>(some ((-1),())))
 (λv5=>(some v5))))
theorem x_275:aw_ (P:=prog) (cxI (λk=>cond (Nat.beq k 272) (.p .z (.p (.p .z (.ls [.v 8 .int] [] [] 0 .z)) .z)) (.z)) (λk=>Nat.beq k 223||false) (cxC [c_223] []) 3) .z 275 [(.list ap_),(.list .int)] [.int]=λx=>fx_ x.1 x.2.1:=by kernel_rfl
noncomputable def c_275:Con prog:=ax_ _ _ 275 [(.list ap_),(.list .int)] [.int] _ x_275
end
end Go.Proofs.YtgeehfnbhbibeaaGreatDoor.Rx
namespace Go.Proofs.YtgeehfnbhbibeaaGreatDoor.Rx
open Go Pad Rex Sum
section
def wi (a b c:Int):Bool:=decide (b≤a)&&decide (a≤c)
theorem ce_ {a b c:Int}:wi a b c=true↔b≤a∧a≤c:=by simp[wi]
theorem bf5 (a b c:Int):(cond (decide (b≤a)) (some ((decide (a≤c)),())) (some (false,())))=some (wi a b c,()):=by
 unfold wi
 cases decide (b≤a)<;>rfl
theorem dw_ (a b c:Int):be_ a b c=some (wi a b c,()):=bf5 a b c
theorem ka_ (a b c:Int):bz_ a b c=some (wi a b c,()):=bf5 a b c
theorem fn_ (a b c:Int):bs_ a b c=some (wi a b c,()):=bf5 a b c
theorem yx_ (a b c:Int):iq_ a b c=some (wi a b c,()):=bf5 a b c
theorem beqc {α:Type} [BEq α] [LawfulBEq α] (x y:α):(y==x)=(x==y):=by
 rw[k6_,f5_,f5_]
 exact eq_comm
theorem he_ {α:Type} [BEq α] [LawfulBEq α] (l:List α) (x:α):l.any (x == ·)=l.contains x:=by
 induction l with
 | nil=>rfl
 | cons y l ih=>simp[List.contains_cons,ih]
theorem cd6 {l:List Int} {x:Int} (hl:Sm l.length):∃ i:Int,ep_ l x=some (i,())∧decide (0≤i)=l.contains x:=by
  unfold ep_
  have h1:=oa_ l (λi y=>cond (x==y) (some (inr ((i:Int),()):Unit⊕(Int×Unit))) none) (λi=>((i:Int),())) (r0:=inl ())
    (body:=λ(v0:(Int×Unit)) =>
     (cond (decide (v0.1<(l.length:Int)))
     ((at? l v0.1).bind λv1 =>
     (cond (x==v1)
     (some (inr (inr (v0.1,()))))
     (some (inl ((w64 (v0.1+1)),())))))
     (some (inr (inl ())))))
    (λi y hy=>by
      have hi:=am_ hy
      simp only[dlt hi,a5_,ah_ hy,a0_,az_ (show Sm i by omega)]
      cases x==y<;>rfl)
    (by simp only[dnl,a2_])
  rcases ab1 (q:=λy=>x==y) (f:=λi=>(inr ((i:Int),()):Unit⊕(Int×Unit))) l 0 with ⟨h2,h3⟩ | ⟨i,h2,h3⟩
  · refine⟨-1,e5_ (congrArg (λo=>Option.bind o _) h1) ?_,by rw[← he_,h3];rfl⟩
    rw[h2];rfl
  · refine⟨i,e5_ (congrArg (λo=>Option.bind o _) h1) ?_,by rw[← he_,h3];exact b6_ (by omega)⟩
    rw[h2];rfl
theorem ou_ {l:List Int} {x:Int} (hl:Sm l.length):bj_ l x=some (l.contains x,()):=by
 obtain⟨i,h1,h2⟩:=cd6 (x:=x) hl
 unfold bj_
 rw[h1,a0_,h2]
theorem ap1 {l:List (List UInt8)} {x:List UInt8} (hl:Sm l.length):∃ i:Int,ds_ l x=some (i,())∧decide (0≤i)=l.contains x:=by
 unfold ds_
 rcases ab1 (q:=λy=>x==y) (f:=λi=>(inr ((i:Int),()):Unit⊕(Int×Unit))) l 0 with ⟨h2,h3⟩ | ⟨i,h2,h3⟩
 ·refine⟨-1,bo_ l (λi y=>cond (x==y) (some (inr ((i:Int),()):Unit⊕(Int×Unit))) none) (λi=>((i:Int),())) (r0:=inl ()) (λi y hy => ?_) ?_ ?_,by rw[← he_,h3];rfl⟩
  ·have hi:=am_ hy
   simp only[dlt hi,a5_,ah_ hy,a0_,az_ (show Sm i by omega)]
   cases x==y<;>rfl
  ·simp only[dnl,a2_]
  ·rw[h2];rfl
 ·refine⟨i,bo_ l (λi y=>cond (x==y) (some (inr ((i:Int),()):Unit⊕(Int×Unit))) none) (λi=>((i:Int),())) (r0:=inl ()) (λi y hy => ?_) ?_ ?_,by rw[← he_,h3];exact b6_ (by omega)⟩
  ·have hi:=am_ hy
   simp only[dlt hi,a5_,ah_ hy,a0_,az_ (show Sm i by omega)]
   cases x==y<;>rfl
  ·simp only[dnl,a2_]
  ·rw[h2];rfl
theorem xz_ {l:List (List UInt8)} {x:List UInt8} (hl:Sm l.length):cx_ l x=some (l.contains x,()):=by
 obtain⟨i,h1,h2⟩:=ap1 (x:=x) hl
 unfold cx_
 rw[h1,a0_,h2]
theorem ay7 {l:List Int} {x:Int} (hl:Sm l.length):mg_ l x=some (l.contains x,()):=by
 unfold mg_
 refine bo_ l (λi y=>cond (x==y) (some (inr (true,()):Unit⊕(Bool×Unit))) none) (λi=>((i:Int),())) (r0:=inl ()) (λi y hy => ?_) ?_ ?_
 ·have hi:=am_ hy
  simp only[dlt hi,a5_,ah_ hy,a0_,az_ (show Sm i by omega)]
  rw[beqc x y]
  cases x==y<;>rfl
 ·simp only[dnl,a2_]
 ·rw[hh_ (q:=λy=>x==y),he_]
  cases l.contains x<;>rfl
def yl_ (c:UInt8):Bool:=decide (97≤(c.toNat:Int))&&decide ((c.toNat:Int)≤122)
def okW (t:List UInt8):Bool:=t.all yl_&&(!(t==[])&&!(reserved.contains t))
def okN (t:List UInt8):Bool:=decide ((t.length:Int)≤12)&&okW t
theorem cl4 (c:UInt8):(cond (decide (((UInt8.toNat c):Int)<97)) (some (true,())) (some ((decide (122<((UInt8.toNat c):Int))),())))=some (!(yl_ c),()):=by
 unfold yl_
 by_cases h1:((UInt8.toNat c):Int)<97
 ·rw[b6_ h1,b9_ (by omega:¬ (97:Int)≤(c.toNat:Int))];rfl
 ·rw[b9_ h1,b6_ (by omega:(97:Int)≤(c.toNat:Int))]
  by_cases h2:122<((UInt8.toNat c):Int)
  ·rw[b6_ h2,b9_ (by omega:¬ ((UInt8.toNat c):Int)≤122)];rfl
  ·rw[b9_ h2,b6_ (by omega:((UInt8.toNat c):Int)≤122)];rfl
theorem oc_ {t:List UInt8} (hl:Sm t.length):af_ (ρ:=(Unit⊕(Bool×Unit))) (λ(v0:(Int×Unit)) =>
 (cond (decide (v0.1<(t.length:Int)))
 ((((at? t v0.1).bind λv1 =>
 (cond (decide (((UInt8.toNat v1):Int)<97))
 (some (true,()))
 ((at? t v0.1).bind λv2 =>
 (some ((decide (122<((UInt8.toNat v2):Int))),())))))).bind λv3 =>
 (cond v3.1
 (some (inr (inr (false,()))))
 (some (inl ((w64 (v0.1+1)),())))))
 (some (inr (inl ()))))) (0,())=some (cond (t.all yl_) (inl ()) (inr (false,()))):=by
  refine e5_ (oa_ t (λi c=>cond (yl_ c) none (some (inr (false,()):Unit⊕(Bool×Unit)))) (λi=>((i:Int),())) (r0:=inl ()) (λi y hy => ?_) ?_) ?_
  · have hi:=am_ hy
    simp only[dlt hi,a5_,ah_ hy,a0_,az_ (show Sm i by omega),cl4]
    cases yl_ y<;>rfl
  · simp only[dnl,a2_]
  · rw[je_]
    cases t.all yl_<;>rfl
theorem bo3 {t:List UInt8} (hl:Sm t.length):fe_ t=some (okW t,()):=by
 unfold fe_
 refine e5_ (congrArg (λo=>Option.bind o _) (oc_ hl)) ?_
 unfold okW
 rw[a0_]
 cases t.all yl_ with
 | false=>rfl
 | true =>
  simp only[a5_,c2_]
  cases t==[] with
  | true=>rfl
  | false =>
   simp only[h3_,a5_,c2_]
   rw[xz_ (by decide),a0_]
   rfl
theorem ab5 {t:List UInt8} (hl:Sm t.length):hn_ t=some (okW t,()):=by
 unfold hn_
 refine e5_ (congrArg (λo=>Option.bind o _) (oc_ hl)) ?_
 unfold okW
 rw[a0_]
 cases t.all yl_ with
 | false=>rfl
 | true =>
  simp only[a5_,c2_]
  refine bo_ reserved (λi y=>cond (t==y) (some (inr (false,()):Unit⊕(Bool×Unit))) none) (λi=>((i:Int),())) (r0:=inl ()) (λi y hy => ?_) ?_ ?_
  ·have hi:=am_ hy
   have h10:i<10:=hi
   have hy':=hy
   unfold reserved at hy'
   refine e5_ (congrArg (λc=>cond c _ _) (dlt hi)) ?_
   simp only[a5_,ah_ hy',a0_,az_ (show Sm i by omega)]
   rw[beqc t y]
   cases t==y<;>rfl
  ·rfl
  ·rw[hh_ (q:=λy=>t==y),he_]
   cases reserved.contains t with
   | true=>simp
   | false=>simp
theorem bq1 {t:List UInt8} (hl:Sm t.length):my_ t=some (okW t,()):=by
  unfold my_
  have h0:(((cond (t==[]) (some ((t==[]),())) (cond (t==[97,116]) (some ((t==[97,116]),())) (cond (t==[115,116,97,116,101,115]) (some ((t==[115,116,97,116,101,115]),())) (cond (t==[115,116,97,114,116]) (some ((t==[115,116,97,114,116]),()))
     (cond (t==[103,111,110,101]) (some ((t==[103,111,110,101]),())) (cond (t==[105,102]) (some ((t==[105,102]),())) (cond (t==[108,111,99,107]) (some ((t==[108,111,99,107]),())) (cond (t==[119,105,116,104]) (some ((t==[119,105,116,104]),()))
     (cond (t==[115,101,116,115]) (some ((t==[115,101,116,115]),())) (cond (t==[115,112,101,110,100,115]) (some ((t==[115,112,101,110,100,115]),())) (some ((t==[98,114,105,110,103,115]),()))))))))))))):Option (Bool×Unit))=some ((t==[]||reserved.contains t),()):=by
    unfold reserved
    simp only[List.contains_cons,List.contains_nil,i7_]
    cases t==[] with
    | true=>rfl
    | false =>
    cases t==[97,116] with
    | true=>rfl
    | false =>
    cases t==[115,116,97,116,101,115] with
    | true=>rfl
    | false =>
    cases t==[115,116,97,114,116] with
    | true=>rfl
    | false =>
    cases t==[103,111,110,101] with
    | true=>rfl
    | false =>
    cases t==[105,102] with
    | true=>rfl
    | false =>
    cases t==[108,111,99,107] with
    | true=>rfl
    | false =>
    cases t==[119,105,116,104] with
    | true=>rfl
    | false =>
    cases t==[115,101,116,115] with
    | true=>rfl
    | false =>
    cases t==[115,112,101,110,100,115] with
    | true=>rfl
    | false=>rfl
  refine e5_ (congrArg (λo=>Option.bind o _) h0) ?_
  rw[a0_]
  unfold okW
  cases hz:(t==[]||reserved.contains t) with
  | true =>
    have:(!(t==[])&&!(reserved.contains t))=false:=by
      rw[← Bool.not_or,hz];rfl
    rw[this,f9_]
    rfl
  | false =>
    have:(!(t==[])&&!(reserved.contains t))=true:=by
      rw[← Bool.not_or,hz];rfl
    rw[this,i1_]
    simp only[a2_]
    refine e5_ (congrArg (λo=>Option.bind o _) (oc_ hl)) ?_
    rw[a0_]
    cases t.all yl_<;>rfl
theorem jy_ {t:List UInt8} (hl:Sm t.length):du_ t=some (okN t,()):=by
 unfold du_ okN
 rw[ab5 hl]
 cases decide ((t.length:Int)≤12)<;>rfl
end
section
def nk_ (things:List gw_) (th n:Int):Bool:=wi th 0 (w64 ((things.length:Int) - 1))&&match at? things th with
 | some t=>wi n 0 (w64 (t.2.2.1 - 1))
 | none=>false
theorem ah3 {α:Type} {l:List α} {i:Int} (hl:Sm l.length) (h:wi i 0 (w64 ((l.length:Int) - 1))=true):∃ x,at? l i=some x:=by
 rw[ez_ (by omega) (by omega)] at h
 obtain⟨h1,h2⟩:=ce_.1 h
 obtain⟨x,hx⟩:=bb_ (l:=l) (i:=i.toNat) (by omega)
 exact⟨x,by rw[show i=((i.toNat:Nat):Int) by omega];exact ah_ hx⟩
theorem pj_ {r:ae_} (hl:Sm r.2.1.length) (th n:Int):ff_ r th n=some (nk_ r.2.1 th n,()):=by
 unfold ff_ nk_
 rw[dw_,a0_]
 cases h:wi th 0 (w64 ((r.2.1.length:Int) - 1)) with
 | false=>rfl
 | true =>
  obtain⟨x,hx⟩:=ah3 hl h
  simp only[a5_,hx,a0_,dw_,c2_]
theorem rn_ {r:ae_} (hl:Sm r.2.1.length) (th n:Int):gs_ r th n=some (nk_ r.2.1 th n,()):=by
 unfold gs_ nk_
 rw[fn_,a0_]
 cases h:wi th 0 (w64 ((r.2.1.length:Int) - 1)) with
 | false=>rfl
 | true =>
  obtain⟨x,hx⟩:=ah3 hl h
  simp only[a5_,hx,a0_,fn_,c2_]
def cOk (things:List gw_) (c:List bg_):Bool:=decide ((c.length:Int)≤8)&&c.all λl=>nk_ things l.1 l.2.1
theorem tr_ {α:Type} (l:List α) (q:α→Bool):(!(l.any λx=>!(q x)))=l.all q:=by
 induction l with
 | nil=>rfl
 | cons x l ih =>
  rw[o7_,List.all_cons,← ih]
  cases q x<;>rfl
theorem js_ {r:ae_} (hl:Sm r.2.1.length) (c:List bg_):dt_ r c=some (cOk r.2.1 c,()):=by
 unfold dt_ cOk
 cases h8:decide ((c.length:Int)≤8) with
 | false=>rfl
 | true =>
  have h8:=g0_ h8
  simp only[a5_,c2_]
  refine e5_ (congrArg (λo=>Option.bind o _) (on_ (show Sm c.length by omega) (λl=>!(nk_ r.2.1 l.1 l.2.1)) (λi y hy => ?_) ?_)) ?_
  ·simp only[dlt (am_ hy),a5_,ah_ hy,a0_,pj_ hl]
   cases nk_ r.2.1 y.1 y.2.1<;>rfl
  ·simp only[dnl,a2_]
  ·rw[a0_]
   exact congrArg (λb=>some (b,())) (tr_ c _)
theorem gx_ {r:ae_} (hl:Sm r.2.1.length) {c:List bg_} (hc:Sm c.length):cs_ r c=some (cOk r.2.1 c,()):=by
 unfold cs_ cOk
 refine bo_ c (λi l=>cond (nk_ r.2.1 l.1 l.2.1) none (some (inr (false,()):Unit⊕(Bool×Unit)))) (λi=>((i:Int),())) (r0:=inl ()) (λi y hy => ?_) ?_ ?_
 ·have hi:=am_ hy
  simp only[dlt hi,a5_,ah_ hy,a0_,az_ (show Sm i by omega),rn_ hl]
  cases nk_ r.2.1 y.1 y.2.1<;>rfl
 ·simp only[dnl,a2_]
 ·rw[je_ (q:=λl:bg_=>nk_ r.2.1 l.1 l.2.1)]
  cases c.all λl=>nk_ r.2.1 l.1 l.2.1 with
  | true=>rw[i1_];rfl
  | false=>rw[f9_];rfl
theorem bh6 {r:ae_} (hl:Sm r.2.1.length) (c:List bg_):lg_ r c=some (cOk r.2.1 c,()):=by
 unfold lg_ cOk
 cases h8:decide ((c.length:Int)≤8) with
 | false=>rfl
 | true =>
  have h8:=g0_ h8
  simp only[a5_,c2_]
  refine e5_ (congrArg (λo=>Option.bind o _) (on_ (show Sm c.length by omega) (λl=>!(nk_ r.2.1 l.1 l.2.1)) (λi y hy => ?_) ?_)) ?_
  ·simp only[dlt (am_ hy),a5_,ah_ hy,a0_,ka_,nk_]
   cases h:wi y.1 0 (w64 ((r.2.1.length:Int) - 1)) with
   | false=>rfl
   | true =>
    obtain⟨x,hx⟩:=ah3 hl h
    simp only[e9_,a2_,hx,a0_,c2_]
    cases wi y.2.1 0 (w64 (x.2.2.1 - 1))<;>rfl
  ·simp only[dnl,a2_]
  ·rw[a0_]
   exact congrArg (λb=>some (b,())) (tr_ c _)
end
section
def prv (l:List Int) (i:Nat):Int:=match i with
 | 0=>-1
 | j+1=>(l[j]?).getD 0
def cv2 (np:Nat) (l:List Int) (i:Nat) (x:Int):Bool:=decide (x≤prv l i)||decide ((np:Int)≤x)
def badQ (np:Nat) (l:List Int) (i:Nat) (x:Int):Bool:=!(wi x 0 ((np:Int) - 1))||(decide (0<i)&&decide (x≤prv l i))
def kq_ (np:Nat) (l:List Int):Bool:=(gb_ (λi x=>cond (cv2 np l i x) (some ()) none) 0 l).isNone
theorem vt_ {α ρ:Type} {q:Nat→α→Bool} {r:ρ}:∀ (l:List α) (i:Nat),gb_ (λi x=>cond (q i x) (some r) none) i l=cond (gb_ (λi x=>cond (q i x) (some ()) none) i l).isNone none (some r)
 | [],_=>rfl
 | x::l,i=>by
  unfold gb_
  cases q i x with
  | true=>rfl
  | false=>exact vt_ l (i+1)
theorem ab0 {α:Type} {q:Nat→α→Bool} (l:List α):(gb_ (λi x=>cond (q i x) (some ()) none) 0 l).isNone=true↔∀ i x,l[i]?=some x→q i x=false:=by
 rw[Option.isNone_iff_eq_none,il_]
 constructor
 ·intro h i x hx
  have:=h i x hx
  rw[b0_] at this
  cases hq:q i x with
  | false=>rfl
  | true=>rw[hq] at this;cases this
 ·intro h i x hx
  rw[b0_,h i x hx]
  rfl
theorem cv5 (np:Nat) (l:List Int):(gb_ (λi x=>cond (badQ np l i x) (some ()) none) 0 l).isNone=kq_ np l:=by
 rw[k6_]
 unfold kq_
 rw[ab0,ab0]
 constructor
 ·intro h i x hx
  have h0:=h i x hx
  unfold badQ at h0
  rw[c0_] at h0
  obtain⟨h1,h2⟩:=h0
  have h1:wi x 0 ((np:Int) - 1)=true:=by simpa using h1
  obtain⟨h3,h4⟩:=ce_.1 h1
  unfold cv2
  rw[c0_]
  refine⟨?_,b9_ (by omega)⟩
  cases i with
  | zero=>exact b9_ (by show ¬ x≤-1;omega)
  | succ j =>
   have:decide (0<j+1)=true:=b6_ (by omega)
   rw[this,c2_] at h2
   exact h2
 ·intro h
  have pos:∀ (i:Nat) (x:Int),l[i]?=some x→0≤x∧x<np:=by
   intro i
   induction i with
   | zero =>
    intro x hx
    have h0:=h 0 x hx
    unfold cv2 at h0
    rw[c0_] at h0
    have h1:=e0_ h0.1
    have h2:=e0_ h0.2
    have h1:¬ x≤-1:=h1
    omega
   | succ j ih =>
    intro x hx
    have h0:=h (j+1) x hx
    unfold cv2 at h0
    rw[c0_] at h0
    have h1:=e0_ h0.1
    have h2:=e0_ h0.2
    obtain⟨y,hy⟩:=bb_ (l:=l) (i:=j) (by have:=am_ hx;omega)
    have h3:=ih y hy
    have h1:¬ x≤(l[j]?).getD 0:=h1
    rw[hy] at h1
    have h1:¬ x≤y:=h1
    omega
  intro i x hx
  have h0:=h i x hx
  unfold cv2 at h0
  rw[c0_] at h0
  have hp:=pos i x hx
  unfold badQ
  have:wi x 0 ((np:Int) - 1)=true:=ce_.2 ⟨hp.1,by omega⟩
  rw[this,h0.1,f9_]
  rfl
theorem ss_ {r:ae_} {l:List Int} (hl:Sm l.length):gz_ r l=some (kq_ r.2.2.1.length l,()):=by
 unfold gz_
 refine bo_ l (λi x=>cond (cv2 r.2.2.1.length l i x) (some (inr (false,()):Unit⊕(Bool×Unit))) none) (λi=>(prv l i,((i:Int),()))) (r0:=inl ()) (λi y hy => ?_) ?_ ?_
 ·have hi:=am_ hy
  simp only[dlt hi,a5_,ah_ hy,a0_,az_ (show Sm i by omega),cv2]
  have hn:prv l (i+1)=y:=by show (l[i]?).getD 0=y;rw[hy];rfl
  cases decide (y≤prv l i) with
  | true=>rfl
  | false =>
   simp only[a2_,k1_,a0_,hn]
   cases decide ((r.2.2.1.length:Int)≤y)<;>rfl
 ·simp only[dnl,a2_]
 ·rw[vt_]
  unfold kq_
  cases (gb_ (λi x=>cond (cv2 r.2.2.1.length l i x) (some ()) none) 0 l).isNone<;>rfl
theorem jx_ {r:ae_} (hp:Sm r.2.2.1.length) {l:List Int} (hl:Sm l.length):dh_ r l=some (kq_ r.2.2.1.length l,()):=by
 unfold dh_
 refine bo_ l (λi x=>cond (badQ r.2.2.1.length l i x) (some (inr (false,()):Unit⊕(Bool×Unit))) none) (λi=>((i:Int),())) (r0:=inl ()) (λi y hy => ?_) ?_ ?_
 ·have hi:=am_ hy
  rw[show w64 ((r.2.2.1.length:Int) - 1)=(r.2.2.1.length:Int) - 1 from ez_ (by omega) (by omega)]
  simp only[dlt hi,a5_,ah_ hy,a0_,az_ (show Sm i by omega),fn_,badQ]
  cases wi y 0 ((r.2.2.1.length:Int) - 1) with
  | false=>rfl
  | true =>
   simp only[e9_,a2_,k1_]
   cases i with
   | zero=>rfl
   | succ j =>
    obtain⟨z,hz⟩:=bb_ (l:=l) (i:=j) (by omega)
    have e:w64 (((j+1:Nat):Int) - 1)=(j:Int):=by rw[ez_ (by omega) (by omega)];omega
    have hn:prv l (j+1)=z:=by show (l[j]?).getD 0=z;rw[hz];rfl
    rw[show decide (0<((j+1:Nat):Int))=true from b6_ (by omega),e,ah_ hz,hn,show decide (0<j+1)=true from b6_ (by omega)]
    simp only[a5_,a0_,c2_]
    cases decide (y≤z)<;>rfl
 ·simp only[dnl,a2_]
 ·rw[vt_,cv5]
  cases kq_ r.2.2.1.length l<;>rfl
end
end Go.Proofs.YtgeehfnbhbibeaaGreatDoor.Rx
namespace Go.Proofs.YtgeehfnbhbibeaaGreatDoor.Rx
open Go Pad Rex Go.Proofs Go.Proofs.Tryz Sum
section
set_option maxRecDepth 100000
set_option maxHeartbeats 0
noncomputable def fs_ (a0:ae_):Option (Int×Unit) :=
 (((cond (decide (8<(a0.1.length:Int)))
 (some (true,()))
 (cond (decide (12<(a0.2.1.length:Int)))
 (some (true,()))
 (cond (decide (10<(a0.2.2.1.length:Int)))
 (some (true,()))
 (cond (decide (16<(a0.2.2.2.1.length:Int)))
 (some (true,()))
 (cond (decide (24<(a0.2.2.2.2.1.length:Int)))
 (some (true,()))
 (some ((decide (12<(a0.2.2.2.2.2.1.length:Int))),())))))))).bind λv0 =>
 (cond v0.1
 (some (2,()))
 (cond ((a0.1.length:Int)==0)
 (some (22,()))
 ((af_ (ρ:=(Unit⊕(Int×Unit))) (λ(v1:(Int×Unit)) =>
 (cond (decide (v1.1<(a0.1.length:Int)))
 ((((at? a0.1 v1.1).bind λv2 =>
 ((du_ v2).bind λv3 =>
 (cond (!v3.1)
 (some (true,()))
 ((fq_ a0.1 v1.1).bind λv4 =>
 (some (v4.1,()))))))).bind λv5 =>
 (cond v5.1
 (some (inr (inr (22,()))))
 (some (inl ((w64 (v1.1+1)),())))))
 (some (inr (inl ()))))) (0,())).bind λv6 =>
 (cg_ v6 (λv7=>((af_ (ρ:=(Unit⊕(Int×Unit))) (λ(v9:((List (List UInt8))×(Int×Unit))) =>
 (cond (decide (v9.2.1<(a0.2.1.length:Int)))
 ((at? a0.2.1 v9.2.1).bind λv10 =>
 ((push? (α:=(List UInt8)) v9.1 [v10.1]).bind λv11 =>
 ((((du_ v10.1).bind λv12 =>
 (cond (!v12.1)
 (some (true,()))
 ((fq_ v11 v9.2.1).bind λv13 =>
 (cond v13.1
 (some (true,()))
 ((cr_ a0 v10.2.1).bind λv14 =>
 (cond (!v14.1)
 (some (true,()))
 ((bs_ v10.2.2.1 2 6).bind λv15 =>
 (cond (!v15.1)
 (some (true,()))
 ((bs_ v10.2.2.2 0 (w64 (v10.2.2.1 - 1))).bind λv16 =>
 (some ((!v16.1),())))))))))))).bind λv17 =>
 (cond v17.1
 (some (inr (inr (21,()))))
 (some (inl (v11,((w64 (v9.2.1+1)),()))))))))
 (some (inr (inl ()))))) ([],(0,()))).bind λv18 =>
 (cg_ v18 (λv19=>((af_ (ρ:=(Unit⊕(Int×Unit))) (λ(v21:((List (List UInt8))×(Int×Unit))) =>
 (cond (decide (v21.2.1<(a0.2.2.1.length:Int)))
 ((at? a0.2.2.1 v21.2.1).bind λv22 =>
 ((push? (α:=(List UInt8)) v21.1 [v22.1]).bind λv23 =>
 ((((du_ v22.1).bind λv24 =>
 (cond (!v24.1)
 (some (true,()))
 ((fq_ v23 v21.2.1).bind λv25 =>
 (cond v25.1
 (some (true,()))
 (cond (v22.2.1 != (-1))
 ((cr_ a0 v22.2.1).bind λv26 =>
 (some ((!v26.1),())))
 (some (false,())))))))).bind λv27 =>
 (cond v27.1
 (some (inr (inr (24,()))))
 ((cs_ a0 v22.2.2).bind λv28 =>
 (cond (!v28.1)
 (some (inr (inr (25,()))))
 (some (inl (v23,((w64 (v21.2.1+1)),()))))))))))
 (some (inr (inl ()))))) ([],(0,()))).bind λv29 =>
 (cg_ v29 (λv30=>((af_ (ρ:=(Unit⊕(Int×Unit))) (λ(v32:(Int×Unit)) =>
 (cond (decide (v32.1<(a0.2.2.2.1.length:Int)))
 ((at? a0.2.2.2.1 v32.1).bind λv33 =>
 ((((cr_ a0 v33.1).bind λv34 =>
 (cond (!v34.1)
 (some (true,()))
 ((cr_ a0 v33.2.1).bind λv35 =>
 (cond (!v35.1)
 (some (true,()))
 (some ((v33.1==v33.2.1),()))))))).bind λv36 =>
 (cond v36.1
 (some (inr (inr (23,()))))
 ((cs_ a0 v33.2.2).bind λv37 =>
 (cond (!v37.1)
 (some (inr (inr (25,()))))
 (some (inl ((w64 (v32.1+1)),()))))))))
 (some (inr (inl ()))))) (0,())).bind λv38 =>
 (cg_ v38 (λv39=>((af_ (ρ:=(Unit⊕(Int×Unit))) (λ(v41:(Int×Unit)) =>
 (cond (decide (v41.1<(a0.2.2.2.2.1.length:Int)))
 ((mw_ a0 v41.1).bind λv42 =>
 (cond (!v42.1)
 (some (inr (inr (26,()))))
 ((at? a0.2.2.2.2.1 v41.1).bind λv43 =>
 ((cs_ a0 v43.2.2.2.2.1).bind λv44 =>
 (cond (!v44.1)
 (some (inr (inr (25,()))))
 (some (inl ((w64 (v41.1+1)),()))))))))
 (some (inr (inl ()))))) (0,())).bind λv45 =>
 (cg_ v45 (λv46=>((af_ (ρ:=(Unit⊕(Int×Unit))) (λ(v48:(Int×Unit)) =>
 (cond (decide (v48.1<(a0.2.2.2.2.2.1.length:Int)))
 ((at? a0.2.2.2.2.2.1 v48.1).bind λv49 =>
 ((at? a0.2.2.2.2.2.1 v48.1).bind λv50 =>
 ((gs_ a0 v49.2.1 v50.2.2).bind λv51 =>
 (cond (!v51.1)
 (some (inr (inr (27,()))))
 ((at? a0.2.2.2.2.2.1 v48.1).bind λv52 =>
 ((cs_ a0 v52.1).bind λv53 =>
 (cond (!v53.1)
 (some (inr (inr (25,()))))
 (some (inl ((w64 (v48.1+1)),()))))))))))
 (some (inr (inl ()))))) (0,())).bind λv54 =>
 (cg_ v54 (λv55=>((bs_ a0.2.2.2.2.2.2.1 1 4).bind λv57 =>
 (cond (!v57.1)
 (some (1,()))
 ((cs_ a0 a0.2.2.2.2.2.2.2).bind λv58 =>
 (cond (!v58.1)
 (some (25,()))
 (some (0,())))))))
 (λv56=>(some v56)))))
 (λv47=>(some v47)))))
 (λv40=>(some v40)))))
 (λv31=>(some v31)))))
 (λv20=>(some v20)))))
 (λv8=>(some v8)))))))
theorem x_52:aw_ (P:=prog) (cxC [c_56,c_81,c_82,c_83,c_84,c_85,c_86] []) (.p .z (.p (.j0 [.v 46 .bool] .z .z) (.p .z (.p (.p .z (.ls [.v 3 .int] [] [] 0 (.p .z (.p (.j0 [.v 70 .bool] .z .z) .z)))) (.p .z (.p (.p .z (.ls [.r 4 .str 9,.v 5 .int] [] [] 2 (.p .z (.p (.p .z (.p .z (.j0 [.v 118 .bool] .z .z))) .z)))) (.p .z (.p (.p .z (.ls [.r 4 .str 9,.v 7 .int] [] [] 4 (.p .z (.p (.p .z (.p .z (.p (.j0 [.v 156 .bool] .z .z) .z))) .z)))) (.p (.p .z (.ls [.v 9 .int] [] [] 6 (.p .z (.p (.p .z (.p (.j0 [.v 192 .bool] .z .z) .z)) .z)))) (.p (.p .z (.ls [.v 11 .int] [] [] 8 (.p .z (.p (.p .z (.p (.q [] .z .z) .z)) .z)))) (.p (.p .z (.ls [.v 12 .int] [] [] 10 (.p .z (.p (.p (.p (.q [] .z .z) .z) (.p (.q [] .z .z) .z)) .z)))) .z))))))))))) 52 [an_] [.int]=λx=>fs_ x.1:=by kernel_rfl
noncomputable def c_52:Con prog:=ax_ _ _ 52 [an_] [.int] _ x_52
noncomputable def jh_ (a0:ad_) (a1:Int):Option (Bool×Unit) :=
 ((at? a0.2.2.2.1 a1).bind λv0 =>
 ((af_ (ρ:=(Unit⊕(Bool×Unit))) (λ(v1:(Int×Unit)) =>
 (cond (decide (v1.1<a1))
 ((at? a0.2.2.2.1 v1.1).bind λv2 =>
 (cond (v2.1==v0.1)
 (some (inr (inr (false,()))))
 (some (inl ((w64 (v1.1+1)),())))))
 (some (inr (inl ()))))) (0,())).bind λv3 =>
 (cg_ v3 (λv4=>((((du_ v0.1).bind λv6 =>
 (cond (!v6.1)
 (some (true,()))
 ((iq_ v0.2.1 0 (w64 ((a0.1.1.length:Int) - 1))).bind λv7 =>
 (cond (!v7.1)
 (some (true,()))
 ((iq_ v0.2.2.1 (-1) (w64 ((a0.2.1.length:Int) - 1))).bind λv8 =>
 (some ((!v8.1),())))))))).bind λv9 =>
 (cond v9.1
 (some (false,()))
 (cond (v0.2.2.1==(-1))
 ((la_ v0.2.2.2.2).bind λv10 =>
 (some (v10.1,())))
 ((at? a0.2.1 v0.2.2.1).bind λv11 =>
 ((fu_ v11 v0.2.2.2.2).bind λv12 =>
 (cond (v12.1==0)
 ((at? a0.2.2.1 v0.2.2.1).bind λv13 =>
 ((fk_ v0.2.2.2.2 v13).bind λv14 =>
 (some (v14.1,()))))
 (some (false,())))))))))
 (λv5=>(some v5)))))
theorem x_55:aw_ (P:=prog) (cxC [c_57,c_81,c_89,c_90,c_91] []) (.p .z (.p .z (.p (.p .z (.ls [.v 6 .int] [] [] 0 .z)) (.p (.j0 [.v 50 .bool] .z .z) .z)))) 55 [ao_,.int] [.bool]=λx=>jh_ x.1 x.2.1:=by kernel_rfl
noncomputable def c_55:Con prog:=ax_ _ _ 55 [ao_,.int] [.bool] _ x_55
noncomputable def mx_ (a0:ab_) (a1:(List ak_)):Option ((List (List Int))×Unit) :=
 ((af_ (ρ:=(Int×Unit)) (λ(v0:(Int×(Int×Unit))) =>
 (cond (decide (v0.2.1<a0.1))
 (some (inl ((w64 (v0.1 * a0.2)),((w64 (v0.2.1+1)),()))))
 (some (inr (v0.1,()))))) (1,(0,()))).bind λv1 =>
 ((af_ (ρ:=((List (List Int))×Unit)) (λ(v2:((List (List Int))×(Int×Unit))) =>
 (cond (decide (v2.2.1<v1.1))
 ((((mk? (α:=Int) a0.1 0).bind λv3 =>
 ((af_ (ρ:=((List Int)×Unit)) (λ(v4:(Int×(Int×((List Int)×Unit)))) =>
 (cond (decide (0≤v4.2.1))
 ((md v4.1 a0.2).bind λv5 =>
 ((at? v4.2.2.1 v4.2.1).bind λv6 =>
 ((at? v4.2.2.1 v4.2.1).bind λv7 =>
 ((dv v4.1 a0.2).bind λv8 =>
 (some (inl (v8,((w64 (v4.2.1 - 1)),((v4.2.2.1.set v4.2.1.toNat v5),())))))))))
 (some (inr (v4.2.2.1,()))))) (v2.2.1,((w64 (a0.1 - 1)),(v3,())))).bind λv9 =>
 ((jn_ a1 v9.1).bind λv10 =>
 (cond (decide (v10.1<0))
 ((push? (α:=(List Int)) v2.1 [v9.1]).bind λv11 =>
 (some (v11,())))
 (some (v2.1,()))))))).bind λv12 =>
 (some (inl (v12.1,((w64 (v2.2.1+1)),())))))
 (some (inr (v2.1,()))))) ([],(0,()))).bind λv13 =>
 (some (v13.1,()))))
theorem x_234:aw_ (P:=prog) (cxC [c_254] []) (.p .z (.p .z (.p (.p .z (.lp [.v 5 .int,.v 6 .int] [.v 5 .int] [] 0 .z)) (.p .z (.p (.p .z (.lp [.r 7 (.list .int) 55,.v 8 .int] [.r 7 (.list .int) 55] [] 2 (.p .z (.j0 [.r 7 (.list .int) 55] (.p .z (.p .z (.p (.p .z (.lp [.v 10 .int,.v 11 .int] [] [.o (.s 9) .int] 4 .z)) .z))) .z)))) .z))))) 234 [al_,(.list ap_)] [(.list (.list .int))]=λx=>mx_ x.1 x.2.1:=by kernel_rfl
noncomputable def c_234:Con prog:=ax_ _ _ 234 [al_,(.list ap_)] [(.list (.list .int))] _ x_234
noncomputable def fj_ (a0:ae_):Option (Int×Unit) :=
 (((cond (decide (8<(a0.1.length:Int)))
 (some (true,()))
 (cond (decide (12<(a0.2.1.length:Int)))
 (some (true,()))
 (cond (decide (10<(a0.2.2.1.length:Int)))
 (some (true,()))
 (cond (decide (16<(a0.2.2.2.1.length:Int)))
 (some (true,()))
 (cond (decide (24<(a0.2.2.2.2.1.length:Int)))
 (some (true,()))
 (some ((decide (12<(a0.2.2.2.2.2.1.length:Int))),())))))))).bind λv0 =>
 (cond v0.1
 (some (2,()))
 ((af_ (ρ:=(Unit⊕(Int×Unit))) (λ(v1:(Int×Unit)) =>
 (cond (decide (v1.1<(a0.1.length:Int)))
 ((at? a0.1 v1.1).bind λv2 =>
 ((sub? a0.1 0 v1.1).bind λv3 =>
 ((((fe_ v2).bind λv4 =>
 (cond v4.1
 (cond (decide ((v2.length:Int)≤12))
 ((((af_ (ρ:=(Unit⊕(Int×Unit))) (λ(v5:(Int×Unit)) =>
 (cond (decide (v5.1<(v3.length:Int)))
 ((at? v3 v5.1).bind λv6 =>
 (cond (v6==v2)
 (some (inr (inr (v5.1,()))))
 (some (inl ((w64 (v5.1+1)),())))))
 (some (inr (inl ()))))) (0,())).bind λv7 =>
 (cg_ v7 (λv8=>(some ((-1),())))
 (λv9=>(some v9))))).bind λv10 =>
 (some ((decide (v10.1<0)),())))
 (some (false,())))
 (some (false,()))))).bind λv11 =>
 (cond (!v11.1)
 (some (inr (inr (22,()))))
 (some (inl ((w64 (v1.1+1)),())))))))
 (some (inr (inl ()))))) (0,())).bind λv12 =>
 (cg_ v12 (λv13=>(cond ((a0.1.length:Int)==0)
 (some (22,()))
 ((af_ (ρ:=(Unit⊕(Int×Unit))) (λ(v15:(Int×Unit)) =>
 (cond (decide (v15.1<(a0.2.1.length:Int)))
 ((at? a0.2.1 v15.1).bind λv16 =>
 ((((sub? a0.2.1 0 v15.1).bind λv17 =>
 ((((fe_ v16.1).bind λv18 =>
 (cond v18.1
 (cond (decide ((v16.1.length:Int)≤12))
 ((((af_ (ρ:=(Unit⊕(Int×Unit))) (λ(v19:(Int×Unit)) =>
 (cond (decide (v19.1<(v17.length:Int)))
 ((at? v17 v19.1).bind λv20 =>
 (cond (v20.1==v16.1)
 (some (inr (inr (v19.1,()))))
 (some (inl ((w64 (v19.1+1)),())))))
 (some (inr (inl ()))))) (0,())).bind λv21 =>
 (cg_ v21 (λv22=>(some ((-1),())))
 (λv23=>(some v23))))).bind λv24 =>
 (some ((decide (v24.1<0)),())))
 (some (false,())))
 (some (false,()))))).bind λv25 =>
 (cond (!v25.1)
 (some (true,()))
 ((be_ v16.2.1 0 (w64 ((a0.1.length:Int) - 1))).bind λv26 =>
 (cond (!v26.1)
 (some (true,()))
 ((be_ v16.2.2.1 2 6).bind λv27 =>
 (cond (!v27.1)
 (some (true,()))
 ((be_ v16.2.2.2 0 (w64 (v16.2.2.1 - 1))).bind λv28 =>
 (some ((!v28.1),()))))))))))).bind λv29 =>
 (cond v29.1
 (some (inr (inr (21,()))))
 (some (inl ((w64 (v15.1+1)),()))))))
 (some (inr (inl ()))))) (0,())).bind λv30 =>
 (cg_ v30 (λv31=>((af_ (ρ:=(Unit⊕(Int×Unit))) (λ(v33:(Int×Unit)) =>
 (cond (decide (v33.1<(a0.2.2.1.length:Int)))
 ((at? a0.2.2.1 v33.1).bind λv34 =>
 ((((sub? a0.2.2.1 0 v33.1).bind λv35 =>
 ((((fe_ v34.1).bind λv36 =>
 (cond v36.1
 (cond (decide ((v34.1.length:Int)≤12))
 ((((af_ (ρ:=(Unit⊕(Int×Unit))) (λ(v37:(Int×Unit)) =>
 (cond (decide (v37.1<(v35.length:Int)))
 ((at? v35 v37.1).bind λv38 =>
 (cond (v38.1==v34.1)
 (some (inr (inr (v37.1,()))))
 (some (inl ((w64 (v37.1+1)),())))))
 (some (inr (inl ()))))) (0,())).bind λv39 =>
 (cg_ v39 (λv40=>(some ((-1),())))
 (λv41=>(some v41))))).bind λv42 =>
 (some ((decide (v42.1<0)),())))
 (some (false,())))
 (some (false,()))))).bind λv43 =>
 (cond (!v43.1)
 (some (true,()))
 ((be_ v34.2.1 0 (w64 ((a0.1.length:Int) - 1))).bind λv44 =>
 (cond (!v44.1)
 (some ((v34.2.1 != (-1)),()))
 (some (false,())))))))).bind λv45 =>
 (cond v45.1
 (some (inr (inr (24,()))))
 ((dt_ a0 v34.2.2).bind λv46 =>
 (cond (!v46.1)
 (some (inr (inr (25,()))))
 (some (inl ((w64 (v33.1+1)),()))))))))
 (some (inr (inl ()))))) (0,())).bind λv47 =>
 (cg_ v47 (λv48=>((af_ (ρ:=(Unit⊕(Int×Unit))) (λ(v50:(Int×Unit)) =>
 (cond (decide (v50.1<(a0.2.2.2.1.length:Int)))
 ((at? a0.2.2.2.1 v50.1).bind λv51 =>
 ((((be_ v51.1 0 (w64 ((a0.1.length:Int) - 1))).bind λv52 =>
 (cond (!v52.1)
 (some (true,()))
 ((be_ v51.2.1 0 (w64 ((a0.1.length:Int) - 1))).bind λv53 =>
 (cond (!v53.1)
 (some (true,()))
 (some ((v51.1==v51.2.1),()))))))).bind λv54 =>
 (cond v54.1
 (some (inr (inr (23,()))))
 ((dt_ a0 v51.2.2).bind λv55 =>
 (cond (!v55.1)
 (some (inr (inr (25,()))))
 (some (inl ((w64 (v50.1+1)),()))))))))
 (some (inr (inl ()))))) (0,())).bind λv56 =>
 (cg_ v56 (λv57=>((af_ (ρ:=(Unit⊕(Int×Unit))) (λ(v59:(Int×Unit)) =>
 (cond (decide (v59.1<(a0.2.2.2.2.1.length:Int)))
 ((at? a0.2.2.2.2.1 v59.1).bind λv60 =>
 ((pv_ a0 v59.1 v60).bind λv61 =>
 (cond (!v61.1)
 (some (inr (inr (26,()))))
 ((dt_ a0 v60.2.2.2.2.1).bind λv62 =>
 (cond (!v62.1)
 (some (inr (inr (25,()))))
 (some (inl ((w64 (v59.1+1)),()))))))))
 (some (inr (inl ()))))) (0,())).bind λv63 =>
 (cg_ v63 (λv64=>((af_ (ρ:=(Unit⊕(Int×Unit))) (λ(v66:(Int×Unit)) =>
 (cond (decide (v66.1<(a0.2.2.2.2.2.1.length:Int)))
 ((at? a0.2.2.2.2.2.1 v66.1).bind λv67 =>
 ((ff_ a0 v67.2.1 v67.2.2).bind λv68 =>
 (cond (!v68.1)
 (some (inr (inr (27,()))))
 ((dt_ a0 v67.1).bind λv69 =>
 (cond (!v69.1)
 (some (inr (inr (25,()))))
 (some (inl ((w64 (v66.1+1)),()))))))))
 (some (inr (inl ()))))) (0,())).bind λv70 =>
 (cg_ v70 (λv71=>((be_ a0.2.2.2.2.2.2.1 1 4).bind λv73 =>
 (cond (!v73.1)
 (some (1,()))
 ((dt_ a0 a0.2.2.2.2.2.2.2).bind λv74 =>
 (cond (!v74.1)
 (some (25,()))
 (some (0,())))))))
 (λv72=>(some v72)))))
 (λv65=>(some v65)))))
 (λv58=>(some v58)))))
 (λv49=>(some v49)))))
 (λv32=>(some v32))))))
 (λv14=>(some v14))))))
theorem x_131:aw_ (P:=prog) (cxI (λk=>cond (Nat.beq k 169) (.p .z (.j0 [.v 6 .bool] .z .z)) (cond (Nat.beq k 171) (.p .z (.j0 [.v 6 .bool] .z .z)) (cond (Nat.beq k 173) (.p .z (.j0 [.v 6 .bool] .z .z)) (cond (Nat.beq k 207) (.p .z (.j0 [.v 6 .int] .z .z)) (cond (Nat.beq k 208) (.p .z (.j0 [.v 6 .int] .z .z)) (cond (Nat.beq k 209) (.p .z (.j0 [.v 6 .int] .z .z)) (cond (Nat.beq k 236) (.p .z (.p (.p .z (.ls [.v 8 .int] [] [] 0 .z)) .z)) (cond (Nat.beq k 237) (.p .z (.p (.q [] .z .z) .z)) (cond (Nat.beq k 238) (.p .z (.p (.p .z (.ls [.v 8 .int] [] [] 0 .z)) .z)) (cond (Nat.beq k 239) (.p .z (.p (.q [] .z .z) .z)) (cond (Nat.beq k 240) (.p .z (.p (.p .z (.ls [.v 8 .int] [] [] 0 .z)) .z)) (cond (Nat.beq k 241) (.p .z (.p (.q [] .z .z) .z)) (.z))))))))))))) (λk=>Nat.beq k 164||Nat.beq k 165||Nat.beq k 170||Nat.beq k 172||Nat.beq k 174||Nat.beq k 175||Nat.beq k 176||Nat.beq k 206||false) (cxC [co5,ca9,c_170,c_172,c_174,c_175,c_176,c_206] []) 12) (.p .z (.p (.j0 [.v 49 .bool] .z .z) (.p .z (.p (.p .z (.ls [.v 54 .int] [] [] 0 .z)) (.p .z (.p (.p .z (.ls [.v 74 .int] [] [] 2 (.p .z (.p .z (.p (.p .z (.j0 [.v 108 .bool] .z .z)) .z))))) (.p (.p .z (.ls [.v 113 .int] [] [] 4 (.p .z (.p .z (.p (.p .z (.p (.j0 [.v 137 .bool] .z .z) .z)) .z))))) (.p (.p .z (.ls [.v 147 .int] [] [] 6 (.p .z (.p .z (.p (.p .z (.p (.j0 [.v 169 .bool] .z .z) .z)) .z))))) (.p (.p .z (.ls [.v 179 .int] [] [] 8 .z)) (.p (.p .z (.ls [.v 198 .int] [] [] 10 .z)) .z)))))))))) 131 [an_] [.int]=λx=>fj_ x.1:=by kernel_rfl
noncomputable def c_131:Con prog:=ax_ _ _ 131 [an_] [.int] _ x_131
noncomputable def ea_ (a0:ab_) (a1:(List Int)):Option (Int×Unit) :=
 ((ho_ a0 [a1]).bind λv0 =>
 (some (v0.1,())))
theorem x_133:aw_ (P:=prog) (cxC [c_178] []) .z 133 [al_,(.list .int)] [.int]=λx=>ea_ x.1 x.2.1:=by kernel_rfl
noncomputable def c_133:Con prog:=ax_ _ _ 133 [al_,(.list .int)] [.int] _ x_133
noncomputable def fy_ (a0:ab_) (a1:ak_):Option (Int×Unit) :=
 ((eh_ a0).bind λv0 =>
 (cond (v0.1 != 0)
 (some (v0.1,()))
 ((dj_ a0 a1).bind λv1 =>
 (cond (!v1.1)
 (some (11,()))
 (some (0,()))))))
theorem x_222:aw_ (P:=prog) (cxC [co7,c_247] []) .z 222 [al_,ap_] [.int]=λx=>fy_ x.1 x.2.1:=by kernel_rfl
noncomputable def c_222:Con prog:=ax_ _ _ 222 [al_,ap_] [.int] _ x_222
noncomputable def ev_ (a0:ab_) (a1:(List ak_)):Option (Int×Unit) :=
 ((eh_ a0).bind λv0 =>
 (cond (v0.1 != 0)
 (some (v0.1,()))
 (cond (decide (20<(a1.length:Int)))
 (some (2,()))
 ((((af_ (ρ:=(Unit⊕(Bool×Unit))) (λ(v1:(Int×Unit)) =>
 (cond (decide (v1.1<(a1.length:Int)))
 ((at? a1 v1.1).bind λv2 =>
 ((dj_ a0 v2).bind λv3 =>
 (cond (!v3.1)
 (some (inr (inr ((decide (0≤v1.1)),()))))
 (some (inl ((w64 (v1.1+1)),()))))))
 (some (inr (inl ()))))) (0,())).bind λv4 =>
 (cg_ v4 (λv5=>(some ((decide (0≤(-1))),())))
 (λv6=>(some v6))))).bind λv7 =>
 (cond v7.1
 (some (11,()))
 (some (0,())))))))
theorem x_251:aw_ (P:=prog) (cxI (λk=>cond (Nat.beq k 264) (.p .z (.j0 [.v 4 .bool] .z .z)) (cond (Nat.beq k 272) (.p .z (.p (.p .z (.ls [.v 8 .int] [] [] 0 .z)) .z)) (.z))) (λk=>Nat.beq k 132||Nat.beq k 247||false) (cxC [co7,c_247] []) 4) .z 251 [al_,(.list ap_)] [.int]=λx=>ev_ x.1 x.2.1:=by kernel_rfl
noncomputable def c_251:Con prog:=ax_ _ _ 251 [al_,(.list ap_)] [.int] _ x_251
noncomputable def eu_ (a0:ab_) (a1:(List ak_)):Option (Int×Unit) :=
 ((mk? (α:=Int) a0.1 0).bind λv0 =>
 ((af_ (ρ:=((Unit×(Unit×((List Int)×((Int×Unit)×Unit))))⊕(Int×Unit))) (λ(v1:(Unit×(Unit×((List Int)×((Int×Unit)×Unit))))) =>
 ((fx_ a1 v1.2.2.1).bind λv2 =>
 (cond (decide (v2.1<0))
 ((af_ (ρ:=(Int×((List Int)×Unit))) (λ(v3:(Int×((List Int)×Unit))) =>
 (((cond (decide (0≤v3.1))
 ((at? v3.2.1 v3.1).bind λv4 =>
 ((at? v3.2.1 v3.1).bind λv5 =>
 (some ((v5==(w64 (a0.2 - 1))),()))))
 (some (false,())))).bind λv6 =>
 (cond v6.1
 ((at? v3.2.1 v3.1).bind λv7 =>
 ((at? v3.2.1 v3.1).bind λv8 =>
 (some (inl ((w64 (v3.1 - 1)),((v3.2.1.set v3.1.toNat 0),()))))))
 (some (inr (v3.1,(v3.2.1,()))))))) ((w64 (a0.1 - 1)),(v1.2.2.1,()))).bind λv9 =>
 (cond (decide (v9.1<0))
 (some (inr (inr ((w64 (v1.2.2.2.1.1+1)),()))))
 ((at? v9.2.1 v9.1).bind λv10 =>
 ((at? v9.2.1 v9.1).bind λv11 =>
 ((at? v9.2.1 v9.1).bind λv12 =>
 ((at? v9.2.1 v9.1).bind λv13 =>
 (some (inl ((),((),((v9.2.1.set v9.1.toNat (w64 (v11+1))),(((w64 (v1.2.2.2.1.1+1)),()),()))))))))))))
 ((af_ (ρ:=(Int×((List Int)×Unit))) (λ(v14:(Int×((List Int)×Unit))) =>
 (((cond (decide (0≤v14.1))
 ((at? v14.2.1 v14.1).bind λv15 =>
 ((at? v14.2.1 v14.1).bind λv16 =>
 (some ((v16==(w64 (a0.2 - 1))),()))))
 (some (false,())))).bind λv17 =>
 (cond v17.1
 ((at? v14.2.1 v14.1).bind λv18 =>
 ((at? v14.2.1 v14.1).bind λv19 =>
 (some (inl ((w64 (v14.1 - 1)),((v14.2.1.set v14.1.toNat 0),()))))))
 (some (inr (v14.1,(v14.2.1,()))))))) ((w64 (a0.1 - 1)),(v1.2.2.1,()))).bind λv20 =>
 (cond (decide (v20.1<0))
 (some (inr (inr (v1.2.2.2.1.1,()))))
 ((at? v20.2.1 v20.1).bind λv21 =>
 ((at? v20.2.1 v20.1).bind λv22 =>
 ((at? v20.2.1 v20.1).bind λv23 =>
 ((at? v20.2.1 v20.1).bind λv24 =>
 (some (inl ((),((),((v20.2.1.set v20.1.toNat (w64 (v22+1))),((v1.2.2.2.1.1,()),()))))))))))))))) ((),((),(v0,((0,()),()))))).bind λv25 =>
 (cg_ v25 (λv26=>(some (v26.2.2.2.1.1,())))
 (λv27=>(some v27)))))
theorem x_252:aw_ (P:=prog) (cxI (λk=>cond (Nat.beq k 273) (.p .z (.p .z (.rf [2,3] .z .z))) (cond (Nat.beq k 278) (.p .z (.ls [] [] [.y (.c (.y (.s 0) 3) 0),.y (.s 0),.o (.s 3) .int,.b (.y (.c (.y (.s 0) 3) 0) 4) [.val .int]] 0 (.p .z (.p .z (.p (.lp [.v 4 .int] [.v 4 .int] [.o (.s 3) .int] 2 (.p (.j0 [.v 26 .bool] .z .z) .z)) .z))))) (.z))) (λk=>Nat.beq k 275||false) (cxC [c_275] []) 9) (.p .z (.p (.p .z (.rf [4] .z .z)) .z)) 252 [al_,(.list ap_)] [.int]=λx=>eu_ x.1 x.2.1:=by kernel_rfl
noncomputable def c_252:Con prog:=ax_ _ _ 252 [al_,(.list ap_)] [.int] _ x_252
end
end Go.Proofs.YtgeehfnbhbibeaaGreatDoor.Rx
namespace Go.Proofs.YtgeehfnbhbibeaaGreatDoor.Rx
open Go Pad Rex Sum
section
theorem pd_ {α:Type} {l:List α} {i:Nat} (h:i≤l.length):sub? l 0 (i:Int)=some (l.take i):=by
 unfold sub?
 rw[if_pos ⟨m9_ 0,by omega,by omega⟩]
 simp
def twN {α:Type} (nm:α→List UInt8) (l:List α) (i:Nat) (t:List UInt8):Bool:=(l.take i).any λy=>nm y==t
theorem qn_ {l:List (List UInt8)} {i:Nat} {x:List UInt8} (hl:Sm l.length) (hx:l[i]?=some x):fq_ l (i:Int)=some (twN id l i x,()):=by
 have hi:=am_ hx
 have hle:(l.take i).length=i:=by rw[c9_];omega
 unfold fq_
 refine bo_ (l.take i) (λ_ y=>cond (id y==x) (some (inr (true,()):Unit⊕(Bool×Unit))) none) (λi=>((i:Int),())) (r0:=inl ()) (λk y hy => ?_) ?_ ?_
 ·have hk:=am_ hy
  have hy':l[k]?=some y:=by
   rw[j6_] at hy
   split at hy
   ·exact hy
   ·cases hy
  simp only[dlt (show k<i by omega),a5_,ah_ hy',ah_ hx,a0_,az_ (show Sm k by omega),id]
  cases y==x<;>rfl
 ·rw[hle]
  simp only[dnl,a2_]
 ·rw[hh_ (q:=λy=>id y==x)]
  unfold twN
  cases (l.take i).any λy=>id y==x<;>rfl
theorem hx_ {r:ae_} (p:Int):cr_ r p=some (wi p 0 (w64 ((r.1.length:Int) - 1)),()):=by
 unfold cr_
 rw[fn_,a0_]
structure SmR (r:ae_):Prop where
 pl:Sm r.1.length
 th:Sm r.2.1.length
 pr:Sm r.2.2.1.length
 wy:Sm r.2.2.2.1.length
 ac:Sm r.2.2.2.2.1.length
 au:Sm r.2.2.2.2.2.1.length
 go:Sm r.2.2.2.2.2.2.2.length
 pln:∀ x ∈ r.1,Sm x.length
 thn:∀ x ∈ r.2.1,Sm x.1.length
 prn:∀ x ∈ r.2.2.1,Sm x.1.length∧Sm x.2.2.length
 wyn:∀ x ∈ r.2.2.2.1,Sm x.2.2.length
 acn:∀ x ∈ r.2.2.2.2.1,Sm x.1.length∧Sm x.2.2.2.1.length∧Sm x.2.2.2.2.1.length∧Sm x.2.2.2.2.2.1.length∧Sm x.2.2.2.2.2.2.1.length∧Sm x.2.2.2.2.2.2.2.length
 aun:∀ x ∈ r.2.2.2.2.2.1,Sm x.1.length
theorem au_ {α:Type} {l:List α} {i:Nat} {x:α} (h:l[i]?=some x):x ∈ l:=b1_ h
def ry_ (r:ae_) (p:Int):Bool:=wi p 0 (w64 ((r.1.length:Int) - 1))
def frN {α:Type} (nm:α→List UInt8) (l:List α) (i:Nat) (t:List UInt8):Bool:=okN t&&!(twN nm l i t)
def plOk (r:ae_) (i:Nat) (x:List UInt8):Bool:=frN id r.1 i x
def bl9 (r:ae_) (i:Nat) (x:gw_):Bool:=frN (·.1) r.2.1 i x.1&&(ry_ r x.2.1&&(wi x.2.2.1 2 6&&wi x.2.2.2 0 (w64 (x.2.2.1 - 1))))
def ci5 (r:ae_) (i:Nat) (x:jv_):Bool:=frN (·.1) r.2.2.1 i x.1&&(ry_ r x.2.1||x.2.1==(-1))
def ce0 (r:ae_) (x:ot_):Bool:=ry_ r x.1&&(ry_ r x.2.1&&!(x.1==x.2.1))
def sp_ (a:Bool) (e:Int) (b:Bool) (f:Int):Option Int:=cond a (cond b none (some f)) (some e)
def km_ (a:Bool) (e:Int):Option Int:=cond a none (some e)
def left (o:Option Int):Unit⊕(Int×Unit):=match o with
 | none=>.inl ()
 | some e=>.inr (e,())
theorem ba7 (o:Option Int):(o.map λe=>(inr (e,()):Unit⊕(Int×Unit))).getD (inl ())=left o:=by cases o<;>rfl
theorem bu_ {α:Type} (l:List α) (p:Nat→α→Option Int) {body:(Int×Unit)→Option ((Int×Unit)⊕(Unit⊕(Int×Unit)))} {τ:Type} {K:(Unit⊕(Int×Unit))→Option τ} {x:Option τ}
  (h:∀ (i:Nat) y,l[i]?=some y→body ((i:Int),())=some (match p i y with | none=>.inl (((i+1:Nat):Int),()) | some e=>.inr (.inr (e,())))) (e:body ((l.length:Int),())=some (.inr (.inl ()))) (hk:K (left (gb_ p 0 l))=x) :
  (af_ body (0,())).bind K=x:=by
 refine bo_ l (λi y=>(p i y).map λe=>(inr (e,()):Unit⊕(Int×Unit))) (λi=>((i:Int),())) (r0:=inl ()) (λi y hy => ?_) e ?_
 ·rw[h i y hy]
  cases p i y<;>rfl
 ·rw[aa9,ba7]
  exact hk
theorem zx_ {α β:Type} (l:List α) (p:Nat→α→Option Int) (F:Nat→β) {body:(β×(Int×Unit))→Option ((β×(Int×Unit))⊕(Unit⊕(Int×Unit)))} {τ:Type} {K:(Unit⊕(Int×Unit))→Option τ} {x:Option τ} {b0:β} (h0:F 0=b0)
  (h:∀ (i:Nat) y,l[i]?=some y→body (F i,((i:Int),()))=some (match p i y with | none=>.inl (F (i+1),(((i+1:Nat):Int),())) | some e=>.inr (.inr (e,())))) (e:body (F l.length,((l.length:Int),()))=some (.inr (.inl ()))) (hk:K (left (gb_ p 0 l))=x) :
  (af_ body (b0,(0,()))).bind K=x:=by
 subst h0
 refine bo_ l (λi y=>(p i y).map λe=>(inr (e,()):Unit⊕(Int×Unit))) (λi=>(F i,((i:Int),()))) (r0:=inl ()) (λi y hy => ?_) e ?_
 ·rw[h i y hy]
  cases p i y<;>rfl
 ·rw[aa9,ba7]
  exact hk
theorem en_ {o:Option Int} {K:Unit→Option (Int×Unit)} {k:Int} (h:K ()=some (k,())):cg_ (left o) K (λy=>some y)=some (o.getD k,()):=by
 cases o with
 | none=>exact h
 | some e=>rfl
end
section
def rk_ (r:ae_) (l:List ab_) (i:Nat) (x:ab_):Bool:=nk_ r.2.1 x.1 x.2&&!((l.take i).any λy=>y.1==x.1)
def up_ (r:ae_) (i:Nat) (a:cu_):Bool :=
 frN (·.1) r.2.2.2.2.1 i a.1&&(ry_ r a.2.1&&(wi a.2.2.1 (-1) 7&&(kq_ r.2.2.1.length a.2.2.2.1&&(kq_ r.2.2.1.length a.2.2.2.2.2.2.1&&(kq_ r.2.2.1.length a.2.2.2.2.2.2.2&&(!(decide (6<(a.2.2.2.2.2.1.length:Int)))
  && ((a.2.2.2.2.2.2.1.all λp=>a.2.2.2.1.contains p)&&(!(a.2.2.2.2.2.2.2.any λp=>a.2.2.2.1.contains p)
   && (gb_ (λi x=>cond (rk_ r a.2.2.2.2.2.1 i x) none (some ())) 0 a.2.2.2.2.2.1).isNone))))))))
theorem sr_ {α ρ:Type} {q:Nat→α→Bool} {r:ρ}:∀ (l:List α) (i:Nat),gb_ (λi x=>cond (q i x) none (some r)) i l=cond (gb_ (λi x=>cond (q i x) none (some ())) i l).isNone none (some r)
 | [],_=>rfl
 | x::l,i=>by
  unfold gb_
  cases q i x with
  | false=>rfl
  | true=>exact sr_ l (i+1)
theorem uy_ {α:Type} {l:List α} (hl:Sm l.length) (nm:α→List UInt8) {t:List UInt8} (ht:Sm t.length) :
  ((fe_ t).bind λv1=>cond v1.1 (cond (decide ((t.length:Int)≤12)) ((((af_ (ρ:=Unit⊕(Int×Unit)) (λ(v:Int×Unit)=>cond (decide (v.1<(l.length:Int))) ((at? l v.1).bind λy=>cond (nm y==t) (some (inr (inr (v.1,())))) (some (inl (w64 (v.1+1),())))) (some (inr (inl ())))) (0,())).bind λv=>cg_ v (λ_=>some ((-1:Int),())) (λw=>some w))).bind λv=>some (decide (v.1<0),())) (some (false,()))) (some (false,())))
   = some (okN t&&!(l.any λy=>nm y==t),()):=by
 rw[bo3 ht,a0_]
 obtain⟨n,h1,h2,_⟩:=if_lt hl (λy=>nm y==t) (body:=λ(v:Int×Unit)=>cond (decide (v.1<(l.length:Int))) ((at? l v.1).bind λy=>cond (nm y==t) (some (inr (inr (v.1,())))) (some (inl (w64 (v.1+1),())))) (some (inr (inl ())))) (λi y hy=>by
  simp only[dlt (am_ hy),a5_,ah_ hy,a0_]
  cases nm y==t<;>rfl) (by simp only[dnl,a2_])
 rw[h1,a0_,h2]
 unfold okN
 cases okW t with
 | false=>rw[f9_,e8_];rfl
 | true=>cases decide ((t.length:Int)≤12)<;>rfl
theorem vp_ {α:Type} {l:List α} (h:Sm l.length) (i:Nat):Sm (l.take i).length:=by
 rw[c9_]
 exact c6_ (m5_ _ _) h
theorem ch6 {r:ae_} (h:SmR r) {i:Nat} {a:cu_} (ha:r.2.2.2.2.1[i]?=some a):pv_ r (i:Int) a=some (up_ r i a,()):=by
 have hi:=am_ ha
 obtain⟨s1,s2,s3,s4,s5,s6⟩:=h.acn a (au_ ha)
 unfold pv_
 refine e5_ (congrArg (λo=>Option.bind o _) (?_:_=some (!(frN (·.1) r.2.2.2.2.1 i a.1&&(ry_ r a.2.1&&wi a.2.2.1 (-1) 7)),()))) ?_
 ·rw[pd_ (g3_ hi),a0_]
  refine e5_ (congrArg (λo=>Option.bind o _) (uy_ (vp_ h.ac i) (·.1) s1)) ?_
  unfold frN twN ry_
  rw[a0_]
  cases okN a.1&&!((r.2.2.2.2.1.take i).any λy=>y.1==a.1) with
  | false=>rfl
  | true =>
   simp only[dw_,a0_]
   cases wi a.2.1 0 (w64 ((r.1.length:Int) - 1)) with
   | false=>rfl
   | true=>rfl
 ·rw[a0_]
  unfold up_
  cases frN (·.1) r.2.2.2.2.1 i a.1 with
  | false=>rfl
  | true =>
  cases ry_ r a.2.1 with
  | false=>rfl
  | true =>
  cases wi a.2.2.1 (-1) 7 with
  | false=>rfl
  | true =>
   simp only[e9_,a2_,c2_,ss_ s2,ss_ s5,ss_ s6,a0_]
   cases kq_ r.2.2.1.length a.2.2.2.1 with
   | false=>rfl
   | true =>
   cases kq_ r.2.2.1.length a.2.2.2.2.2.2.1 with
   | false=>rfl
   | true =>
   cases kq_ r.2.2.1.length a.2.2.2.2.2.2.2 with
   | false=>rfl
   | true =>
   cases h6:decide (6<(a.2.2.2.2.2.1.length:Int)) with
   | true=>rfl
   | false =>
   simp only[e9_,h3_,a2_,c2_,a0_]
   refine e5_ (congrArg (λo=>Option.bind o _) (?_:_=some (!((a.2.2.2.2.2.2.1.all λp=>a.2.2.2.1.contains p)&&!(a.2.2.2.2.2.2.2.any λp=>a.2.2.2.1.contains p)),()))) ?_
   ·refine e5_ (congrArg (λo=>Option.bind o _) (on_ s5 (λp=>!(a.2.2.2.1.contains p)) (λi y hy => ?_) ?_)) ?_
    ·simp only[dlt (am_ hy),a5_,ah_ hy,a0_,ou_ s2]
     cases a.2.2.2.1.contains y<;>rfl
    ·simp only[dnl,a2_]
    rw[a0_,← tr_ a.2.2.2.2.2.2.1]
    cases a.2.2.2.2.2.2.1.any λp=>!(a.2.2.2.1.contains p) with
    | true=>rfl
    | false =>
    refine e5_ (congrArg (λo=>Option.bind o _) (on_ s6 (λp=>a.2.2.2.1.contains p) (λi y hy => ?_) ?_)) ?_
    ·simp only[dlt (am_ hy),a5_,ah_ hy,a0_,ou_ s2]
     cases a.2.2.2.1.contains y<;>rfl
    ·simp only[dnl,a2_]
    cases a.2.2.2.2.2.2.2.any λp=>a.2.2.2.1.contains p<;>rfl
   ·rw[a0_]
    cases a.2.2.2.2.2.2.1.all λp=>a.2.2.2.1.contains p with
    | false=>rfl
    | true =>
    cases a.2.2.2.2.2.2.2.any λp=>a.2.2.2.1.contains p with
    | true=>rfl
    | false =>
     simp only[e9_,h3_,a2_,c2_]
     refine bo_ a.2.2.2.2.2.1 (λi x=>cond (rk_ r a.2.2.2.2.2.1 i x) none (some (inr (false,()):Unit⊕(Bool×Unit)))) (λi=>((i:Int),())) (r0:=inl ()) (λk y hy => ?_) ?_ ?_
     ·have hk:=am_ hy
      simp only[dlt hk,a5_,ah_ hy,a0_,az_ (show Sm k by omega),pd_ (g3_ hk)]
      refine e5_ (congrArg (λo=>Option.bind o _) (on_ (vp_ s4 k) (λz=>z.1==y.1) (λn z hz => ?_) ?_)) ?_
      ·simp only[dlt (am_ hz),a5_,ah_ hz,a0_]
       cases z.1==y.1<;>rfl
      ·simp only[dnl,a2_]
      ·rw[a0_,pj_ h.th]
       unfold rk_
       cases nk_ r.2.1 y.1 y.2 with
       | false=>rfl
       | true =>
        cases (a.2.2.2.2.2.1.take k).any λz=>z.1==y.1<;>rfl
     ·simp only[dnl,a2_]
     ·rw[sr_]
      cases (gb_ (λi x=>cond (rk_ r a.2.2.2.2.2.1 i x) none (some ())) 0 a.2.2.2.2.2.1).isNone<;>rfl
end
section
def ad4 (r:ae_):Bool:=decide (8<(r.1.length:Int))||(decide (12<(r.2.1.length:Int))||(decide (10<(r.2.2.1.length:Int))||(decide (16<(r.2.2.2.1.length:Int))||(decide (24<(r.2.2.2.2.1.length:Int))||decide (12<(r.2.2.2.2.2.1.length:Int))))))
theorem bu5 (r:ae_):(cond (decide (8<(r.1.length:Int)))
 (some (true,()))
 (cond (decide (12<(r.2.1.length:Int)))
 (some (true,()))
 (cond (decide (10<(r.2.2.1.length:Int)))
 (some (true,()))
 (cond (decide (16<(r.2.2.2.1.length:Int)))
 (some (true,()))
 (cond (decide (24<(r.2.2.2.2.1.length:Int)))
 (some (true,()))
 (some ((decide (12<(r.2.2.2.2.2.1.length:Int))),())))))))=some (ad4 r,()):=by
  unfold ad4
  cases decide (8<(r.1.length:Int)) with
  | true=>rfl
  | false =>
  cases decide (12<(r.2.1.length:Int)) with
  | true=>rfl
  | false =>
  cases decide (10<(r.2.2.1.length:Int)) with
  | true=>rfl
  | false =>
  cases decide (16<(r.2.2.2.1.length:Int)) with
  | true=>rfl
  | false =>
  cases decide (24<(r.2.2.2.2.1.length:Int)) with
  | true=>rfl
  | false=>rfl
def da_ (r:ae_):Int :=
 cond (ad4 r) 2 ((gb_ (λi x=>km_ (plOk r i x) 22) 0 r.1).getD
  (cond ((r.1.length:Int)==0) 22 ((gb_ (λi x=>km_ (bl9 r i x) 21) 0 r.2.1).getD
   ((gb_ (λi x=>sp_ (ci5 r i x) 24 (cOk r.2.1 x.2.2) 25) 0 r.2.2.1).getD
    ((gb_ (λ_ x=>sp_ (ce0 r x) 23 (cOk r.2.1 x.2.2) 25) 0 r.2.2.2.1).getD
     ((gb_ (λi x=>sp_ (up_ r i x) 26 (cOk r.2.1 x.2.2.2.2.1) 25) 0 r.2.2.2.2.1).getD
      ((gb_ (λ_ x=>sp_ (nk_ r.2.1 x.2.1 x.2.2) 27 (cOk r.2.1 x.1) 25) 0 r.2.2.2.2.2.1).getD
       (cond (wi r.2.2.2.2.2.2.1 1 4) (cond (cOk r.2.1 r.2.2.2.2.2.2.2) 0 25) 1))))))))
theorem st_ {r:ae_} (h:SmR r):fj_ r=some (da_ r,()):=by
 unfold fj_
 refine e5_ (congrArg (λo=>Option.bind o _) (bu5 r)) ?_
 rw[a0_]
 unfold da_
 cases ad4 r with
 | true=>rfl
 | false =>
 simp only[a2_]
 refine bu_ r.1 (λi x=>km_ (plOk r i x) 22) (λi y hy => ?_) ?_ (en_ ?_)
 ·have hi:=am_ hy
  simp only[dlt hi,a5_,ah_ hy,a0_,az_ (show Sm i from c6_ (g3_ hi) h.pl),pd_ (g3_ hi)]
  refine e5_ (congrArg (λo=>Option.bind o _) (uy_ (vp_ h.pl i) id (h.pln y (au_ hy)))) ?_
  unfold km_ plOk frN twN
  rw[a0_]
  cases okN y&&!((r.1.take i).any λz=>id z==y)<;>rfl
 ·simp only[dnl,a2_]
 cases (r.1.length:Int)==0 with
 | true=>rfl
 | false =>
 simp only[a2_]
 refine bu_ r.2.1 (λi x=>km_ (bl9 r i x) 21) (λi y hy => ?_) ?_ (en_ ?_)
 ·have hi:=am_ hy
  simp only[dlt hi,a5_,ah_ hy,a0_,az_ (show Sm i from c6_ (g3_ hi) h.th),pd_ (g3_ hi)]
  refine e5_ (congrArg (λo=>Option.bind o _) (e5_ (congrArg (λo=>Option.bind o _) (uy_ (vp_ h.th i) (·.1) (h.thn y (au_ hy)))) (?_:_=some (!(bl9 r i y),())))) ?_
  ·simp only[dw_,a0_]
   unfold bl9 frN twN ry_
   cases okN y.1&&!((r.2.1.take i).any λz=>z.1==y.1) with
   | false=>rfl
   | true =>
    cases wi y.2.1 0 (w64 ((r.1.length:Int) - 1)) with
    | false=>rfl
    | true =>
     cases wi y.2.2.1 2 6 with
     | false=>rfl
     | true=>rfl
  ·rw[a0_]
   unfold km_
   cases bl9 r i y<;>rfl
 ·simp only[dnl,a2_]
 refine bu_ r.2.2.1 (λi x=>sp_ (ci5 r i x) 24 (cOk r.2.1 x.2.2) 25) (λi y hy => ?_) ?_ (en_ ?_)
 ·have hi:=am_ hy
  simp only[dlt hi,a5_,ah_ hy,a0_,az_ (show Sm i from c6_ (g3_ hi) h.pr),pd_ (g3_ hi)]
  refine e5_ (congrArg (λo=>Option.bind o _) (e5_ (congrArg (λo=>Option.bind o _) (uy_ (vp_ h.pr i) (·.1) (h.prn y (au_ hy)).1)) (?_:_=some (!(ci5 r i y),())))) ?_
  ·simp only[dw_,a0_]
   unfold ci5 frN twN ry_
   cases okN y.1&&!((r.2.2.1.take i).any λz=>z.1==y.1) with
   | false=>rfl
   | true =>
    cases wi y.2.1 0 (w64 ((r.1.length:Int) - 1)) with
    | false=>rfl
    | true=>rfl
  ·rw[a0_,js_ h.th,a0_]
   unfold sp_
   cases ci5 r i y with
   | false=>rfl
   | true=>cases cOk r.2.1 y.2.2<;>rfl
 ·simp only[dnl,a2_]
 refine bu_ r.2.2.2.1 (λi x=>sp_ (ce0 r x) 23 (cOk r.2.1 x.2.2) 25) (λi y hy => ?_) ?_ (en_ ?_)
 ·have hi:=am_ hy
  simp only[dlt hi,a5_,ah_ hy,a0_,az_ (show Sm i from c6_ (g3_ hi) h.wy)]
  refine e5_ (congrArg (λo=>Option.bind o _) (?_:_=some (!(ce0 r y),()))) ?_
  ·simp only[dw_,a0_]
   unfold ce0 ry_
   cases wi y.1 0 (w64 ((r.1.length:Int) - 1)) with
   | false=>rfl
   | true =>
    cases wi y.2.1 0 (w64 ((r.1.length:Int) - 1)) with
    | false=>rfl
    | true=>simp
  ·rw[a0_,js_ h.th,a0_]
   unfold sp_
   cases ce0 r y with
   | false=>rfl
   | true=>cases cOk r.2.1 y.2.2<;>rfl
 ·simp only[dnl,a2_]
 refine bu_ r.2.2.2.2.1 (λi x=>sp_ (up_ r i x) 26 (cOk r.2.1 x.2.2.2.2.1) 25) (λi y hy => ?_) ?_ (en_ ?_)
 ·have hi:=am_ hy
  simp only[dlt hi,a5_,ah_ hy,a0_,az_ (show Sm i from c6_ (g3_ hi) h.ac),ch6 h hy,js_ h.th]
  unfold sp_
  cases up_ r i y with
  | false=>rfl
  | true=>cases cOk r.2.1 y.2.2.2.2.1<;>rfl
 ·simp only[dnl,a2_]
 refine bu_ r.2.2.2.2.2.1 (λi x=>sp_ (nk_ r.2.1 x.2.1 x.2.2) 27 (cOk r.2.1 x.1) 25) (λi y hy => ?_) ?_ (en_ ?_)
 ·have hi:=am_ hy
  simp only[dlt hi,a5_,ah_ hy,a0_,az_ (show Sm i from c6_ (g3_ hi) h.au),pj_ h.th,js_ h.th]
  unfold sp_
  cases nk_ r.2.1 y.2.1 y.2.2 with
  | false=>rfl
  | true=>cases cOk r.2.1 y.1<;>rfl
 ·simp only[dnl,a2_]
 rw[dw_,a0_,js_ h.th,a0_]
 cases wi r.2.2.2.2.2.2.1 1 4 with
 | false=>rfl
 | true=>cases cOk r.2.1 r.2.2.2.2.2.2.2<;>rfl
end
section
theorem ue_ {α ρ σ τ:Type} (l:List α) (k:Nat) (hk:k≤l.length) (p:Nat→α→Option ρ) (F:Nat→σ) {r0:ρ} {body:σ→Option (σ⊕ρ)} {K:ρ→Option τ} {x:Option τ}
  (h:∀ i x,i<k→l[i]?=some x→body (F i)=some (match p i x with | none=>.inl (F (i+1)) | some r=>.inr r)) (e:body (F k)=some (.inr r0)) (hx:K ((gb_ p 0 (l.take k)).getD r0)=x) :
  (af_ body (F 0)).bind K=x:=by
 have hle:(l.take k).length=k:=by rw[c9_];omega
 refine bo_ (l.take k) p F (λi x hx => ?_) (by rw[hle];exact e) hx
 rw[j6_] at hx
 split at hx
 ·exact h i x ‹_› hx
 ·cases hx
theorem bo9 {r:ae_} (h:SmR r) {i:Nat} {a:cu_} (ha:r.2.2.2.2.1[i]?=some a):mw_ r (i:Int)=some (up_ r i a,()):=by
 have hi:=am_ ha
 have hac:=h.ac
 obtain⟨s1,s2,s3,s4,s5,s6⟩:=h.acn a (au_ ha)
 unfold mw_
 rw[ah_ ha,a0_]
 refine ue_ r.2.2.2.2.1 i (g3_ hi) (λ_ y=>cond (y.1==a.1) (some (inr (false,()):Unit⊕(Bool×Unit))) none) (λi=>((i:Int),())) (r0:=inl ()) (λk y hk hy => ?_) ?_ ?_
 ·simp only[dlt hk,a5_,ah_ hy,a0_,az_ (show Sm k by omega)]
  cases y.1==a.1<;>rfl
 ·simp only[dnl,a2_]
 rw[hh_ (q:=λy:cu_=>y.1==a.1)]
 unfold up_ frN twN
 cases (r.2.2.2.2.1.take i).any λy=>y.1==a.1 with
 | true=>rw[e9_,f9_,e8_];rfl
 | false =>
 simp only[a2_,j8_,aa1,h3_,i1_]
 refine e5_ (congrArg (λo=>Option.bind o _) (?_:_=some (!(okN a.1&&(ry_ r a.2.1&&(wi a.2.2.1 (-1) 7&&(kq_ r.2.2.1.length a.2.2.2.1&&(kq_ r.2.2.1.length a.2.2.2.2.2.2.1&&(kq_ r.2.2.1.length a.2.2.2.2.2.2.2&&!(decide (6<(a.2.2.2.2.2.1.length:Int))))))))),()))) ?_
 ·simp only[jy_ s1,hx_,fn_,jx_ h.pr s2,jx_ h.pr s5,jx_ h.pr s6,a0_]
  unfold ry_
  cases okN a.1 with
  | false=>rfl
  | true =>
  cases wi a.2.1 0 (w64 ((r.1.length:Int) - 1)) with
  | false=>rfl
  | true =>
  cases wi a.2.2.1 (-1) 7 with
  | false=>rfl
  | true =>
  cases kq_ r.2.2.1.length a.2.2.2.1 with
  | false=>rfl
  | true =>
  cases kq_ r.2.2.1.length a.2.2.2.2.2.2.1 with
  | false=>rfl
  | true =>
  cases kq_ r.2.2.1.length a.2.2.2.2.2.2.2 with
  | false=>rfl
  | true=>simp
 rw[a0_]
 cases okN a.1 with
 | false=>rfl
 | true =>
 cases ry_ r a.2.1 with
 | false=>rfl
 | true =>
 cases wi a.2.2.1 (-1) 7 with
 | false=>rfl
 | true =>
 cases kq_ r.2.2.1.length a.2.2.2.1 with
 | false=>rfl
 | true =>
 cases kq_ r.2.2.1.length a.2.2.2.2.2.2.1 with
 | false=>rfl
 | true =>
 cases kq_ r.2.2.1.length a.2.2.2.2.2.2.2 with
 | false=>rfl
 | true =>
 cases decide (6<(a.2.2.2.2.2.1.length:Int)) with
 | true=>rfl
 | false =>
 simp only[c2_,e9_,h3_,a2_]
 refine bo_ a.2.2.2.2.2.2.1 (λ_ y=>cond (a.2.2.2.1.contains y) none (some (inr (false,()):Unit⊕(Bool×Unit)))) (λi=>((i:Int),())) (r0:=inl ()) (λk y hy => ?_) ?_ ?_
 ·have hk:=am_ hy
  simp only[dlt hk,a5_,ah_ hy,a0_,az_ (show Sm k by omega),ay7 s2]
  cases a.2.2.2.1.contains y<;>rfl
 ·simp only[dnl,a2_]
 rw[je_ (q:=λy=>a.2.2.2.1.contains y)]
 cases a.2.2.2.2.2.2.1.all λy=>a.2.2.2.1.contains y with
 | false=>rfl
 | true =>
 simp only[a5_,j8_,aa1,c2_]
 refine bo_ a.2.2.2.2.2.2.2 (λ_ y=>cond (a.2.2.2.1.contains y) (some (inr (false,()):Unit⊕(Bool×Unit))) none) (λi=>((i:Int),())) (r0:=inl ()) (λk y hy => ?_) ?_ ?_
 ·have hk:=am_ hy
  simp only[dlt hk,a5_,ah_ hy,a0_,az_ (show Sm k by omega),ay7 s2]
  cases a.2.2.2.1.contains y<;>rfl
 ·simp only[dnl,a2_]
 rw[hh_ (q:=λy=>a.2.2.2.1.contains y)]
 cases a.2.2.2.2.2.2.2.any λy=>a.2.2.2.1.contains y with
 | true=>rfl
 | false =>
 simp only[a2_,j8_,aa1,h3_,c2_]
 refine bo_ a.2.2.2.2.2.1 (λi x=>cond (rk_ r a.2.2.2.2.2.1 i x) none (some (inr (false,()):Unit⊕(Bool×Unit)))) (λi=>((i:Int),())) (r0:=inl ()) (λk y hy => ?_) ?_ ?_
 ·have hk:=am_ hy
  simp only[dlt hk,a5_,ah_ hy,a0_,az_ (show Sm k by omega),rn_ h.th]
  unfold rk_
  cases nk_ r.2.1 y.1 y.2 with
  | false=>rfl
  | true =>
  simp only[e9_,a2_,c2_]
  refine ue_ a.2.2.2.2.2.1 k (g3_ hk) (λ_ z=>cond (z.1==y.1) (some (inr (inr (inr (false,()))):Unit⊕((Int×Unit)⊕(Unit⊕(Bool×Unit))))) none) (λi=>((i:Int),())) (r0:=inl ()) (λn z hn hz => ?_) ?_ ?_
  ·simp only[dlt hn,a5_,ah_ hz,a0_,az_ (show Sm n by omega)]
   cases z.1==y.1<;>rfl
  ·simp only[dnl,a2_]
  rw[hh_ (q:=λz:ab_=>z.1==y.1)]
  cases (a.2.2.2.2.2.1.take k).any λz=>z.1==y.1<;>rfl
 ·simp only[dnl,a2_]
 rw[sr_]
 cases (gb_ (λi x=>cond (rk_ r a.2.2.2.2.2.1 i x) none (some ())) 0 a.2.2.2.2.2.1).isNone<;>rfl
theorem ak3 {α:Type} {nm:α→List UInt8} {l:List α} (hl:Sm l.length) {i:Nat} {x:α} (hx:l[i]?=some x):push? (α:=List UInt8) ((l.take i).map nm) [nm x]=some ((l.take (i+1)).map nm):=by
 have hi:=am_ hx
 unfold push?
 rw[if_pos (by
  simp only[d2_,c9_,d3_]
  omega)]
 rw[d7_,hx,j5_]
 rfl
theorem bl7 {α:Type} {nm:α→List UInt8} {l:List α} {i:Nat} {t:List UInt8}:twN id ((l.take (i+1)).map nm) i t=twN nm l i t:=by
 unfold twN
 rw[← List.map_take,List.take_take,Nat.min_eq_left (Nat.le_succ i),List.any_map]
 rfl
theorem ct1 {α:Type} {nm:α→List UInt8} {l:List α} {i:Nat} {x:α} (hx:l[i]?=some x):((l.take (i+1)).map nm)[i]?=some (nm x):=by
 rw[d8_,j6_,if_pos (Nat.lt_succ_self i),hx]
 rfl
theorem qo_ {r:ae_} (h:SmR r):fs_ r=some (da_ r,()):=by
 unfold fs_
 refine e5_ (congrArg (λo=>Option.bind o _) (bu5 r)) ?_
 rw[a0_]
 unfold da_
 cases ad4 r with
 | true=>rfl
 | false =>
 simp only[a2_]
 cases he:(r.1.length:Int)==0 with
 | true =>
  have:r.1=[]:=by
   have:=f5_.1 he
   exact g2_ (by omega)
  rw[this]
  rfl
 | false =>
 simp only[a2_]
 refine bu_ r.1 (λi x=>km_ (plOk r i x) 22) (λi y hy => ?_) ?_ (en_ ?_)
 ·have hi:=am_ hy
  simp only[dlt hi,a5_,ah_ hy,a0_,az_ (show Sm i from c6_ (g3_ hi) h.pl),jy_ (h.pln y (au_ hy)),qn_ h.pl hy]
  unfold km_ plOk frN
  cases okN y with
  | false=>rfl
  | true=>cases twN id r.1 i y<;>rfl
 ·simp only[dnl,a2_]
 refine zx_ r.2.1 (λi x=>km_ (bl9 r i x) 21) (λi=>(r.2.1.take i).map (·.1)) rfl (λi y hy => ?_) ?_ (en_ ?_)
 ·have hi:=am_ hy
  have hs:Sm ((r.2.1.take (i+1)).map (·.1)).length:=by
   rw[d2_,c9_]
   exact c6_ (m5_ _ _) h.th
  simp only[dlt hi,a5_,ah_ hy,a0_,az_ (show Sm i from c6_ (g3_ hi) h.th),ak3 h.th hy,jy_ (h.thn y (au_ hy)),qn_ hs (ct1 hy),bl7,hx_,fn_]
  unfold km_ bl9 frN ry_
  cases okN y.1 with
  | false=>rfl
  | true =>
  cases twN (·.1) r.2.1 i y.1 with
  | true=>rfl
  | false =>
  cases wi y.2.1 0 (w64 ((r.1.length:Int) - 1)) with
  | false=>rfl
  | true =>
  cases wi y.2.2.1 2 6 with
  | false=>rfl
  | true=>cases wi y.2.2.2 0 (w64 (y.2.2.1 - 1))<;>rfl
 ·simp only[dnl,a2_]
 refine zx_ r.2.2.1 (λi x=>sp_ (ci5 r i x) 24 (cOk r.2.1 x.2.2) 25) (λi=>(r.2.2.1.take i).map (·.1)) rfl (λi y hy => ?_) ?_ (en_ ?_)
 ·have hi:=am_ hy
  obtain⟨s1,s2⟩:=h.prn y (au_ hy)
  have hs:Sm ((r.2.2.1.take (i+1)).map (·.1)).length:=by
   rw[d2_,c9_]
   exact c6_ (m5_ _ _) h.pr
  simp only[dlt hi,a5_,ah_ hy,a0_,az_ (show Sm i from c6_ (g3_ hi) h.pr),ak3 h.pr hy,jy_ s1,qn_ hs (ct1 hy),bl7,hx_,gx_ h.th s2]
  unfold sp_ ci5 frN ry_
  cases okN y.1 with
  | false=>rfl
  | true =>
  cases twN (·.1) r.2.2.1 i y.1 with
  | true=>rfl
  | false =>
  have e:(y.2.1 != -1) = !(y.2.1==-1):=rfl
  rw[e]
  cases y.2.1==-1 with
  | true =>
   cases wi y.2.1 0 (w64 ((r.1.length:Int) - 1))<;>cases cOk r.2.1 y.2.2<;>rfl
  | false =>
   cases wi y.2.1 0 (w64 ((r.1.length:Int) - 1))<;>cases cOk r.2.1 y.2.2<;>rfl
 ·simp only[dnl,a2_]
 refine bu_ r.2.2.2.1 (λi x=>sp_ (ce0 r x) 23 (cOk r.2.1 x.2.2) 25) (λi y hy => ?_) ?_ (en_ ?_)
 ·have hi:=am_ hy
  simp only[dlt hi,a5_,ah_ hy,a0_,az_ (show Sm i from c6_ (g3_ hi) h.wy),hx_,gx_ h.th (h.wyn y (au_ hy))]
  unfold sp_ ce0 ry_
  cases wi y.1 0 (w64 ((r.1.length:Int) - 1)) with
  | false=>rfl
  | true =>
  cases wi y.2.1 0 (w64 ((r.1.length:Int) - 1)) with
  | false=>rfl
  | true=>cases y.1==y.2.1<;>cases cOk r.2.1 y.2.2<;>rfl
 ·simp only[dnl,a2_]
 refine bu_ r.2.2.2.2.1 (λi x=>sp_ (up_ r i x) 26 (cOk r.2.1 x.2.2.2.2.1) 25) (λi y hy => ?_) ?_ (en_ ?_)
 ·have hi:=am_ hy
  simp only[dlt hi,a5_,ah_ hy,a0_,az_ (show Sm i from c6_ (g3_ hi) h.ac),bo9 h hy,gx_ h.th (h.acn y (au_ hy)).2.2.1]
  unfold sp_
  cases up_ r i y with
  | false=>rfl
  | true=>cases cOk r.2.1 y.2.2.2.2.1<;>rfl
 ·simp only[dnl,a2_]
 refine bu_ r.2.2.2.2.2.1 (λi x=>sp_ (nk_ r.2.1 x.2.1 x.2.2) 27 (cOk r.2.1 x.1) 25) (λi y hy => ?_) ?_ (en_ ?_)
 ·have hi:=am_ hy
  simp only[dlt hi,a5_,ah_ hy,a0_,az_ (show Sm i from c6_ (g3_ hi) h.au),rn_ h.th,gx_ h.th (h.aun y (au_ hy))]
  unfold sp_
  cases nk_ r.2.1 y.2.1 y.2.2 with
  | false=>rfl
  | true=>cases cOk r.2.1 y.1<;>rfl
 ·simp only[dnl,a2_]
 rw[fn_,a0_,gx_ h.th h.go,a0_]
 cases wi r.2.2.2.2.2.2.1 1 4 with
 | false=>rfl
 | true=>cases cOk r.2.1 r.2.2.2.2.2.2.2<;>rfl
end
section
theorem jg_ {α τ:Type} (l:List α) (hl:Sm l.length) (q:α→Bool) {body:(Int×Unit)→Option ((Int×Unit)⊕(Unit⊕(Bool×Unit)))} {K:(Unit⊕(Bool×Unit))→Option τ} {x:Option τ}
  (h:∀ (i:Nat) y,l[i]?=some y→body ((i:Int),())=some (cond (q y) (.inr (.inr (true,()))) (.inl (w64 ((i:Int)+1),())))) (e:body ((l.length:Int),())=some (.inr (.inl ()))) (hx:K (cond (l.any q) (.inr (true,())) (.inl ()))=x) :
  (af_ body (0,())).bind K=x:=by
 refine bo_ l (λi y=>cond (q y) (some (inr (true,()):Unit⊕(Bool×Unit))) none) (λi=>((i:Int),())) (r0:=inl ()) (λi y hy => ?_) e ?_
 ·have hi:=am_ hy
  rw[h i y hy,az_ (show Sm i by omega)]
  cases q y<;>rfl
 ·rw[hh_ (q:=q)]
  cases hq:l.any q<;>rw[hq] at hx<;>exact hx
theorem hs_ {α:Type} {l:List α} {q:α→Bool} (h:l.any q=false):∀ x ∈ l,q x=false:=by
 intro x hx
 cases hq:q x with
 | false=>rfl
 | true=>rw[i9_.2 ⟨x,hx,hq⟩] at h;cases h
theorem nlt {n:Nat} {k:Int} (h:decide (k<(n:Int))=false) (hk:k≤1000000000):Sm n:=by
 have:=e0_ h
 omega
def cl3 (r:ae_):Bool:=decide (12<(r.1.length:Int))||(decide (15<(r.2.1.length:Int))||(decide (14<(r.2.2.1.length:Int))||(decide (20<(r.2.2.2.1.length:Int))||(decide (30<(r.2.2.2.2.1.length:Int))||(decide (15<(r.2.2.2.2.2.1.length:Int))||decide (20<(r.2.2.2.2.2.2.2.length:Int)))))))
theorem cl2 (r:ae_):(cond (decide (12<(r.1.length:Int)))
 (some (true,()))
 (cond (decide (15<(r.2.1.length:Int)))
 (some (true,()))
 (cond (decide (14<(r.2.2.1.length:Int)))
 (some (true,()))
 (cond (decide (20<(r.2.2.2.1.length:Int)))
 (some (true,()))
 (cond (decide (30<(r.2.2.2.2.1.length:Int)))
 (some (true,()))
 (cond (decide (15<(r.2.2.2.2.2.1.length:Int)))
 (some (true,()))
 (some ((decide (20<(r.2.2.2.2.2.2.2.length:Int))),()))))))))=some (cl3 r,()):=by
  unfold cl3
  cases decide (12<(r.1.length:Int)) with
  | true=>rfl
  | false =>
  cases decide (15<(r.2.1.length:Int)) with
  | true=>rfl
  | false =>
  cases decide (14<(r.2.2.1.length:Int)) with
  | true=>rfl
  | false =>
  cases decide (20<(r.2.2.2.1.length:Int)) with
  | true=>rfl
  | false =>
  cases decide (30<(r.2.2.2.2.1.length:Int)) with
  | true=>rfl
  | false =>
  cases decide (15<(r.2.2.2.2.2.1.length:Int)) with
  | true=>rfl
  | false=>rfl
theorem bv4 (r:ae_):∃ b,mz_ r=some (b,())∧(b=false→SmR r∧r.2.1.length≤15∧r.2.2.2.2.2.2.2.length≤20∧r.2.2.2.2.1.length≤30):=by
 unfold mz_
 have e0:=cl2 r
 cases hm:cl3 r with
 | true =>
  rw[hm] at e0
  exact⟨true,e5_ (congrArg (λo=>Option.bind o _) e0) rfl,λh=>by cases h⟩
 | false =>
 rw[hm] at e0
 unfold cl3 at hm
 simp only[c0_] at hm
 obtain⟨h1,h2,h3,h4,h5,h6,h7⟩:=hm
 have l1:=nlt h1 (by decide)
 have l2:=nlt h2 (by decide)
 have l3:=nlt h3 (by decide)
 have l4:=nlt h4 (by decide)
 have l5:=nlt h5 (by decide)
 have l6:=nlt h6 (by decide)
 have l7:=nlt h7 (by decide)
 have b2:=e0_ h2
 have b5:=e0_ h5
 have b7:=e0_ h7
 let qa:cu_→Bool:=λy=>decide (100<(y.1.length:Int))||(decide (20<(y.2.2.2.2.1.length:Int))||(decide (20<(y.2.2.2.1.length:Int))||(decide (20<(y.2.2.2.2.2.1.length:Int))||(decide (20<(y.2.2.2.2.2.2.1.length:Int))||decide (20<(y.2.2.2.2.2.2.2.length:Int))))))
 let b1:=r.1.any λx=>decide (100<(x.length:Int))
 let bt:=r.2.1.any λx=>decide (100<(x.1.length:Int))
 let bp:=r.2.2.1.any λx=>decide (100<(x.1.length:Int))||decide (20<(x.2.2.length:Int))
 let bw:=r.2.2.2.1.any λx=>decide (20<(x.2.2.length:Int))
 let ba:=r.2.2.2.2.1.any qa
 let bo:=r.2.2.2.2.2.1.any λx=>decide (20<(x.1.length:Int))
 refine⟨b1||(bt||(bp||(bw||(ba||bo)))),?_,?_⟩
 ·refine e5_ (congrArg (λo=>Option.bind o _) e0) ?_
  rw[a0_]
  simp only[a2_]
  refine jg_ r.1 l1 (λx=>decide (100<(x.length:Int))) (λi y hy => ?_) ?_ ?_
  ·simp only[dlt (am_ hy),a5_,ah_ hy,a0_]
   cases decide (100<(y.length:Int))<;>rfl
  ·simp only[dnl,a2_]
  show cg_ (cond b1 _ _) _ _=_
  cases b1 with
  | true=>rfl
  | false =>
  refine jg_ r.2.1 l2 (λx=>decide (100<(x.1.length:Int))) (λi y hy => ?_) ?_ ?_
  ·simp only[dlt (am_ hy),a5_,ah_ hy,a0_]
   cases decide (100<(y.1.length:Int))<;>rfl
  ·simp only[dnl,a2_]
  show cg_ (cond bt _ _) _ _=_
  cases bt with
  | true=>rfl
  | false =>
  refine jg_ r.2.2.1 l3 (λx=>decide (100<(x.1.length:Int))||decide (20<(x.2.2.length:Int))) (λi y hy => ?_) ?_ ?_
  ·simp only[dlt (am_ hy),a5_,ah_ hy,a0_]
   cases decide (100<(y.1.length:Int)) with
   | true=>rfl
   | false=>cases decide (20<(y.2.2.length:Int))<;>rfl
  ·simp only[dnl,a2_]
  show cg_ (cond bp _ _) _ _=_
  cases bp with
  | true=>rfl
  | false =>
  refine jg_ r.2.2.2.1 l4 (λx=>decide (20<(x.2.2.length:Int))) (λi y hy => ?_) ?_ ?_
  ·simp only[dlt (am_ hy),a5_,ah_ hy,a0_]
   cases decide (20<(y.2.2.length:Int))<;>rfl
  ·simp only[dnl,a2_]
  show cg_ (cond bw _ _) _ _=_
  cases bw with
  | true=>rfl
  | false =>
  refine jg_ r.2.2.2.2.1 l5 qa (λi y hy => ?_) ?_ ?_
  ·simp only[dlt (am_ hy),a5_,ah_ hy,a0_,qa]
   cases decide (100<(y.1.length:Int)) with
   | true=>rfl
   | false =>
   cases decide (20<(y.2.2.2.2.1.length:Int)) with
   | true=>rfl
   | false =>
   cases decide (20<(y.2.2.2.1.length:Int)) with
   | true=>rfl
   | false =>
   cases decide (20<(y.2.2.2.2.2.1.length:Int)) with
   | true=>rfl
   | false =>
   cases decide (20<(y.2.2.2.2.2.2.1.length:Int)) with
   | true=>rfl
   | false=>cases decide (20<(y.2.2.2.2.2.2.2.length:Int))<;>rfl
  ·simp only[dnl,a2_]
  show cg_ (cond ba _ _) _ _=_
  cases ba with
  | true=>rfl
  | false =>
  refine jg_ r.2.2.2.2.2.1 l6 (λx=>decide (20<(x.1.length:Int))) (λi y hy => ?_) ?_ ?_
  ·simp only[dlt (am_ hy),a5_,ah_ hy,a0_]
   cases decide (20<(y.1.length:Int))<;>rfl
  ·simp only[dnl,a2_]
  show cg_ (cond bo _ _) _ _=_
  cases bo<;>rfl
 ·intro hb
  simp only[c0_] at hb
  obtain⟨g1,g2,g3,g4,g5,g6⟩:=hb
  refine⟨⟨l1,l2,l3,l4,l5,l6,l7,λx hx=>nlt (hs_ g1 x hx) (by decide),λx hx=>nlt (hs_ g2 x hx) (by decide),λx hx => ?_,λx hx=>nlt (hs_ g4 x hx) (by decide),λx hx => ?_,λx hx=>nlt (hs_ g6 x hx) (by decide)⟩,by omega,by omega,by omega⟩
  ·have:=hs_ g3 x hx
   simp only[c0_] at this
   exact⟨nlt this.1 (by decide),nlt this.2 (by decide)⟩
  ·have:=hs_ g5 x hx
   simp only[qa,c0_] at this
   obtain⟨a1,a2,a3,a4,a5,a6⟩:=this
   exact⟨nlt a1 (by decide),nlt a3 (by decide),nlt a2 (by decide),nlt a4 (by decide),nlt a5 (by decide),nlt a6 (by decide)⟩
structure SmG (g:ad_):Prop where
 room:SmR g.1
 th:g.1.2.1.length≤15
 go:g.1.2.2.2.2.2.2.2.length≤20
 ac:g.1.2.2.2.2.1.length≤30
 lk:g.2.1.length≤10
 cd:g.2.2.1.length≤10
 nt:g.2.2.2.1.length≤20
 lkn:∀ x ∈ g.2.1,¬ (3<x.1∧5<x.2)
 cdn:∀ x ∈ g.2.2.1,x.length≤10
 ntn:∀ x ∈ g.2.2.2.1,x.1.length≤100∧x.2.2.2.1.length≤20∧x.2.2.2.2.2.2.2.2.2.1.length≤10
theorem bv3 (g:ad_):∃ b,kk_ g=some (b,())∧(b=false→SmG g):=by
 unfold kk_
 obtain⟨b0,e0,h0⟩:=bv4 g.1
 rw[e0]
 simp only[a0_]
 cases b0 with
 | true=>exact⟨true,rfl,λh=>by cases h⟩
 | false =>
 obtain⟨r1,r2,r3,r4⟩:=h0 rfl
 cases h1:decide (10<(g.2.1.length:Int)) with
 | true=>exact⟨true,rfl,λh=>by cases h⟩
 | false =>
 cases h2:decide (10<(g.2.2.1.length:Int)) with
 | true=>exact⟨true,rfl,λh=>by cases h⟩
 | false =>
 cases h3:decide (20<(g.2.2.2.1.length:Int)) with
 | true=>exact⟨true,rfl,λh=>by cases h⟩
 | false =>
 have l1:=nlt h1 (by decide)
 have l2:=nlt h2 (by decide)
 have l3:=nlt h3 (by decide)
 let ql:ab_→Bool:=λy=>decide (3<y.1)&&decide (5<y.2)
 let qn:co_→Bool:=λy=>decide (100<(y.1.length:Int))||(decide (20<(y.2.2.2.1.length:Int))||decide (10<(y.2.2.2.2.2.2.2.2.2.1.length:Int)))
 let b1:=g.2.1.any ql
 let b2:=g.2.2.1.any λx=>decide (10<(x.length:Int))
 let b3:=g.2.2.2.1.any qn
 refine⟨b1||(b2||b3),?_,?_⟩
 ·simp only[a0_,a2_]
  refine jg_ g.2.1 l1 ql (λi y hy => ?_) ?_ ?_
  ·simp only[dlt (am_ hy),a5_,ah_ hy,a0_,ql]
   cases decide (3<y.1) with
   | false=>rfl
   | true=>cases decide (5<y.2)<;>rfl
  ·simp only[dnl,a2_]
  show cg_ (cond b1 _ _) _ _=_
  cases b1 with
  | true=>rfl
  | false =>
  refine jg_ g.2.2.1 l2 (λx=>decide (10<(x.length:Int))) (λi y hy => ?_) ?_ ?_
  ·simp only[dlt (am_ hy),a5_,ah_ hy,a0_]
   cases decide (10<(y.length:Int))<;>rfl
  ·simp only[dnl,a2_]
  show cg_ (cond b2 _ _) _ _=_
  cases b2 with
  | true=>rfl
  | false =>
  refine jg_ g.2.2.2.1 l3 qn (λi y hy => ?_) ?_ ?_
  ·simp only[dlt (am_ hy),a5_,ah_ hy,a0_,qn]
   cases decide (100<(y.1.length:Int)) with
   | true=>rfl
   | false =>
   cases decide (20<(y.2.2.2.1.length:Int)) with
   | true=>rfl
   | false=>cases decide (10<(y.2.2.2.2.2.2.2.2.2.1.length:Int))<;>rfl
  ·simp only[dnl,a2_]
  show cg_ (cond b3 _ _) _ _=_
  cases b3<;>rfl
 ·intro hb
  simp only[c0_] at hb
  obtain⟨g1,g2,g3⟩:=hb
  have c1:=e0_ h1
  have c2:=e0_ h2
  have c3:=e0_ h3
  refine⟨r1,r2,r3,r4,by omega,by omega,by omega,λx hx => ?_,λx hx => ?_,λx hx => ?_⟩
  ·have:=hs_ g1 x hx
   intro hc
   simp only[ql,b6_ hc.1,b6_ hc.2] at this
   cases this
  ·have:=e0_ (hs_ g2 x hx)
   omega
  ·have:=hs_ g3 x hx
   simp only[qn,c0_] at this
   have d1:=e0_ this.1
   have d2:=e0_ this.2.1
   have d3:=e0_ this.2.2
   omega
end
end Go.Proofs.YtgeehfnbhbibeaaGreatDoor.Rx
namespace Go.Proofs.YtgeehfnbhbibeaaGreatDoor.Rx
open Go Pad Rex Go.Proofs Go.Proofs.Tryz Sum
section
set_option maxRecDepth 100000
set_option maxHeartbeats 0
noncomputable def hm_ (a0:ad_):Option (Int×Unit) :=
 ((fs_ a0.1).bind λv0 =>
 (cond (v0.1 != 0)
 (some (v0.1,()))
 (((cond (decide (8<(a0.2.1.length:Int)))
 (some (true,()))
 (some ((decide (16<(a0.2.2.2.1.length:Int))),())))).bind λv1 =>
 (cond v1.1
 (some (2,()))
 ((af_ (ρ:=(Unit⊕(Int×Unit))) (λ(v2:(Int×Unit)) =>
 (cond (decide (v2.1<(a0.2.1.length:Int)))
 ((at? a0.2.1 v2.1).bind λv3 =>
 ((eg_ v3).bind λv4 =>
 (cond (v4.1 != 0)
 (some (inr (inr (v4.1,()))))
 (some (inl ((w64 (v2.1+1)),()))))))
 (some (inr (inl ()))))) (0,())).bind λv5 =>
 (cg_ v5 (λv6=>(cond ((a0.2.2.1.length:Int) != (a0.2.1.length:Int))
 (some (12,()))
 ((af_ (ρ:=(Unit⊕(Int×Unit))) (λ(v8:(Int×Unit)) =>
 (cond (decide (v8.1<(a0.2.2.1.length:Int)))
 ((at? a0.2.1 v8.1).bind λv9 =>
 ((at? a0.2.2.1 v8.1).bind λv10 =>
 ((ft_ v9 v10).bind λv11 =>
 (cond (v11.1 != 0)
 (some (inr (inr (12,()))))
 (some (inl ((w64 (v8.1+1)),())))))))
 (some (inr (inl ()))))) (0,())).bind λv12 =>
 (cg_ v12 (λv13=>((af_ (ρ:=(Unit⊕(Int×Unit))) (λ(v15:(Int×Unit)) =>
 (cond (decide (v15.1<(a0.1.2.2.2.2.1.length:Int)))
 ((at? a0.1.2.2.2.2.1 v15.1).bind λv16 =>
 (cond (decide ((a0.2.1.length:Int)≤v16.2.2.1))
 (some (inr (inr (26,()))))
 (some (inl ((w64 (v15.1+1)),())))))
 (some (inr (inl ()))))) (0,())).bind λv17 =>
 (cg_ v17 (λv18=>((af_ (ρ:=(Unit⊕(Int×Unit))) (λ(v20:(Int×Unit)) =>
 (cond (decide (v20.1<(a0.2.2.2.1.length:Int)))
 ((jh_ a0 v20.1).bind λv21 =>
 (cond (!v21.1)
 (some (inr (inr (40,()))))
 ((at? a0.2.2.2.1 v20.1).bind λv22 =>
 ((cs_ a0.1 v22.2.2.2.1).bind λv23 =>
 (cond (!v23.1)
 (some (inr (inr (25,()))))
 (some (inl ((w64 (v20.1+1)),()))))))))
 (some (inr (inl ()))))) (0,())).bind λv24 =>
 (cg_ v24 (λv25=>((iq_ a0.2.2.2.2 1 100).bind λv27 =>
 (cond (!v27.1)
 (some (1,()))
 (some (0,())))))
 (λv26=>(some v26)))))
 (λv19=>(some v19)))))
 (λv14=>(some v14))))))
 (λv7=>(some v7))))))))
theorem x_24:aw_ (P:=prog) (cxC [c_52,c_53,c_54,c_55,c_56,c_57] []) (.p .z (.p .z (.p .z (.p (.j0 [.v 24 .bool] .z .z) (.p (.p .z (.ls [.v 4 .int] [] [] 0 .z)) (.p .z (.p (.p .z (.ls [.v 6 .int] [] [] 2 (.p .z (.p (.p (.q [] .z .z) .z) .z)))) (.p (.p .z (.ls [.v 7 .int] [] [] 4 (.p .z (.p (.p (.q [] .z .z) .z) .z)))) (.p (.p .z (.ls [.v 8 .int] [] [] 6 (.p .z (.p (.p .z (.p (.q [] .z .z) .z)) .z)))) .z))))))))) 24 [ao_] [.int]=λx=>hm_ x.1:=by kernel_rfl
noncomputable def c_24:Con prog:=ax_ _ _ 24 [ao_] [.int] _ x_24
noncomputable def es_ (a0:ae_) (a1:ai_):Option (Int×Unit) :=
 ((fs_ a0).bind λv0 =>
 (cond (v0.1 != 0)
 (some (v0.1,()))
 (((cond ((a1.1.length:Int) != (a0.2.1.length:Int))
 (some (true,()))
 (cond ((a1.2.1.length:Int) != (a0.2.2.1.length:Int))
 (some (true,()))
 (some (((a1.2.2.length:Int) != a0.2.2.2.2.2.2.1),()))))).bind λv1 =>
 (cond v1.1
 (some (28,()))
 ((af_ (ρ:=(Unit⊕(Int×Unit))) (λ(v2:(Int×Unit)) =>
 (cond (decide (v2.1<(a1.1.length:Int)))
 ((at? a1.1 v2.1).bind λv3 =>
 ((gs_ a0 v2.1 v3).bind λv4 =>
 (cond (!v4.1)
 (some (inr (inr (28,()))))
 (some (inl ((w64 (v2.1+1)),()))))))
 (some (inr (inl ()))))) (0,())).bind λv5 =>
 (cg_ v5 (λv6=>((af_ (ρ:=(Unit⊕(Int×Unit))) (λ(v8:(Int×Unit)) =>
 (cond (decide (v8.1<(a1.2.1.length:Int)))
 ((at? a1.2.1 v8.1).bind λv9 =>
 ((((cr_ a0 v9).bind λv10 =>
 (cond (!v10.1)
 (cond (v9 != (-1))
 ((bs_ v9 (w64 ((w64 ((-2) - a0.2.2.2.2.2.2.1))+1)) (-2)).bind λv11 =>
 (some ((!v11.1),())))
 (some (false,())))
 (some (false,()))))).bind λv12 =>
 (cond v12.1
 (some (inr (inr (28,()))))
 (some (inl ((w64 (v8.1+1)),()))))))
 (some (inr (inl ()))))) (0,())).bind λv13 =>
 (cg_ v13 (λv14=>((af_ (ρ:=(Unit⊕(Int×Unit))) (λ(v16:(Int×Unit)) =>
 (cond (decide (v16.1<(a1.2.2.length:Int)))
 ((at? a1.2.2 v16.1).bind λv17 =>
 ((cr_ a0 v17).bind λv18 =>
 (cond (!v18.1)
 (some (inr (inr (28,()))))
 (some (inl ((w64 (v16.1+1)),()))))))
 (some (inr (inl ()))))) (0,())).bind λv19 =>
 (cg_ v19 (λv20=>(some (0,())))
 (λv21=>(some v21)))))
 (λv15=>(some v15)))))
 (λv7=>(some v7))))))))
theorem x_158:aw_ (P:=prog) (cxC [c_52,c_83,c_84,c_86] []) (.p .z (.p .z (.p .z (.p (.j0 [.v 38 .bool] .z .z) (.p (.p .z (.ls [.v 6 .int] [] [] 0 (.p .z (.p (.p (.q [] .z .z) .z) .z)))) (.p (.p .z (.ls [.v 7 .int] [] [] 2 (.p .z (.p (.p .z (.j0 [.v 83 .bool] .z .z)) .z)))) (.p (.p .z (.ls [.v 9 .int] [] [] 4 (.p .z (.p (.p (.q [] .z .z) .z) .z)))) .z))))))) 158 [an_,aq_] [.int]=λx=>es_ x.1 x.2.1:=by kernel_rfl
noncomputable def c_158:Con prog:=ax_ _ _ 158 [an_,aq_] [.int] _ x_158
noncomputable def jo_ (a0:ab_) (a1:(List ak_)):Option (Int×Int×Unit) :=
 ((et_ a0 a1).bind λv0 =>
 (cond (v0.1 != 0)
 (some (0,(v0.1,())))
 ((mx_ a0 a1).bind λv1 =>
 (some ((v1.1.length:Int),(0,()))))))
theorem x_203:aw_ (P:=prog) (cxC [c_233,c_234] []) .z 203 [al_,(.list ap_)] [.int,.int]=λx=>jo_ x.1 x.2.1:=by kernel_rfl
noncomputable def c_203:Con prog:=ax_ _ _ 203 [al_,(.list ap_)] [.int,.int] _ x_203
noncomputable def jq_ (a0:ab_) (a1:ak_) (a2:(List Int)):Option (Bool×Int×Unit) :=
 ((fy_ a0 a1).bind λv0 =>
 (cond (v0.1 != 0)
 (some (false,(v0.1,())))
 ((ea_ a0 a2).bind λv1 =>
 (cond (v1.1 != 0)
 (some (false,(v1.1,())))
 ((fw_ a1 a2).bind λv2 =>
 (some (v2.1,(0,()))))))))
theorem x_183:aw_ (P:=prog) (cxC [c_133,c_222,c_223] []) .z 183 [al_,ap_,(.list .int)] [.bool,.int]=λx=>jq_ x.1 x.2.1 x.2.2.1:=by kernel_rfl
noncomputable def c_183:Con prog:=ax_ _ _ 183 [al_,ap_,(.list .int)] [.bool,.int] _ x_183
noncomputable def io_ (a0:ae_):Option (ai_×Int×Unit) :=
 ((fj_ a0).bind λv0 =>
 (cond (v0.1 != 0)
 (some (([],([],[])),(v0.1,())))
 ((mk? (α:=Int) a0.2.2.2.2.2.2.1 0).bind λv1 =>
 ((af_ (ρ:=(((List Int)×Unit)×Unit)) (λ(v2:(Int×(((List Int)×Unit)×Unit))) =>
 (cond (decide (v2.1<(a0.2.1.length:Int)))
 ((at? a0.2.1 v2.1).bind λv3 =>
 ((push? (α:=Int) v2.2.1.1 [v3.2.2.2]).bind λv4 =>
 (some (inl ((w64 (v2.1+1)),((v4,()),()))))))
 (some (inr ((v2.2.1.1,()),()))))) (0,(([],()),()))).bind λv5 =>
 ((af_ (ρ:=(((List Int)×Unit)×Unit)) (λ(v6:(Int×(((List Int)×Unit)×Unit))) =>
 (cond (decide (v6.1<(a0.2.2.1.length:Int)))
 ((at? a0.2.2.1 v6.1).bind λv7 =>
 ((push? (α:=Int) v6.2.1.1 [v7.2.1]).bind λv8 =>
 (some (inl ((w64 (v6.1+1)),((v8,()),()))))))
 (some (inr ((v6.2.1.1,()),()))))) (0,(([],()),()))).bind λv9 =>
 ((push? (α:=Int) [] v5.1.1).bind λv10 =>
 ((push? (α:=Int) [] v9.1.1).bind λv11 =>
 ((push? (α:=Int) [] v1).bind λv12 =>
 ((((af_ (ρ:=(((List Int)×Unit)⊕(Bool×((List Int)×Unit)))) (λ(v13:(Int×((List Int)×Unit))) =>
 (cond (decide (v13.1<101))
 ((((af_ (ρ:=(Unit⊕(Int×Unit))) (λ(v14:(Int×Unit)) =>
 (cond (decide (v14.1<(a0.2.2.2.2.2.1.length:Int)))
 ((at? a0.2.2.2.2.2.1 v14.1).bind λv15 =>
 ((((at? v13.2.1 v15.2.1).bind λv16 =>
 ((at? v13.2.1 v15.2.1).bind λv17 =>
 (cond (v17 != v15.2.2)
 ((bc_ (a0,(v13.2.1,(v11,v12))) v15.1).bind λv18 =>
 (some (v18.1,())))
 (some (false,())))))).bind λv19 =>
 (cond v19.1
 (some (inr (inr (v14.1,()))))
 (some (inl ((w64 (v14.1+1)),()))))))
 (some (inr (inl ()))))) (0,())).bind λv20 =>
 (cg_ v20 (λv21=>(some ((-1),())))
 (λv22=>(some v22))))).bind λv23 =>
 (cond (decide (v23.1<0))
 (some (inr (inr ((!true),(v13.2.1,())))))
 ((at? a0.2.2.2.2.2.1 v23.1).bind λv24 =>
 ((at? a0.2.2.2.2.2.1 v23.1).bind λv25 =>
 ((at? v13.2.1 v24.2.1).bind λv26 =>
 ((at? v13.2.1 v24.2.1).bind λv27 =>
 (some (inl ((w64 (v13.1+1)),((v13.2.1.set v24.2.1.toNat v25.2.2),()))))))))))
 (some (inr (inl (v13.2.1,())))))) (0,(v10,()))).bind λv28 =>
 (cg_ v28 (λv29=>(some ((!false),(v29.1,()))))
 (λv30=>(some v30))))).bind λv31 =>
 (cond v31.1
 (some (([],([],[])),(27,())))
 (some ((v31.2.1,(v11,v12)),(0,())))))))))))))
theorem x_101:aw_ (P:=prog) (cxI (λk=>cond (Nat.beq k 137) (.p .z (.p (.j0 [.v 6 .bool,.o (.c (.s 0) 8) .int] .z .z) .z)) (cond (Nat.beq k 185) (.p .z (.p (.p .z (.ls [.v 4 .int] [] [.o (.c (.s 0) 8) .int] 0 (.p .z (.p .z (.p (.j0 [.v 3 .int] .z .z) .z))))) .z)) (cond (Nat.beq k 224) (.p .z (.p (.p .z (.ls [.v 8 .int] [] [] 0 .z)) .z)) (cond (Nat.beq k 225) (.p .z (.j0 [.v 3 .bool] .z .z)) (.z))))) (λk=>Nat.beq k 130||Nat.beq k 131||Nat.beq k 140||false) (cxC [cb1,c_131] [xs_]) 6) (.p .z (.p .z (.p .z (.p (.p .z (.lp [.v 23 .int] [] [.b (.s 5) [.row .int 3,.keep,.keep]] 0 .z)) (.p (.p .z (.lp [.v 38 .int] [] [.b (.s 5) [.keep,.row .int 3,.keep]] 2 .z)) .z))))) 101 [an_] [aq_,.int]=λx=>io_ x.1:=by kernel_rfl
noncomputable def c_101:Con prog:=ax_ _ _ 101 [an_] [aq_,.int] _ x_101
noncomputable def bx_ (a0:ae_) (a1:ai_):Option (Int×Unit) :=
 ((fj_ a0).bind λv0 =>
 (cond (v0.1 != 0)
 (some (v0.1,()))
 (((cond ((a1.1.length:Int) != (a0.2.1.length:Int))
 (some (true,()))
 (cond ((a1.2.1.length:Int) != (a0.2.2.1.length:Int))
 (some (true,()))
 (some (((a1.2.2.length:Int) != a0.2.2.2.2.2.2.1),()))))).bind λv1 =>
 (cond v1.1
 (some (28,()))
 ((af_ (ρ:=(Unit⊕(Int×Unit))) (λ(v2:(Int×Unit)) =>
 (cond (decide (v2.1<(a1.1.length:Int)))
 ((at? a1.1 v2.1).bind λv3 =>
 ((ff_ a0 v2.1 v3).bind λv4 =>
 (cond (!v4.1)
 (some (inr (inr (28,()))))
 (some (inl ((w64 (v2.1+1)),()))))))
 (some (inr (inl ()))))) (0,())).bind λv5 =>
 (cg_ v5 (λv6=>((af_ (ρ:=(Unit⊕(Int×Unit))) (λ(v8:(Int×Unit)) =>
 (cond (decide (v8.1<(a1.2.1.length:Int)))
 ((at? a1.2.1 v8.1).bind λv9 =>
 ((be_ v9 (w64 ((w64 ((-2) - a0.2.2.2.2.2.2.1))+1)) (w64 ((a0.1.length:Int) - 1))).bind λv10 =>
 (cond (!v10.1)
 (some (inr (inr (28,()))))
 (some (inl ((w64 (v8.1+1)),()))))))
 (some (inr (inl ()))))) (0,())).bind λv11 =>
 (cg_ v11 (λv12=>((af_ (ρ:=(Unit⊕(Int×Unit))) (λ(v14:(Int×Unit)) =>
 (cond (decide (v14.1<(a1.2.2.length:Int)))
 ((at? a1.2.2 v14.1).bind λv15 =>
 ((be_ v15 0 (w64 ((a0.1.length:Int) - 1))).bind λv16 =>
 (cond (!v16.1)
 (some (inr (inr (28,()))))
 (some (inl ((w64 (v14.1+1)),()))))))
 (some (inr (inl ()))))) (0,())).bind λv17 =>
 (cg_ v17 (λv18=>(some (0,())))
 (λv19=>(some v19)))))
 (λv13=>(some v13)))))
 (λv7=>(some v7))))))))
theorem x_128:aw_ (P:=prog) (cxC [c_131,co5,ca9] []) (.p .z (.p .z (.p (.j0 [.v 40 .bool] .z .z) (.p (.p .z (.ls [.v 44 .int] [] [] 0 .z)) (.p (.p .z (.ls [.v 58 .int] [] [] 2 .z)) (.p (.p .z (.ls [.v 77 .int] [] [] 4 .z)) .z)))))) 128 [an_,aq_] [.int]=λx=>bx_ x.1 x.2.1:=by kernel_rfl
noncomputable def cb2:Con prog:=ax_ _ _ 128 [an_,aq_] [.int] _ x_128
noncomputable def db_ (a0:ab_) (a1:(List ak_)):Option (Int×Int×Unit) :=
 ((ev_ a0 a1).bind λv0 =>
 (cond (v0.1 != 0)
 (some (0,(v0.1,())))
 ((eu_ a0 a1).bind λv1 =>
 (some (v1.1,(0,()))))))
theorem x_231:aw_ (P:=prog) (cxC [c_251,c_252] []) .z 231 [al_,(.list ap_)] [.int,.int]=λx=>db_ x.1 x.2.1:=by kernel_rfl
noncomputable def c_231:Con prog:=ax_ _ _ 231 [al_,(.list ap_)] [.int,.int] _ x_231
end
end Go.Proofs.YtgeehfnbhbibeaaGreatDoor.Rx
namespace Go.Proofs.YtgeehfnbhbibeaaGreatDoor.Rx
open Go Pad Rex Sum
section
theorem jw_ {α ρ:Type} {p:Nat→α→Option ρ} {e:ρ} (h:∀ i x,p i x≠some e):∀ (l:List α) (i:Nat),gb_ p i l≠some e
 | [],_=>by simp[gb_]
 | x::l,i=>by
  unfold gb_
  cases hp:p i x with
  | some r =>
   intro he
   cases he
   exact h i x hp
  | none=>exact jw_ h l (i+1)
theorem gg_ {o:Option Int} {k:Int} (h:o.getD k=0) (hn:o≠some 0):o=none∧k=0:=by
 cases o with
 | none=>exact⟨rfl,h⟩
 | some e =>
  have:e=0:=h
  subst this
  exact absurd rfl hn
theorem xn_ {a:Bool} {e:Int} (h:e≠0):km_ a e≠some 0:=by
 unfold km_
 cases a with
 | true=>simp
 | false=>simpa using h
theorem xm_ {a b:Bool} {e f:Int} (h:e≠0) (k:f≠0):sp_ a e b f≠some 0:=by
 unfold sp_
 cases a with
 | false=>simpa using h
 | true =>
  cases b with
  | true=>simp
  | false=>simpa using k
theorem kl_ {a:Bool} {e:Int} (h:km_ a e=none):a=true:=by cases a with
 | true=>rfl
 | false=>cases h
theorem oi_ {a b:Bool} {e f:Int} (h:sp_ a e b f=none):a=true∧b=true:=by
 cases a with
 | false=>cases h
 | true=>cases b with
  | true=>exact⟨rfl,rfl⟩
  | false=>cases h
theorem df_ {α ρ:Type} {p:Nat→α→Option ρ} {l:List α} (h:gb_ p 0 l=none) {i:Nat} {x:α} (hx:l[i]?=some x):p i x=none:=by
 have:=(il_ l 0).1 h i x hx
 rwa [b0_] at this
structure OkR (r:ae_):Prop where
 many:ad4 r=false
 pl:∀ (i:Nat) x,r.1[i]?=some x→plOk r i x=true
 ne:r.1≠[]
 th:∀ (i:Nat) x,r.2.1[i]?=some x→bl9 r i x=true
 pr:∀ (i:Nat) x,r.2.2.1[i]?=some x→ci5 r i x=true∧cOk r.2.1 x.2.2=true
 wy:∀ (i:Nat) x,r.2.2.2.1[i]?=some x→ce0 r x=true∧cOk r.2.1 x.2.2=true
 ac:∀ (i:Nat) x,r.2.2.2.2.1[i]?=some x→up_ r i x=true∧cOk r.2.1 x.2.2.2.2.1=true
 au:∀ (i:Nat) x,r.2.2.2.2.2.1[i]?=some x→nk_ r.2.1 x.2.1 x.2.2=true∧cOk r.2.1 x.1=true
 py:wi r.2.2.2.2.2.2.1 1 4=true
 go:cOk r.2.1 r.2.2.2.2.2.2.2=true
theorem bn_ {r:ae_} (h:da_ r=0):OkR r:=by
 unfold da_ at h
 cases hm:ad4 r with
 | true=>rw[hm] at h;exact absurd (show (2:Int)=0 from h) (by decide)
 | false =>
 rw[hm] at h
 have h:(gb_ (λi x=>km_ (plOk r i x) 22) 0 r.1).getD _=0:=h
 obtain⟨h1,h⟩:=gg_ h (jw_ (λi x=>xn_ (by decide)) _ _)
 cases he:(r.1.length:Int)==0 with
 | true=>rw[he] at h;exact absurd (show (22:Int)=0 from h) (by decide)
 | false =>
 rw[he] at h
 have h:(gb_ (λi x=>km_ (bl9 r i x) 21) 0 r.2.1).getD _=0:=h
 obtain⟨h2,h⟩:=gg_ h (jw_ (λi x=>xn_ (by decide)) _ _)
 obtain⟨h3,h⟩:=gg_ h (jw_ (λi x=>xm_ (by decide) (by decide)) _ _)
 obtain⟨h4,h⟩:=gg_ h (jw_ (λi x=>xm_ (by decide) (by decide)) _ _)
 obtain⟨h5,h⟩:=gg_ h (jw_ (λi x=>xm_ (by decide) (by decide)) _ _)
 obtain⟨h6,h⟩:=gg_ h (jw_ (λi x=>xm_ (by decide) (by decide)) _ _)
 cases h7:wi r.2.2.2.2.2.2.1 1 4 with
 | false=>rw[h7] at h;exact absurd (show (1:Int)=0 from h) (by decide)
 | true =>
 rw[h7] at h
 cases h8:cOk r.2.1 r.2.2.2.2.2.2.2 with
 | false=>rw[h8] at h;exact absurd (show (25:Int)=0 from h) (by decide)
 | true =>
 refine⟨hm,λi x hx=>kl_ (df_ h1 hx),λe => ?_,λi x hx=>kl_ (df_ h2 hx),λi x hx=>oi_ (df_ h3 hx),λi x hx=>oi_ (df_ h4 hx),λi x hx=>oi_ (df_ h5 hx),λi x hx=>oi_ (df_ h6 hx),h7,h8⟩
 rw[e] at he
 cases he
def inR (r:ae_) (p:Int):Bool:=wi p (w64 ((w64 ((-2) - r.2.2.2.2.2.2.1))+1)) (w64 ((r.1.length:Int) - 1))
def ad6 (r:ae_) (s:ai_):Bool:=((s.1.length:Int) != (r.2.1.length:Int))||(((s.2.1.length:Int) != (r.2.2.1.length:Int))||((s.2.2.length:Int) != r.2.2.2.2.2.2.1))
def ckS (r:ae_) (s:ai_):Int :=
 cond (ad6 r s) 28 ((gb_ (λi n=>km_ (nk_ r.2.1 (i:Int) n) 28) 0 s.1).getD ((gb_ (λ_ p=>km_ (inR r p) 28) 0 s.2.1).getD ((gb_ (λ_ p=>km_ (ry_ r p) 28) 0 s.2.2).getD 0)))
def nc_ (r:ae_) (s:ai_):Int:=cond (da_ r != 0) (da_ r) (ckS r s)
theorem bv0 (r:ae_) (s:ai_):(cond ((s.1.length:Int) != (r.2.1.length:Int))
 (some (true,()))
 (cond ((s.2.1.length:Int) != (r.2.2.1.length:Int))
 (some (true,()))
 (some (((s.2.2.length:Int) != r.2.2.2.2.2.2.1),()))))=some (ad6 r s,()):=by
  unfold ad6
  cases (s.1.length:Int) != (r.2.1.length:Int) with
  | true=>rfl
  | false =>
  cases (s.2.1.length:Int) != (r.2.2.1.length:Int) with
  | true=>rfl
  | false=>rfl
theorem ba6 {r:ae_} {s:ai_} (h:ad6 r s=false):s.1.length=r.2.1.length∧s.2.1.length=r.2.2.1.length∧(s.2.2.length:Int)=r.2.2.2.2.2.2.1:=by
 unfold ad6 at h
 simp only[c0_,bne_eq_false_iff_eq] at h
 omega
theorem fb_ {r:ae_} (h:SmR r) (s:ai_):bx_ r s=some (nc_ r s,()):=by
 unfold bx_ nc_
 rw[st_ h,a0_]
 cases hr:da_ r != 0 with
 | true=>rfl
 | false =>
 have ok:=bn_ (by simpa using hr)
 simp only[a2_]
 refine e5_ (congrArg (λo=>Option.bind o _) (bv0 r s)) ?_
 rw[a0_]
 unfold ckS
 cases hl:ad6 r s with
 | true=>rfl
 | false =>
 obtain⟨l1,l2,l3⟩:=ba6 hl
 have hp:=ce_.1 ok.py
 have m1:Sm s.1.length:=by rw[l1];exact h.th
 have m2:Sm s.2.1.length:=by rw[l2];exact h.pr
 have m3:Sm s.2.2.length:=by show s.2.2.length≤1000000000;omega
 simp only[a2_]
 refine bu_ s.1 (λi n=>km_ (nk_ r.2.1 (i:Int) n) 28) (λi y hy => ?_) ?_ (en_ ?_)
 ·have hi:=am_ hy
  simp only[dlt hi,a5_,ah_ hy,a0_,az_ (show Sm i by omega),pj_ h.th]
  unfold km_
  cases nk_ r.2.1 (i:Int) y<;>rfl
 ·simp only[dnl,a2_]
 refine bu_ s.2.1 (λ_ p=>km_ (inR r p) 28) (λi y hy => ?_) ?_ (en_ ?_)
 ·have hi:=am_ hy
  simp only[dlt hi,a5_,ah_ hy,a0_,az_ (show Sm i by omega),dw_]
  unfold km_ inR
  cases wi y (w64 ((w64 ((-2) - r.2.2.2.2.2.2.1))+1)) (w64 ((r.1.length:Int) - 1))<;>rfl
 ·simp only[dnl,a2_]
 refine bu_ s.2.2 (λ_ p=>km_ (ry_ r p) 28) (λi y hy => ?_) ?_ (en_ ?_)
 ·have hi:=am_ hy
  simp only[dlt hi,a5_,ah_ hy,a0_,az_ (show Sm i by omega),dw_]
  unfold km_ ry_
  cases wi y 0 (w64 ((r.1.length:Int) - 1))<;>rfl
 ·simp only[dnl,a2_]
 rfl
theorem ct3 {r:ae_} (h:SmR r) (hp:wi r.2.2.2.2.2.2.1 1 4=true) (p:Int):inR r p=(ry_ r p||(p==-1||wi p (w64 ((w64 ((-2) - r.2.2.2.2.2.2.1))+1)) (-2))):=by
 have hp:=ce_.1 hp
 have hpl:=h.pl
 have e1:w64 ((r.1.length:Int) - 1)=(r.1.length:Int) - 1:=ez_ (by omega) (by omega)
 have e2:w64 ((-2) - r.2.2.2.2.2.2.1)=(-2) - r.2.2.2.2.2.2.1:=ez_ (by omega) (by omega)
 have e3:w64 (((-2) - r.2.2.2.2.2.2.1)+1)=((-2) - r.2.2.2.2.2.2.1)+1:=ez_ (by omega) (by omega)
 unfold inR ry_
 rw[e1,e2,e3,k6_]
 simp only[c8_,ce_,f5_]
 omega
theorem ui_ {r:ae_} (h:SmR r) (s:ai_):es_ r s=some (nc_ r s,()):=by
 unfold es_ nc_
 rw[qo_ h,a0_]
 cases hr:da_ r != 0 with
 | true=>rfl
 | false =>
 have ok:=bn_ (by simpa using hr)
 simp only[a2_]
 refine e5_ (congrArg (λo=>Option.bind o _) (bv0 r s)) ?_
 rw[a0_]
 unfold ckS
 cases hl:ad6 r s with
 | true=>rfl
 | false =>
 obtain⟨l1,l2,l3⟩:=ba6 hl
 have hp:=ce_.1 ok.py
 have m1:Sm s.1.length:=by rw[l1];exact h.th
 have m2:Sm s.2.1.length:=by rw[l2];exact h.pr
 have m3:Sm s.2.2.length:=by show s.2.2.length≤1000000000;omega
 simp only[a2_]
 refine bu_ s.1 (λi n=>km_ (nk_ r.2.1 (i:Int) n) 28) (λi y hy => ?_) ?_ (en_ ?_)
 ·have hi:=am_ hy
  simp only[dlt hi,a5_,ah_ hy,a0_,az_ (show Sm i by omega),rn_ h.th]
  unfold km_
  cases nk_ r.2.1 (i:Int) y<;>rfl
 ·simp only[dnl,a2_]
 refine bu_ s.2.1 (λ_ p=>km_ (inR r p) 28) (λi y hy => ?_) ?_ (en_ ?_)
 ·have hi:=am_ hy
  simp only[dlt hi,a5_,ah_ hy,a0_,az_ (show Sm i by omega),hx_,fn_]
  rw[ct3 h ok.py]
  unfold km_ ry_
  have e:(y != -1) = !(y==-1):=rfl
  rw[e]
  cases wi y 0 (w64 ((r.1.length:Int) - 1)) with
  | true=>rfl
  | false =>
  cases y==-1 with
  | true=>rfl
  | false=>cases wi y (w64 ((w64 ((-2) - r.2.2.2.2.2.2.1))+1)) (-2)<;>rfl
 ·simp only[dnl,a2_]
 refine bu_ s.2.2 (λ_ p=>km_ (ry_ r p) 28) (λi y hy => ?_) ?_ (en_ ?_)
 ·have hi:=am_ hy
  simp only[dlt hi,a5_,ah_ hy,a0_,az_ (show Sm i by omega),hx_]
  unfold km_ ry_
  cases wi y 0 (w64 ((r.1.length:Int) - 1))<;>rfl
 ·simp only[dnl,a2_]
 rfl
end
section
def gi (l:List Int) (i:Int):Int:=(at? l i).getD 0
theorem jf_ {l:List Int} {i x:Int} (h:at? l i=some x):gi l i=x:=by unfold gi;rw[h];rfl
theorem nd_ {l:List Int} {i:Int} (h0:0≤i) (h1:i<l.length):at? l i=some (gi l i):=by
 obtain⟨x,hx⟩:=bb_ (l:=l) (i:=i.toNat) (by omega)
 have:at? l i=some x:=by rw[show i=((i.toNat:Nat):Int) by omega];exact ah_ hx
 rw[this,jf_ this]
def InC (n:Nat) (c:List bg_):Prop:=∀ l ∈ c,0≤l.1∧l.1<n
theorem sk_ {things:List gw_} (hl:Sm things.length) {c:List bg_} (h:cOk things c=true):InC things.length c∧c.length≤8:=by
 unfold cOk at h
 rw[a1_] at h
 refine⟨λl hm => ?_,by have:=g0_ h.1;omega⟩
 have h2:=f0_.1 h.2 l hm
 unfold nk_ at h2
 rw[a1_] at h2
 have:=ce_.1 h2.1
 rw[ez_ (by omega) (by omega)] at this
 omega
def dm_ (th:List Int) (c:List bg_):Bool:=c.all λl=>!((gi th l.1==l.2.1)==l.2.2)
theorem cc7 {α:Type} (l:List α) (q:α→Bool):(!(l.any q))=l.all λx=>!(q x):=by
 induction l with
 | nil=>rfl
 | cons x l ih =>
  rw[o7_,List.all_cons,← ih]
  cases q x<;>rfl
theorem ml_ {t:hf_} {c:List bg_} (hc:Sm c.length) (hi:InC t.2.1.length c):bc_ t c=some (dm_ t.2.1 c,()):=by
 unfold bc_ dm_
 refine e5_ (congrArg (λo=>Option.bind o _) (on_ hc (λl=>(gi t.2.1 l.1==l.2.1)==l.2.2) (λi y hy => ?_) ?_)) ?_
 ·have:=hi y (au_ hy)
  simp only[dlt (am_ hy),a5_,ah_ hy,nd_ this.1 this.2,a0_]
  cases (gi t.2.1 y.1==y.2.1)==y.2.2<;>rfl
 ·simp only[dnl,a2_]
 ·rw[a0_]
  exact congrArg (λb=>some (b,())) (cc7 c _)
theorem hj_ {s:ai_} {c:List bg_} (hc:Sm c.length) (hi:InC s.1.length c):bl_ s c=some (dm_ s.1 c,()):=by
 unfold bl_ dm_
 refine bo_ c (λi l=>cond ((gi s.1 l.1==l.2.1)==l.2.2) (some (inr (false,()):Unit⊕(Bool×Unit))) none) (λi=>((i:Int),())) (r0:=inl ()) (λi y hy => ?_) ?_ ?_
 ·have:=hi y (au_ hy)
  have hl:=am_ hy
  simp only[dlt hl,a5_,ah_ hy,nd_ this.1 this.2,a0_,az_ (show Sm i by omega)]
  cases (gi s.1 y.1==y.2.1)==y.2.2<;>rfl
 ·simp only[dnl,a2_]
 ·rw[hh_ (q:=λl:bg_=>(gi s.1 l.1==l.2.1)==l.2.2),← cc7]
  cases c.any λl=>(gi s.1 l.1==l.2.1)==l.2.2<;>rfl
end
end Go.Proofs.YtgeehfnbhbibeaaGreatDoor.Rx
namespace Go.Proofs.YtgeehfnbhbibeaaGreatDoor.Rx
open Go Pad Rex Go.Proofs Go.Proofs.Tryz Sum
section
set_option maxRecDepth 100000
set_option maxHeartbeats 0
noncomputable def ig_ (a0:ae_) (a1:ai_):Option (ai_×Int×Unit) :=
 ((es_ a0 a1).bind λv0 =>
 (cond (v0.1 != 0)
 (some (([],([],[])),(v0.1,())))
 ((gh_ a0 a1).bind λv1 =>
 (cond (!v1.2.1)
 (some (([],([],[])),(27,())))
 (some (v1.1,(0,())))))))
theorem x_121:aw_ (P:=prog) (cxC [c_126,c_158] []) .z 121 [an_,aq_] [aq_,.int]=λx=>ig_ x.1 x.2.1:=by kernel_rfl
noncomputable def c_121:Con prog:=ax_ _ _ 121 [an_,aq_] [aq_,.int] _ x_121
noncomputable def iw_ (a0:ad_) (a1:Int) (a2:(List Int)):Option (Int×Unit) :=
 ((at? a0.2.1 a1).bind λv0 =>
 ((ji_ a0 a2).bind λv1 =>
 ((jo_ v0 v1.1).bind λv2 =>
 (some (v2.1,())))))
theorem x_160:aw_ (P:=prog) (cxC [c_203,c_204] []) (.p .z (.p (.q [] .z .z) .z)) 160 [ao_,.int,(.list .int)] [.int]=λx=>iw_ x.1 x.2.1 x.2.2.1:=by kernel_rfl
noncomputable def c_160:Con prog:=ax_ _ _ 160 [ao_,.int,(.list .int)] [.int] _ x_160
noncomputable def lh_ (a0:ad_) (a1:Int) (a2:co_):Option (Bool×Unit) :=
 ((sub? a0.2.2.2.1 0 a1).bind λv0 =>
 ((((af_ (ρ:=(Unit⊕(Bool×Unit))) (λ(v1:(Int×Unit)) =>
 (cond (decide (v1.1<(v0.length:Int)))
 ((at? v0 v1.1).bind λv2 =>
 (cond (v2.1==a2.1)
 (some (inr (inr ((decide (0≤v1.1)),()))))
 (some (inl ((w64 (v1.1+1)),())))))
 (some (inr (inl ()))))) (0,())).bind λv3 =>
 (cg_ v3 (λv4=>(some ((decide (0≤(-1))),())))
 (λv5=>(some v5))))).bind λv6 =>
 ((((my_ a2.1).bind λv7 =>
 (cond (!v7.1)
 (some (true,()))
 (cond (decide (12<(a2.1.length:Int)))
 (some (true,()))
 (cond v6.1
 (some (true,()))
 ((bz_ a2.2.1 0 (w64 ((a0.1.1.length:Int) - 1))).bind λv8 =>
 (cond (!v8.1)
 (some (true,()))
 ((bz_ a2.2.2.1 (-1) (w64 ((a0.2.1.length:Int) - 1))).bind λv9 =>
 (some ((!v9.1),())))))))))).bind λv10 =>
 (cond v10.1
 (some (false,()))
 (cond (decide (a2.2.2.1<0))
 ((ki_ a2.2.2.2.2).bind λv11 =>
 (some (v11.1,())))
 ((at? a0.2.1 a2.2.2.1).bind λv12 =>
 ((at? a0.2.2.1 a2.2.2.1).bind λv13 =>
 ((jq_ v12 a2.2.2.2.2 v13).bind λv14 =>
 (cond (v14.2.1==0)
 (some (v14.1,()))
 (some (false,())))))))))))
theorem x_134:aw_ (P:=prog) (cxI (λk=>cond (Nat.beq k 179) (.p .z (.j0 [.v 4 .bool] .z .z)) (cond (Nat.beq k 221) (.p .z (.p (.p .z (.ls [.v 8 .int] [] [] 0 .z)) .z)) (.z))) (λk=>Nat.beq k 136||Nat.beq k 181||Nat.beq k 182||Nat.beq k 183||false) (cxC [cb0,c_181,c_182,c_183] []) 4) (.p .z (.p .z (.p (.j0 [.v 49 .bool] .z .z) (.p .z (.p (.q [] .z .z) .z))))) 134 [ao_,.int,pc_] [.bool]=λx=>lh_ x.1 x.2.1 x.2.2.1:=by kernel_rfl
noncomputable def c_134:Con prog:=ax_ _ _ 134 [ao_,.int,pc_] [.bool] _ x_134
noncomputable def fi_ (a0:ae_) (a1:ai_) (a2:(List bg_)):Option (Bool×Int×Unit) :=
 ((bx_ a0 a1).bind λv0 =>
 (cond (v0.1 != 0)
 (some (false,(v0.1,())))
 ((dt_ a0 a2).bind λv1 =>
 (cond (!v1.1)
 (some (false,(25,())))
 ((push? (α:=Int) [] a1.1).bind λv2 =>
 ((push? (α:=Int) [] a1.2.1).bind λv3 =>
 ((push? (α:=Int) [] a1.2.2).bind λv4 =>
 ((bc_ (a0,(v2,(v3,v4))) a2).bind λv5 =>
 (some (v5.1,(0,())))))))))))
theorem x_138:aw_ (P:=prog) (cxI (λk=>.z) (λk=>Nat.beq k 128||Nat.beq k 130||Nat.beq k 140||Nat.beq k 175||false) (cxC [cb2,cb1,c_175] [xs_]) 2) .z 138 [an_,aq_,(.list ca_)] [.bool,.int]=λx=>fi_ x.1 x.2.1 x.2.2.1:=by kernel_rfl
noncomputable def c_138:Con prog:=ax_ _ _ 138 [an_,aq_,(.list ca_)] [.bool,.int] _ x_138
noncomputable def fh_ (a0:ae_) (a1:ai_):Option ((List ag_)×Int×Unit) :=
 ((bx_ a0 a1).bind λv0 =>
 (cond (v0.1 != 0)
 (some ([],(v0.1,())))
 ((push? (α:=Int) [] a1.1).bind λv1 =>
 ((push? (α:=Int) [] a1.2.1).bind λv2 =>
 ((push? (α:=Int) [] a1.2.2).bind λv3 =>
 ((af_ (ρ:=(Unit×(((List ag_)×Unit)×Unit))) (λ(v4:(Int×(Unit×(((List ag_)×Unit)×Unit)))) =>
 (cond (decide (v4.1<a0.2.2.2.2.2.2.1))
 ((af_ (ρ:=(Unit×(((List ag_)×Unit)×Unit))) (λ(v5:(Int×(Unit×(((List ag_)×Unit)×Unit)))) =>
 (cond (decide (v5.1<(([0,(a0.2.2.2.1.length:Int),(a0.2.2.1.length:Int),(a0.2.2.1.length:Int),(a0.2.2.2.2.1.length:Int)]).length:Int)))
 ((at? [0,(a0.2.2.2.1.length:Int),(a0.2.2.1.length:Int),(a0.2.2.1.length:Int),(a0.2.2.2.2.1.length:Int)] v5.1).bind λv6 =>
 ((at? [0,(a0.2.2.2.1.length:Int),(a0.2.2.1.length:Int),(a0.2.2.1.length:Int),(a0.2.2.2.2.1.length:Int)] v5.1).bind λv7 =>
 ((af_ (ρ:=(Unit×(((List ag_)×Unit)×Unit))) (λ(v8:(Int×(Unit×(((List ag_)×Unit)×Unit)))) =>
 (cond (decide (v8.1<v7))
 ((((cy_ (a0,(v1,(v2,v3))) (v4.1,(v5.1,v8.1))).bind λv9 =>
 (cond v9.1
 ((push? (α:=ag_) v8.2.2.1.1 [(v4.1,(v5.1,v8.1))]).bind λv10 =>
 (some ((),((v10,()),()))))
 (some ((),((v8.2.2.1.1,()),())))))).bind λv11 =>
 (some (inl ((w64 (v8.1+1)),((),((v11.2.1.1,()),()))))))
 (some (inr ((),((v8.2.2.1.1,()),())))))) (0,((),((v5.2.2.1.1,()),())))).bind λv12 =>
 (some (inl ((w64 (v5.1+1)),((),((v12.2.1.1,()),()))))))))
 (some (inr ((),((v5.2.2.1.1,()),())))))) (0,((),((v4.2.2.1.1,()),())))).bind λv13 =>
 (some (inl ((w64 (v4.1+1)),((),((v13.2.1.1,()),()))))))
 (some (inr ((),((v4.2.2.1.1,()),())))))) (0,((),(([],()),())))).bind λv14 =>
 (some (v14.2.1.1,(0,())))))))))
theorem x_106:aw_ (P:=prog) (cxI (λk=>cond (Nat.beq k 191) (.p .z (.lp [.v 9 .int] [] [.y (.s 0),.b (.y (.s 0) 4) [.row ar_ 61]] 0 (.p .z (.p .z (.p (.p .z (.p .z (.lp [.v 26 .int] [] [.y (.s 0),.b (.y (.s 0) 4) [.row ar_ 61]] 2 (.p .z (.p .z (.p (.p .z (.p .z (.lp [.v 32 .int] [] [.y (.s 0),.b (.y (.s 0) 4) [.row ar_ 61]] 4 (.p .z (.p .z (.j0 [.y (.s 0),.b (.y (.s 0) 4) [.row ar_ 61]] .z .z)))))) .z)))))) .z))))) (.z)) (λk=>Nat.beq k 128||Nat.beq k 140||Nat.beq k 146||false) (cxC [cb2,c_146] [xs_]) 6) (.p .z (.p .z (.p .z (.p (.p .z (.rf [4,7] .z .z)) .z)))) 106 [an_,aq_] [(.list ar_),.int]=λx=>fh_ x.1 x.2.1:=by kernel_rfl
noncomputable def c_106:Con prog:=ax_ _ _ 106 [an_,aq_] [(.list ar_),.int] _ x_106
noncomputable def fg_ (a0:ae_) (a1:ai_) (a2:ag_):Option (ai_×Int×Unit) :=
 ((bx_ a0 a1).bind λv0 =>
 (cond (v0.1 != 0)
 (some (([],([],[])),(v0.1,())))
 ((push? (α:=Int) [] a1.1).bind λv1 =>
 ((push? (α:=Int) [] a1.2.1).bind λv2 =>
 ((push? (α:=Int) [] a1.2.2).bind λv3 =>
 ((cy_ (a0,(v1,(v2,v3))) a2).bind λv4 =>
 (cond (!v4.1)
 (some (([],([],[])),(29,())))
 (((cond (a2.2.1==1)
 ((at? a0.2.2.2.1 a2.2.2).bind λv5 =>
 ((at? v3 a2.1).bind λv6 =>
 ((at? v3 a2.1).bind λv7 =>
 ((at? v3 a2.1).bind λv8 =>
 ((at? v3 a2.1).bind λv9 =>
 (some (v1,(v2,((v3.set a2.1.toNat (w64 ((w64 (v5.1+v5.2.1)) - v7))),())))))))))
 (cond (a2.2.1==2)
 ((at? v2 a2.2.2).bind λv10 =>
 ((at? v2 a2.2.2).bind λv11 =>
 (some (v1,((v2.set a2.2.2.toNat (w64 ((-2) - a2.1))),(v3,()))))))
 (cond (a2.2.1==3)
 ((at? v3 a2.1).bind λv12 =>
 ((at? v3 a2.1).bind λv13 =>
 ((at? v2 a2.2.2).bind λv14 =>
 ((at? v2 a2.2.2).bind λv15 =>
 (some (v1,((v2.set a2.2.2.toNat v13),(v3,()))))))))
 (cond (a2.2.1==4)
 ((at? a0.2.2.2.2.1 a2.2.2).bind λv16 =>
 ((af_ (ρ:=((List Int)×Unit)) (λ(v17:(Int×((List Int)×Unit))) =>
 (cond (decide (v17.1<(v16.2.2.2.2.2.2.1.length:Int)))
 ((at? v16.2.2.2.2.2.2.1 v17.1).bind λv18 =>
 ((at? v17.2.1 v18).bind λv19 =>
 ((at? v17.2.1 v18).bind λv20 =>
 (some (inl ((w64 (v17.1+1)),((v17.2.1.set v18.toNat (-1)),())))))))
 (some (inr (v17.2.1,()))))) (0,(v2,()))).bind λv21 =>
 ((af_ (ρ:=((List Int)×Unit)) (λ(v22:(Int×((List Int)×Unit))) =>
 (cond (decide (v22.1<(v16.2.2.2.2.2.2.2.length:Int)))
 ((at? v16.2.2.2.2.2.2.2 v22.1).bind λv23 =>
 ((at? v22.2.1 v23).bind λv24 =>
 ((at? v22.2.1 v23).bind λv25 =>
 (some (inl ((w64 (v22.1+1)),((v22.2.1.set v23.toNat (w64 ((-2) - a2.1))),())))))))
 (some (inr (v22.2.1,()))))) (0,(v21.1,()))).bind λv26 =>
 ((af_ (ρ:=((List Int)×Unit)) (λ(v27:(Int×((List Int)×Unit))) =>
 (cond (decide (v27.1<(v16.2.2.2.2.2.1.length:Int)))
 ((at? v16.2.2.2.2.2.1 v27.1).bind λv28 =>
 ((at? v27.2.1 v28.1).bind λv29 =>
 ((at? v27.2.1 v28.1).bind λv30 =>
 (some (inl ((w64 (v27.1+1)),((v27.2.1.set v28.1.toNat v28.2),())))))))
 (some (inr (v27.2.1,()))))) (0,(v1,()))).bind λv31 =>
 (some (v31.1,(v26.1,(v3,()))))))))
 (some (v1,(v2,(v3,()))))))))).bind λv32 =>
 ((((af_ (ρ:=(((List Int)×Unit)⊕(Bool×((List Int)×Unit)))) (λ(v33:(Int×((List Int)×Unit))) =>
 (cond (decide (v33.1<101))
 ((((af_ (ρ:=(Unit⊕(Int×Unit))) (λ(v34:(Int×Unit)) =>
 (cond (decide (v34.1<(a0.2.2.2.2.2.1.length:Int)))
 ((at? a0.2.2.2.2.2.1 v34.1).bind λv35 =>
 ((((at? v33.2.1 v35.2.1).bind λv36 =>
 ((at? v33.2.1 v35.2.1).bind λv37 =>
 (cond (v37 != v35.2.2)
 ((bc_ (a0,(v33.2.1,(v32.2.1,v32.2.2.1))) v35.1).bind λv38 =>
 (some (v38.1,())))
 (some (false,())))))).bind λv39 =>
 (cond v39.1
 (some (inr (inr (v34.1,()))))
 (some (inl ((w64 (v34.1+1)),()))))))
 (some (inr (inl ()))))) (0,())).bind λv40 =>
 (cg_ v40 (λv41=>(some ((-1),())))
 (λv42=>(some v42))))).bind λv43 =>
 (cond (decide (v43.1<0))
 (some (inr (inr ((!true),(v33.2.1,())))))
 ((at? a0.2.2.2.2.2.1 v43.1).bind λv44 =>
 ((at? a0.2.2.2.2.2.1 v43.1).bind λv45 =>
 ((at? v33.2.1 v44.2.1).bind λv46 =>
 ((at? v33.2.1 v44.2.1).bind λv47 =>
 (some (inl ((w64 (v33.1+1)),((v33.2.1.set v44.2.1.toNat v45.2.2),()))))))))))
 (some (inr (inl (v33.2.1,())))))) (0,(v32.1,()))).bind λv48 =>
 (cg_ v48 (λv49=>(some ((!false),(v49.1,()))))
 (λv50=>(some v50))))).bind λv51 =>
 (cond v51.1
 (some (([],([],[])),(27,())))
 (some ((v51.2.1,(v32.2.1,v32.2.2.1)),(0,())))))))))))))
theorem x_148:aw_ (P:=prog) (cxI (λk=>cond (Nat.beq k 137) (.p .z (.p (.j0 [.v 6 .bool,.o (.c (.s 0) 8) .int] .z .z) .z)) (cond (Nat.beq k 185) (.p .z (.p (.p .z (.ls [.v 4 .int] [] [.o (.c (.s 0) 8) .int] 0 (.p .z (.p .z (.p (.j0 [.v 3 .int] .z .z) .z))))) .z)) (cond (Nat.beq k 198) (.p .z (.p .z (.p .z (.p .z (.p .z (.p .z (.p .z (.p .z (.p .z (.p .z (.p (.p .z (.p (.p .z (.lp [.v 96 .int] [] [.o (.c (.s 0) 9) .int] 1 .z)) (.p (.p .z (.lp [.v 111 .int] [] [.o (.c (.s 0) 9) .int] 3 .z)) (.p .z (.lp [.v 127 .int] [] [.o (.c (.s 0) 8) .int] 5 .z))))) .z))))))))))) (cond (Nat.beq k 224) (.p .z (.p (.p .z (.ls [.v 8 .int] [] [] 0 .z)) .z)) (cond (Nat.beq k 225) (.p .z (.j0 [.v 3 .bool] .z .z)) (.z)))))) (λk=>Nat.beq k 128||Nat.beq k 130||Nat.beq k 140||Nat.beq k 146||false) (cxC [cb2,cb1,c_146] [xs_]) 7) (.p .z (.p .z (.p .z (.p .z (.j0 [.o (.c (.s 9) 8) .int,.o (.c (.s 9) 9) .int,.o (.c (.s 9) 10) .int] .z .z))))) 148 [an_,aq_,ar_] [aq_,.int]=λx=>fg_ x.1 x.2.1 x.2.2.1:=by kernel_rfl
noncomputable def c_148:Con prog:=ax_ _ _ 148 [an_,aq_,ar_] [aq_,.int] _ x_148
noncomputable abbrev qi_:Gb:=⟨Gb.ev,λc p=>cond (Nat.beq c 1019250704&&eqS p "room.go:184") true (cond (Nat.beq c 398465025&&eqS p "room.go:183") true (cond (Nat.beq c 130027520&&eqS p "room.go:183") true (Gb.fz c p))),Gb.gd,Gb.gl,λc=>cond (Nat.beq c 1019250704) (some fa_) (cond (Nat.beq c 398465025) (some aq_) (cond (Nat.beq c 130027520) (some an_) (none))),Gb.rw⟩
def an_99:An:=.z
def at_99:FuncId→An:=λk=>.z
noncomputable def cs_99:List (@Con qi_ prog _):=[@cvG instGb qi_ prog _ (λ_=>rfl) (λ_=>rfl) cb2,@cvG instGb qi_ prog _ (λ_=>rfl) (λ_=>rfl) cb1,@cpCon qi_ prog _ xs_]
noncomputable def cx_99:@Cx qi_ prog _:=@cxI qi_ prog _ at_99 (λk=>Nat.beq k 128||Nat.beq k 130||Nat.beq k 140||false) (@cxC qi_ prog _ cs_99 []) 2
noncomputable def ia_ (a0:ae_) (a1:ai_):Option (Bool×Int×Unit) :=
 ((bx_ a0 a1).bind λv0 =>
 (cond (v0.1 != 0)
 (some (false,(v0.1,())))
 ((((push? (α:=Int) [] a1.1).bind λv1 =>
 (some (v1,())))).bind λv2 =>
 ((((push? (α:=Int) [] a1.2.1).bind λv3 =>
 (some (v3,())))).bind λv4 =>
 ((((push? (α:=Int) [] a1.2.2).bind λv5 =>
 (some (v5,())))).bind λv6 =>
 ((bc_ (a0,(v2.1,(v4.1,v6.1))) a0.2.2.2.2.2.2.2).bind λv7 =>
 (some (v7.1,(0,())))))))))
theorem x_99:@aw_ qi_ prog _ cx_99 an_99 99 [an_,aq_] [.bool,.int]=λx=>ia_ x.1 x.2.1:=by kernel_rfl
noncomputable def c_99:Con prog:=@cvG qi_ instGb prog _ (λ_=>rfl) (λ_=>rfl) <| @ax_ qi_ prog _ _ _ 99 [an_,aq_] [.bool,.int] _ x_99
end
section
set_option maxRecDepth 100000
set_option maxHeartbeats 0
noncomputable def jm_ (a0:ae_):Option (ai_×Int×Unit) :=
 ((fs_ a0).bind λv0 =>
 (cond (v0.1 != 0)
 (some (([],([],[])),(v0.1,())))
 ((mk? (α:=Int) a0.2.2.2.2.2.2.1 0).bind λv1 =>
 ((af_ (ρ:=(((List Int)×Unit)×Unit)) (λ(v2:(Int×(((List Int)×Unit)×Unit))) =>
 (cond (decide (v2.1<(a0.2.1.length:Int)))
 ((at? a0.2.1 v2.1).bind λv3 =>
 ((push? (α:=Int) v2.2.1.1 [v3.2.2.2]).bind λv4 =>
 (some (inl ((w64 (v2.1+1)),((v4,()),()))))))
 (some (inr ((v2.2.1.1,()),()))))) (0,(([],()),()))).bind λv5 =>
 ((af_ (ρ:=(((List Int)×Unit)×Unit)) (λ(v6:(Int×(((List Int)×Unit)×Unit))) =>
 (cond (decide (v6.1<(a0.2.2.1.length:Int)))
 ((at? a0.2.2.1 v6.1).bind λv7 =>
 ((push? (α:=Int) v6.2.1.1 [v7.2.1]).bind λv8 =>
 (some (inl ((w64 (v6.1+1)),((v8,()),()))))))
 (some (inr ((v6.2.1.1,()),()))))) (0,(([],()),()))).bind λv9 =>
 ((ig_ a0 (v5.1.1,(v9.1.1,v1))).bind λv10 =>
 (some (v10.1,(v10.2.1,())))))))))
theorem x_92:aw_ (P:=prog) (cxC [c_52,c_121] []) (.p .z (.p .z (.p .z (.p .z (.p (.p .z (.lp [.v 6 .int] [] [.b (.s 5) [.row .int 3,.keep,.keep]] 0 .z)) (.p (.p .z (.lp [.v 7 .int] [] [.b (.s 5) [.keep,.row .int 3,.keep]] 2 .z)) .z)))))) 92 [an_] [aq_,.int]=λx=>jm_ x.1:=by kernel_rfl
noncomputable def c_92:Con prog:=ax_ _ _ 92 [an_] [aq_,.int] _ x_92
noncomputable def lb_ (a0:ad_) (a1:aa_) (a2:Int):Option (Bool×Unit) :=
 ((hl_ a0 a1 a2).bind λv0 =>
 ((iw_ a0 a2 v0.1).bind λv1 =>
 (some ((decide (v1.1≤a0.2.2.2.2)),()))))
theorem x_124:aw_ (P:=prog) (cxC [c_160,c_161] []) (.p .z (.p (.q [] .z .z) .z)) 124 [ao_,aj_,.int] [.bool]=λx=>lb_ x.1 x.2.1 x.2.2.1:=by kernel_rfl
noncomputable def c_124:Con prog:=ax_ _ _ 124 [ao_,aj_,.int] [.bool] _ x_124
noncomputable def hb_ (a0:ad_):Option (Int×Unit) :=
 ((fj_ a0.1).bind λv0 =>
 (cond (v0.1 != 0)
 (some (v0.1,()))
 (((cond (decide (8<(a0.2.1.length:Int)))
 (some (true,()))
 (some ((decide (16<(a0.2.2.2.1.length:Int))),())))).bind λv1 =>
 (cond v1.1
 (some (2,()))
 ((af_ (ρ:=(Unit⊕(Int×Unit))) (λ(v2:(Int×Unit)) =>
 (cond (decide (v2.1<(a0.2.1.length:Int)))
 ((at? a0.2.1 v2.1).bind λv3 =>
 ((eh_ v3).bind λv4 =>
 (cond (v4.1 != 0)
 (some (inr (inr (v4.1,()))))
 (some (inl ((w64 (v2.1+1)),()))))))
 (some (inr (inl ()))))) (0,())).bind λv5 =>
 (cg_ v5 (λv6=>(cond ((a0.2.2.1.length:Int) != (a0.2.1.length:Int))
 (some (12,()))
 ((af_ (ρ:=(Unit⊕(Int×Unit))) (λ(v8:(Int×Unit)) =>
 (cond (decide (v8.1<(a0.2.1.length:Int)))
 ((at? a0.2.1 v8.1).bind λv9 =>
 ((at? a0.2.2.1 v8.1).bind λv10 =>
 ((ea_ v9 v10).bind λv11 =>
 (cond (v11.1 != 0)
 (some (inr (inr (12,()))))
 (some (inl ((w64 (v8.1+1)),())))))))
 (some (inr (inl ()))))) (0,())).bind λv12 =>
 (cg_ v12 (λv13=>((af_ (ρ:=(Unit⊕(Int×Unit))) (λ(v15:(Int×Unit)) =>
 (cond (decide (v15.1<(a0.1.2.2.2.2.1.length:Int)))
 ((at? a0.1.2.2.2.2.1 v15.1).bind λv16 =>
 (cond (decide ((a0.2.1.length:Int)≤v16.2.2.1))
 (some (inr (inr (26,()))))
 (some (inl ((w64 (v15.1+1)),())))))
 (some (inr (inl ()))))) (0,())).bind λv17 =>
 (cg_ v17 (λv18=>((af_ (ρ:=(Unit⊕(Int×Unit))) (λ(v20:(Int×Unit)) =>
 (cond (decide (v20.1<(a0.2.2.2.1.length:Int)))
 ((at? a0.2.2.2.1 v20.1).bind λv21 =>
 ((lh_ a0 v20.1 v21).bind λv22 =>
 (cond (!v22.1)
 (some (inr (inr (40,()))))
 ((lg_ a0.1 v21.2.2.2.1).bind λv23 =>
 (cond (!v23.1)
 (some (inr (inr (25,()))))
 (some (inl ((w64 (v20.1+1)),()))))))))
 (some (inr (inl ()))))) (0,())).bind λv24 =>
 (cg_ v24 (λv25=>((bz_ a0.2.2.2.2 1 100).bind λv27 =>
 (cond (!v27.1)
 (some (1,()))
 (some (0,())))))
 (λv26=>(some v26)))))
 (λv19=>(some v19)))))
 (λv14=>(some v14))))))
 (λv7=>(some v7))))))))
theorem x_100:aw_ (P:=prog) (cxC [c_131,co7,c_133,c_134,c_135,cb0] []) (.p .z (.p .z (.p (.j0 [.v 28 .bool] .z .z) (.p (.p .z (.ls [.v 32 .int] [] [] 0 .z)) (.p .z (.p (.p .z (.ls [.v 52 .int] [] [] 2 .z)) (.p (.p .z (.ls [.v 70 .int] [] [] 4 .z)) (.p (.p .z (.ls [.v 84 .int] [] [] 6 .z)) .z)))))))) 100 [ao_] [.int]=λx=>hb_ x.1:=by kernel_rfl
noncomputable def c_100:Con prog:=ax_ _ _ 100 [ao_] [.int] _ x_100
end
section
set_option maxRecDepth 100000
set_option maxHeartbeats 0
noncomputable def jk_ (a0:ad_):Option (aa_×Int×Unit) :=
 ((hm_ a0).bind λv0 =>
 (cond (v0.1 != 0)
 (some ((([],([],[])),[]),(v0.1,())))
 ((jm_ a0.1).bind λv1 =>
 (cond (v1.2.1 != 0)
 (some ((([],([],[])),[]),(v1.2.1,())))
 ((mk? (α:=Bool) (a0.2.2.2.1.length:Int) false).bind λv2 =>
 ((ip_ a0 (v1.1,v2)).bind λv3 =>
 (some (v3.1,(0,())))))))))
theorem x_58:aw_ (P:=prog) (cxC [c_24,c_92,c_93] []) .z 58 [ao_] [aj_,.int]=λx=>jk_ x.1:=by kernel_rfl
noncomputable def c_58:Con prog:=ax_ _ _ 58 [ao_] [aj_,.int] _ x_58
noncomputable def gn_ (a0:ad_) (a1:aa_) (a2:ag_):Option (Bool×Unit) :=
 ((gi_ a0.1 a1.1 a2).bind λv0 =>
 (cond (!v0.2.1)
 (some (false,()))
 (cond (a2.2.1 != 4)
 (some (true,()))
 ((at? a0.1.2.2.2.2.1 a2.2.2).bind λv1 =>
 (cond (decide (v1.2.2.1<0))
 (some (true,()))
 ((at? a0.1.2.2.2.2.1 a2.2.2).bind λv2 =>
 ((lb_ a0 a1 v2.2.2.1).bind λv3 =>
 (some (v3.1,())))))))))
theorem x_96:aw_ (P:=prog) (cxC [c_97,c_124] []) (.p .z (.p .z (.p .z (.p (.q [] .z .z) .z)))) 96 [ao_,aj_,ar_] [.bool]=λx=>gn_ x.1 x.2.1 x.2.2.1:=by kernel_rfl
noncomputable def c_96:Con prog:=ax_ _ _ 96 [ao_,aj_,ar_] [.bool] _ x_96
noncomputable def li_ (a0:ad_):Option (aa_×Int×Unit) :=
 ((hb_ a0).bind λv0 =>
 (cond (v0.1 != 0)
 (some ((([],([],[])),[]),(v0.1,())))
 ((io_ a0.1).bind λv1 =>
 (cond (v1.2.1 != 0)
 (some ((([],([],[])),[]),(v1.2.1,())))
 ((mk? (α:=Bool) (a0.2.2.2.1.length:Int) false).bind λv2 =>
 ((af_ (ρ:=((List Bool)×((List ab_)×Unit))) (λ(v3:(Int×((List Bool)×((List ab_)×Unit)))) =>
 (cond (decide (v3.1<(a0.2.2.2.1.length:Int)))
 ((((at? a0.2.2.2.1 v3.1).bind λv4 =>
 ((fi_ a0.1 v1.1 v4.2.2.2.1).bind λv5 =>
 (((cond v5.1
 ((bj_ v1.1.2.2 v4.2.1).bind λv6 =>
 (cond v6.1
 ((at? v3.2.1 v3.1).bind λv7 =>
 ((at? v3.2.1 v3.1).bind λv8 =>
 (some ((!v8),()))))
 (some (false,()))))
 (some (false,())))).bind λv9 =>
 (cond v9.1
 ((at? v3.2.1 v3.1).bind λv10 =>
 ((at? v3.2.1 v3.1).bind λv11 =>
 (some ((v3.2.1.set v3.1.toNat true),((zg_ v3.2.2.1 v4.2.2.1),())))))
 (some (v3.2.1,(v3.2.2.1,())))))))).bind λv12 =>
 (some (inl ((w64 (v3.1+1)),(v12.1,(v12.2.1,()))))))
 (some (inr (v3.2.1,(v3.2.2.1,())))))) (0,(v2,([],())))).bind λv13 =>
 ((push? (α:=Int) [] v1.1.1).bind λv14 =>
 ((push? (α:=Int) [] v1.1.2.1).bind λv15 =>
 ((push? (α:=Int) [] v1.1.2.2).bind λv16 =>
 ((push? (α:=Bool) [] v13.1).bind λv17 =>
 (some (((v14,(v15,v16)),v17),(0,())))))))))))))
theorem x_69:aw_ (P:=prog) (cxI (λk=>cond (Nat.beq k 102) (.p .z (.lp [.v 12 .int] [] [.o (.c (.s 0) 15) .bool,.m (.c (.s 0) 16) .int .int] 0 (.p .z (.p .z (.j0 [.o (.c (.s 0) 15) .bool,.m (.c (.s 0) 16) .int .int] (.p .z (.p .z (.j0 [.v 55 .bool] .z .z))) .z))))) (.z)) (λk=>Nat.beq k 100||Nat.beq k 101||Nat.beq k 138||Nat.beq k 139||Nat.beq k 140||Nat.beq k 141||false) (cxC [c_100,c_101,c_138,co6] [xs_,bz6]) 3) .z 69 [ao_] [aj_,.int]=λx=>li_ x.1:=by kernel_rfl
noncomputable def c_69:Con prog:=ax_ _ _ 69 [ao_] [aj_,.int] _ x_69
noncomputable def ec_ (a0:ad_) (a1:aa_):Option (Int×Unit) :=
 ((hb_ a0).bind λv0 =>
 (cond (v0.1 != 0)
 (some (v0.1,()))
 ((bx_ a0.1 a1.1).bind λv1 =>
 (cond (v1.1 != 0)
 (some (v1.1,()))
 (cond ((a1.2.length:Int) != (a0.2.2.2.1.length:Int))
 (some (28,()))
 (some (0,())))))))
theorem x_144:aw_ (P:=prog) (cxC [c_100,cb2] []) .z 144 [ao_,aj_] [.int]=λx=>ec_ x.1 x.2.1:=by kernel_rfl
noncomputable def c_144:Con prog:=ax_ _ _ 144 [ao_,aj_] [.int] _ x_144
end
end Go.Proofs.YtgeehfnbhbibeaaGreatDoor.Rx
