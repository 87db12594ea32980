/- A part of the proof: what the functions of the program compute, shown over the model. -/
import Derived.Shelf.Small.Wraps
import Derived.Shelf.Strings.BuilderK
import Derived.Shelf.LaysM
import Derived.Shelf.Strconv.Itoa3
import Derived.Shelf.Bits.Mul64
import Derived.Test.YtfcgcpjnpdkjmaaGreatDoorProg
import Derived.KernelRfl
import Derived.Test.YtfcgcpjnpdkjmaaGreatDoorPart1
import Derived.Test.YtfcgcpjnpdkjmaaGreatDoorPart3
set_option linter.unusedSectionVars false
set_option linter.unusedVariables false
set_option linter.unusedSimpArgs false
namespace Go.Proofs
section
set_option maxRecDepth 100000
def Tryz.lays121_ren:Go.Shelf.Ren:=⟨fun | 121=>275 | 214=>292 | n=>n,fun | 4=>4 | 9=>9 | n=>n,fun | n=>n⟩
theorem Tryz.lays121:Go.Proofs.Lays.n121 Tryz.prog Tryz.lays121_ren:={
  mixed:=by kernel_rfl
  f121:=Tryz.func275.trans (congrArg some (by kernel_rfl))
  f214:=Tryz.func292.trans (congrArg some (by kernel_rfl))
  t4:=Tryz.underlying4
  a4:=Tryz.isAgg4
  z4:=Tryz.sizeOf4
  v4:=Tryz.zeroValue4
  t9:=Tryz.underlying9
  a9:=Tryz.isAgg9
  z9:=Tryz.sizeOf9
  v9:=Tryz.zeroValue9 }
def Tryz.lays169_ren:Go.Shelf.Ren:=⟨fun | 169=>274 | n=>n,fun | 70=>350 | 9=>9 | 0=>0 | 72=>353 | 37=>351 | 127=>372 | 3=>3 | 5=>5 | n=>n,fun | n=>n⟩
theorem Tryz.lays169:Go.Proofs.Lays.n169 Tryz.prog Tryz.lays169_ren:={
  mixed:=by kernel_rfl
  f169:=Tryz.func274.trans (congrArg some (by kernel_rfl))
  t0:=Tryz.underlying0
  a0:=Tryz.isAgg0
  z0:=Tryz.sizeOf0
  v0:=Tryz.zeroValue0
  t3:=Tryz.underlying3
  a3:=Tryz.isAgg3
  z3:=Tryz.sizeOf3
  v3:=Tryz.zeroValue3
  t9:=Tryz.underlying9
  a9:=Tryz.isAgg9
  z9:=Tryz.sizeOf9
  v9:=Tryz.zeroValue9
  t37:=Tryz.underlying351
  a37:=Tryz.isAgg351
  z37:=Tryz.sizeOf351
  v37:=Tryz.zeroValue351
  t70:=Tryz.underlying350
  a70:=Tryz.isAgg350
  z70:=Tryz.sizeOf350
  v70:=Tryz.zeroValue350
  t72:=Tryz.underlying353
  a72:=Tryz.isAgg353
  z72:=Tryz.sizeOf353
  v72:=Tryz.zeroValue353
  t127:=Tryz.underlying372
  a127:=Tryz.isAgg372
  z127:=Tryz.sizeOf372
  v127:=Tryz.zeroValue372 }
theorem Tryz.Builder_Extra_169:Builder.Extra Tryz.prog Tryz.lays169_ren:={
  sizeBuilder:=by kernel_rfl
  liesBuilder:=by kernel_rfl
  t5:=Tryz.underlying5
  a5:=Tryz.isAgg5
  z5:=Tryz.sizeOf5
  v5:=Tryz.zeroValue5
  infoByte:=by kernel_rfl
  cellsByte:=by kernel_rfl
  sizeByte:=by kernel_rfl
  neB5:=by decide }
def Tryz.laysM171_ren:Go.Shelf.Ren:=⟨fun | 171=>273 | 243=>291 | 246=>296 | 283=>298 | 284=>299 | 285=>300 | 286=>301 | 129=>303 | 317=>302 | 318=>304 | 319=>305 | 320=>306 | 337=>307 | 338=>308 | n=>n,fun | 3=>3 | 9=>9 | 2=>2 | 4=>4 | 171=>377 | 0=>0 | 53=>366 | 37=>351 | 5=>5 | 173=>380 | 212=>383 | 51=>363 | 20=>20 | 213=>384 | 46=>333 | 232=>387 | 233=>388 | n=>n,fun | 17=>1 | 18=>2 | 19=>3 | n=>n⟩
theorem Tryz.laysM171:Go.Proofs.LaysM.n171 Tryz.prog Tryz.laysM171_ren:={
  mixed:=by kernel_rfl
  f129:=Tryz.func303.trans (congrArg some (by kernel_rfl))
  f171:=Tryz.func273.trans (congrArg some (by kernel_rfl))
  f243:=Tryz.func291.trans (congrArg some (by kernel_rfl))
  f246:=Tryz.func296.trans (congrArg some (by kernel_rfl))
  f283:=Tryz.func298.trans (congrArg some (by kernel_rfl))
  f284:=Tryz.func299.trans (congrArg some (by kernel_rfl))
  f285:=Tryz.func300.trans (congrArg some (by kernel_rfl))
  f286:=Tryz.func301.trans (congrArg some (by kernel_rfl))
  f317:=Tryz.func302.trans (congrArg some (by kernel_rfl))
  f318:=Tryz.func304.trans (congrArg some (by kernel_rfl))
  f319:=Tryz.func305.trans (congrArg some (by kernel_rfl))
  f320:=Tryz.func306.trans (congrArg some (by kernel_rfl))
  f337:=Tryz.func307.trans (congrArg some (by kernel_rfl))
  f338:=Tryz.func308.trans (congrArg some (by kernel_rfl))
  t0:=Tryz.underlying0
  a0:=Tryz.isAgg0
  z0:=Tryz.sizeOf0
  v0:=Tryz.zeroValue0
  t2:=Tryz.underlying2
  a2:=Tryz.isAgg2
  z2:=Tryz.sizeOf2
  v2:=Tryz.zeroValue2
  t3:=Tryz.underlying3
  a3:=Tryz.isAgg3
  z3:=Tryz.sizeOf3
  v3:=Tryz.zeroValue3
  t4:=Tryz.underlying4
  a4:=Tryz.isAgg4
  z4:=Tryz.sizeOf4
  v4:=Tryz.zeroValue4
  t5:=Tryz.underlying5
  a5:=Tryz.isAgg5
  z5:=Tryz.sizeOf5
  v5:=Tryz.zeroValue5
  t9:=Tryz.underlying9
  a9:=Tryz.isAgg9
  z9:=Tryz.sizeOf9
  v9:=Tryz.zeroValue9
  t20:=Tryz.underlying20
  a20:=Tryz.isAgg20
  z20:=Tryz.sizeOf20
  v20:=Tryz.zeroValue20
  t37:=Tryz.underlying351
  a37:=Tryz.isAgg351
  z37:=Tryz.sizeOf351
  v37:=Tryz.zeroValue351
  t46:=Tryz.underlying333
  a46:=Tryz.isAgg333
  z46:=Tryz.sizeOf333
  v46:=Tryz.zeroValue333
  t51:=Tryz.underlying363
  a51:=Tryz.isAgg363
  z51:=Tryz.sizeOf363
  v51:=Tryz.zeroValue363
  t53:=Tryz.underlying366
  a53:=Tryz.isAgg366
  z53:=Tryz.sizeOf366
  v53:=Tryz.zeroValue366
  t171:=Tryz.underlying377
  a171:=Tryz.isAgg377
  z171:=Tryz.sizeOf377
  v171:=Tryz.zeroValue377
  t173:=Tryz.underlying380
  a173:=Tryz.isAgg380
  z173:=Tryz.sizeOf380
  v173:=Tryz.zeroValue380
  t212:=Tryz.underlying383
  a212:=Tryz.isAgg383
  z212:=Tryz.sizeOf383
  v212:=Tryz.zeroValue383
  t213:=Tryz.underlying384
  a213:=Tryz.isAgg384
  z213:=Tryz.sizeOf384
  t232:=Tryz.underlying387
  a232:=Tryz.isAgg387
  z232:=Tryz.sizeOf387
  v232:=Tryz.zeroValue387
  t233:=Tryz.underlying388
  a233:=Tryz.isAgg388
  z233:=Tryz.sizeOf388
  v233:=Tryz.zeroValue388
  g17:=by kernel_rfl
  g18:=by kernel_rfl
  g19:=by kernel_rfl
  i0:=by kernel_rfl
  i2:=by kernel_rfl
  i3:=by kernel_rfl
  i4:=by kernel_rfl
  i5:=by kernel_rfl
  i9:=by kernel_rfl
  i20:=by kernel_rfl
  i37:=by kernel_rfl
  i46:=by kernel_rfl
  i51:=by kernel_rfl
  i53:=by kernel_rfl
  i171:=by kernel_rfl
  i173:=by kernel_rfl
  i212:=by kernel_rfl
  i232:=by kernel_rfl
  i233:=by kernel_rfl
  m17:=by kernel_rfl
  m18:=by kernel_rfl
  m19:=by kernel_rfl }
def Tryz.lays166_ren:Go.Shelf.Ren:=⟨fun | 166=>272 | 240=>290 | 276=>295 | n=>n,fun | 0=>0 | 3=>3 | 4=>4 | 9=>9 | 20=>20 | 37=>351 | 70=>350 | 72=>353 | 75=>355 | 164=>374 | 5=>5 | 80=>358 | n=>n,fun | n=>n⟩
theorem Tryz.lays166:Go.Proofs.Lays.n166 Tryz.prog Tryz.lays166_ren:={
  mixed:=by kernel_rfl
  f166:=Tryz.func272.trans (congrArg some (by kernel_rfl))
  f240:=Tryz.func290.trans (congrArg some (by kernel_rfl))
  f276:=Tryz.func295.trans (congrArg some (by kernel_rfl))
  t0:=Tryz.underlying0
  a0:=Tryz.isAgg0
  z0:=Tryz.sizeOf0
  v0:=Tryz.zeroValue0
  t3:=Tryz.underlying3
  a3:=Tryz.isAgg3
  z3:=Tryz.sizeOf3
  v3:=Tryz.zeroValue3
  t4:=Tryz.underlying4
  a4:=Tryz.isAgg4
  z4:=Tryz.sizeOf4
  v4:=Tryz.zeroValue4
  t9:=Tryz.underlying9
  a9:=Tryz.isAgg9
  z9:=Tryz.sizeOf9
  v9:=Tryz.zeroValue9
  t20:=Tryz.underlying20
  a20:=Tryz.isAgg20
  z20:=Tryz.sizeOf20
  v20:=Tryz.zeroValue20
  t37:=Tryz.underlying351
  a37:=Tryz.isAgg351
  z37:=Tryz.sizeOf351
  v37:=Tryz.zeroValue351
  t70:=Tryz.underlying350
  a70:=Tryz.isAgg350
  z70:=Tryz.sizeOf350
  v70:=Tryz.zeroValue350
  t72:=Tryz.underlying353
  a72:=Tryz.isAgg353
  z72:=Tryz.sizeOf353
  v72:=Tryz.zeroValue353
  t75:=Tryz.underlying355
  a75:=Tryz.isAgg355
  z75:=Tryz.sizeOf355
  v75:=Tryz.zeroValue355
  t164:=Tryz.underlying374
  a164:=Tryz.isAgg374
  z164:=Tryz.sizeOf374
  v164:=Tryz.zeroValue374 }
theorem Tryz.Builder_Extra_166:Builder.Extra Tryz.prog Tryz.lays166_ren:={
  sizeBuilder:=by kernel_rfl
  liesBuilder:=by kernel_rfl
  t5:=Tryz.underlying5
  a5:=Tryz.isAgg5
  z5:=Tryz.sizeOf5
  v5:=Tryz.zeroValue5
  infoByte:=by kernel_rfl
  cellsByte:=by kernel_rfl
  sizeByte:=by kernel_rfl
  neB5:=by decide }
open Go.RowKit in
theorem zk_ (b:Bool) (w:World):Calls Tryz.prog 275 #[.bool b] w fun e w'=>e = .returned (.string ⟨(Lib.formatBool b).toArray⟩)∧w'=w:=Any.strconv_FormatBool Tryz.lays121 b w
open Go.RowKit Go.Sort Go.Lib in
theorem sh_Itoa (n:Int) (h0 : -9223372036854775808≤n) (h1:n≤9223372036854775807) (w:World) (htab:Lib.TabIs Tryz.prog w "internal/strconv.uint64pow10" .u64 Lib.pow10Tab) :
    Calls Tryz.prog 273 #[.int .i64 n] w fun e w'=>e = .returned (.string ⟨(Lib.itoa n).toArray⟩)∧∃ k os,w'=grow (w.drewN k) os:=Any.strconv_Itoa Tryz.laysM171 n h0 h1 w htab
open Go.RowKit in
theorem sh_String (B b:Nat) (l:List UInt8) (w:World) (h:Lib.IsBuilderF 353 5 B b (Lib.byteCells l) w) (hBw:B≤w.heap.size) :
    Calls Tryz.prog 274 #[.pointer (some ⟨b,0,none⟩)] w fun e w'=>e = .returned (.string ⟨l.toArray⟩)∧(Lib.IsBuilderF 353 5 B b (Lib.byteCells l) w'∧Below B w w'∧Lib.OthersKept 5 (some b) w w'):=Any.Builder_String_any_k Tryz.lays169 Tryz.Builder_Extra_169 B b l w h hBw
open Go.RowKit in
theorem xl_ (B b:Nat) (bs:List Value) (s:ByteArray) (w:World) (h:Lib.IsBuilderF 353 5 B b bs w) (hlen:bs.length+s.size≤140737488355328) (hBw:B≤w.heap.size) :
    Calls Tryz.prog 272 #[.pointer (some ⟨b,0,none⟩),.string s] w fun e w'=>e = .returned (.tuple #[.int .i64 s.size,.nilIface])∧(Lib.BuilderAtF 353 5 B b (.pointer (some ⟨b,0,none⟩)) (bs++Lib.strCells s) w'∧Below B w w'∧Lib.OthersKept 5 (some b) w w'):=Any.Builder_WriteString_k Tryz.lays166 Tryz.Builder_Extra_166 B b bs s w h hlen hBw
def Tryz.lays212_ren:Go.Shelf.Ren:=⟨fun | 212=>253 | 263=>284 | 264=>285 | n=>n,fun | 46=>333 | 51=>363 | 146=>364 | 53=>366 | 148=>367 | n=>n,fun | n=>n⟩
theorem Tryz.lays212:Go.Proofs.Lays.n212 Tryz.prog Tryz.lays212_ren:={
  mixed:=by kernel_rfl
  f212:=Tryz.func253.trans (congrArg some (by kernel_rfl))
  f263:=Tryz.func284.trans (congrArg some (by kernel_rfl))
  f264:=Tryz.func285.trans (congrArg some (by kernel_rfl))
  t46:=Tryz.underlying333
  a46:=Tryz.isAgg333
  z46:=Tryz.sizeOf333
  v46:=Tryz.zeroValue333
  t51:=Tryz.underlying363
  a51:=Tryz.isAgg363
  z51:=Tryz.sizeOf363
  v51:=Tryz.zeroValue363
  t53:=Tryz.underlying366
  a53:=Tryz.isAgg366
  z53:=Tryz.sizeOf366
  v53:=Tryz.zeroValue366
  t146:=Tryz.underlying364
  a146:=Tryz.isAgg364
  z146:=Tryz.sizeOf364
  v146:=Tryz.zeroValue364
  t148:=Tryz.underlying367
  a148:=Tryz.isAgg367
  z148:=Tryz.sizeOf367
  v148:=Tryz.zeroValue367 }
theorem sh_Mul (x y:Nat) (hx:x<18446744073709551616) (hy:y<18446744073709551616) (w:World) :
    Calls Tryz.prog 253 #[.int .u64 x,.int .u64 y] w fun e w'=>e = .returned (.tuple #[.int .u64 ((x * y / 18446744073709551616:Nat):Int),.int .u64 ((x * y % 18446744073709551616:Nat):Int)])∧w'=w:=Any.bits_Mul Tryz.lays212 x y hx hy w
end
end Go.Proofs
namespace Go.Proofs.YtfcgcpjnpdkjmaaGreatDoor.Rx
open Go Pad Rex Go.Proofs Go.RowKit
section
set_option maxRecDepth 100000
set_option maxHeartbeats 400000
def dy_ (a0:Bool):Option ((List UInt8)×Unit):=cond a0 (some ([116,114,117,101],())) (some ([102,97,108,115,101],()))
theorem ok_275:ConOk Tryz.prog 275 [.bool] [.str] (fun x=>dy_ x.1):=by
  intro w S Fr hv vs x r hG hI ha hF
  match vs,ha with
  | [v],⟨hv1,_⟩ =>
    obtain rfl:v = .bool x.1:=ei_ (a:=ofD .bool x.1) (by rw [ofDB_eq]; exact hv1) (by cases x.1 <;> rfl)
    refine (zk_ x.1 w).mono fun e w' he => ?_
    obtain ⟨rfl,rfl⟩:=he
    refine ⟨S,[],PH.Le.refl _,hI,rfl,?_⟩
    have e1:r.1=Lib.formatBool x.1:=by
      obtain ⟨b,u⟩:=x
      cases b with
      | true=>obtain rfl:=Option.some.inj hF; rfl
      | false=>obtain rfl:=Option.some.inj hF; rfl
    have:=sV_ra (hv:=fun _=>undef) (S:=S) r.1
    rw [← e1]
    exact this
noncomputable def c_275:Con Tryz.prog:=cnv 275 [.bool] [.str] (fun x=>dy_ x.1) ok_275
theorem rg_ {w w':World} {S:PH} {O:List HP} {B:Nat} (h:Inv w S O) (hB:B=w.heap.size) (hb:Below B w w'):Inv w' S O:=by
  subst hB
  exact h.world hb.os hb.output fun b o e=>(hb.block b (Array.getElem?_eq_some_iff.1 e).1).trans e
theorem bld_kept {T e:TypeId} {B b:Nat} {bs:List Value} {w w':World} (hk:∀ (k:Nat) (o:Obj),w.heap[k]?=some o→w'.heap[k]?=some o) (h:Lib.IsBuilderF T e B b bs w):Lib.IsBuilderF T e B b bs w':=by
  have key:∀ {p:Value},Lib.BuilderAtF T e B b p bs w→Lib.BuilderAtF T e B b p bs w':=by
    rintro p ⟨h1,v,h2,⟨h3,h4⟩,h5⟩
    refine ⟨h1,v,hk _ _ h2,⟨h3,?_⟩,h5⟩
    rcases h4 with h4 | ⟨g,cap,cur,fz,g1,g2,g3,g4⟩
    · exact .inl h4
    · exact .inr ⟨g,cap,cur,fz,g1,g2,hk _ _ g3,g4⟩
  exact h.elim (fun h=>.inl (key h)) fun h=>.inr (key h)
theorem grow_kept {w:World} {n:Nat} {os:Array Obj}:∀ (k:Nat) (o:Obj),w.heap[k]?=some o→(Go.Sort.grow (w.drewN n) os).heap[k]?=some o:=by
  intro k o h
  show (w.heap++os)[k]?=some o
  rw [Array.getElem?_append_left (Array.getElem?_eq_some_iff.1 h).1]
  exact h
theorem tab_is {w:World} {S:PH} {O:List HP} (hG:GlS S) (hI:Inv w S O):Lib.TabIs Tryz.prog w "internal/strconv.uint64pow10" .u64 Lib.pow10Tab:=by
  obtain ⟨T,fz,h⟩:=hG.2 1 pow10V rfl
  have h2:=Own.in_ hI.own _ _ h
  unfold Lib.TabIs World.var?
  rw [Tryz.laysM171.m17]
  show (match w.heap[1]? with
    | some (.cells cs _ _)=>some cs
    | _=>none)=_
  rw [h2]
  simp [pow10V,Lib.pow10Tab]
def numT (n:Int):List UInt8:=Lib.itoa n++[32]
def numL (l:List Int):List UInt8:=l.flatMap numT
def hk_ (ls:List (List Int)):List UInt8:=ls.flatMap numL
def inI (n:Int):Bool:=decide (-9223372036854775808≤n)&&decide (n≤9223372036854775807)
def fj_ (a0:List (List Int)):Option ((List UInt8)×Unit):=cond (a0.all (fun l=>l.all inI)&&Nat.ble (hk_ a0).length 2147483648) (some (hk_ a0,())) none
def NInv (v:Value) (n:Nat) (w0:World) (b:Nat) (acc:List UInt8) (f:Pad.Fr) (w:World):Prop :=
  Below w0.heap.size w0 w∧Lib.IsBuilderF 353 5 w0.heap.size b (Lib.byteCells acc) w∧f 3 = .pointer (some ⟨b,0,none⟩)∧f 8=v∧f 9 = .int .i64 n∧f.ds=[]
theorem forS_u:∀ (k i:Nat),forS (fun (_:Nat) (_:Unit)=>some ()) k i ()=some ()
  | 0,_=>rfl
  | k+1,i=>forS_u k (i+1)
theorem sh45:Shape Tryz.prog 45 false 1:=shp_ok (by kernel_rfl)
theorem sh3':Shape Tryz.prog 3 false 1:=shp_ok (by kernel_rfl)
theorem cb_272:em_ Tryz.prog 272:=⟨_,Tryz.func272,rfl,by kernel_rfl⟩
theorem cb_273:em_ Tryz.prog 273:=⟨_,Tryz.func273,rfl,by kernel_rfl⟩
theorem cb_274:em_ Tryz.prog 274:=⟨_,Tryz.func274,rfl,by kernel_rfl⟩
theorem op_lib {P:Program} {n k d:Nat} {ro:Option Nat} {f:Pad.Fr} {w:World} {K:Pad.Fr→World→Prop} {ty:TypeId} {pos:String} {af:Array Edge} {gd:Option (Nat×Bool)} {vs:List Value} {g:Operand} {args:Array Operand} {ct:Array TypeId} {R:Ending→World→Prop}
    (hd:Nat.blt d n=true) (hk:em_ P k) (hg:ev f g = .func (.func k) #[] #[]) (hargs:(args.map (ev f)) ++ #[]=vs.toArray) (hc:Calls P k vs.toArray w R) (kont:∀ e w',R e w'→∃ v,e = .returned v∧K (upd f d v) w') :
    OP P n ro ⟨some d,.call ⟨.value g,args,ct⟩,ty,pos,af,gd⟩ f w K :=
  lz_ (qv_ hk hg hargs) hc fun e w' he=>by
    obtain ⟨v,h1,h2⟩:=kont e w' he
    exact ⟨v,h1,hd,h2⟩
theorem str_op {P:Program} [Tb P] {f:Pad.Fr} {w:World} {d:Nat} {x y:Operand} {ty T2:TypeId} {pos:String} {af:Array Edge} {gd:Option (Nat×Bool)} {a b c:Str} (hx:Pad.ev f x = .string ⟨a.toArray⟩) (hy:Pad.ev f y = .string ⟨b.toArray⟩) (h:cat? a b=some c) :
    (execOp (Pad.ev f) ⟨some d,.binOp .add 9 x y T2,ty,pos,af,gd⟩).run P w = .ok (.value (.string ⟨c.toArray⟩)) w:=by
  have h1:=run_str (P:=P) (T:=9) (w:=w) h
  have h2:=gj_ (P:=P) (T:=9) (op:=.add) (w:=w) (X:=x) (Y:=y) (v:=.string ⟨a.toArray⟩) (u:=.string ⟨b.toArray⟩) trivial
  simp [execOp,Sem.run_bind,hx,hy,h1,h2,Result.andThen]
theorem nums_walk {w:World} {S:PH} {Fr:List HP} {v:Value} {ls:List (List Int)} (hG:GlS S) (hI:Inv w S Fr) (hr:RVt (.list (.list .int)) S v ls) (hin:(ls.all fun l=>l.all inI)=true) (hlen:(hk_ ls).length≤2147483648) :
    Calls Tryz.prog 247 [v].toArray w fun e w'=>e = .returned (.string ⟨(hk_ ls).toArray⟩)∧Inv w' S Fr:=by
  letI:Enc (List Int):=(Ty.list .int).enc
  letI:Enc Int:=Ty.int.enc
  obtain ⟨a0,cap0,hv2,_,hmax,_⟩:=@hz_ (List Int) (Ty.list .int).enc S v ls hr
  have hk0:ls.length≤9223372036854775807:=by
    unfold maxLen at hmax
    omega
  refine qk_ (n:=27) Tryz.func247 rfl rfl rfl ?_
  refine bm_ (bf_ (wa_ (v:=.string ⟨#[]⟩) rfl rfl (dx_ ?_)))
  have hz:=Tryz.zeroValue353
  refine bm_ (bf_ (wo_ (eg_ (v:=.pointer (some ⟨w.heap.size,0,none⟩)) (w':=w.alloc (.cells #[.pointer none,.slice none 0 0] 353)) rfl (by simp only [execOp,Instr.alloc,Sem.run_bind,hz w,Result.andThen_ok]; rfl) (dx_ ?_))))
  have hI1:Inv (w.alloc (.cells #[.pointer none,.slice none 0 0] 353)) S Fr:=hI.world rfl rfl fun b o e=>(Below.heap_alloc w _ b (Array.getElem?_eq_some_iff.1 e).1).trans e
  have hB1:Below w.heap.size w (w.alloc (.cells #[.pointer none,.slice none 0 0] 353)):=⟨rfl,rfl,rfl,by simp,fun k hk=>Below.heap_alloc w _ k hk⟩
  have hD1:Lib.IsBuilderF 353 5 w.heap.size w.heap.size (Lib.byteCells []) (w.alloc (.cells #[.pointer none,.slice none 0 0] 353)):=.inl ⟨Nat.le_refl _,.slice none 0 0,Array.getElem?_push_size,⟨rfl,.inl ⟨rfl,rfl⟩⟩,by simp [Value.ownBlock]⟩
  refine bm_ (bm_ (bf_ (wm_ (v:=v) rfl rfl (wo_ (op_len rfl Tryz.underlying33 hv2 (wm_ (v:=.int .i64 0) rfl rfl (dx_ ?_)))))))
  refine wp_cutN (fun f w'=>NInv v ls.length w w.heap.size (hk_ ls) f w') ?_ ?_
  · refine gh_ (wp_forS (σ:=Unit) (k:=ls.length) (I:=fun i _ f w'=>NInv v ls.length w w.heap.size (hk_ (ls.take i)) f w'∧f 10 = .int .i64 (i:Int)) (forS_u _ _) ⟨⟨hB1,hD1,rfl,rfl,rfl,rfl⟩,rfl⟩ ?_ ?_)
    · rintro i _ f w1 o hi ⟨⟨b1,b2,b3,b4,b5,b6⟩,b7⟩ _
      have I1:=rg_ hI rfl b1
      refine bm_ (bf_ (wo_ (yl_ rfl b7 b5 (dx_ (bm_ (ni_ rfl (len_t hi) (mk_ (bm_ (gh_ ?_)))))))))
      obtain ⟨l,hl⟩:∃ l,ls[i]?=some l:=⟨_,List.getElem?_eq_getElem hi⟩
      have hat:at? ls (i:Int)=some l:=by rw [at?_nat]; exact hl
      refine bm_ (bf_ (wo_ (@nq_ _ _ _ _ _ _ _ _ _ _ _ _ _ _ _ (List Int) (Ty.list .int).enc S ls 45 (i:Int) _ rfl Tryz.underlying33 sh45 b4 hr b7 hat ?_)))
      have hp:PtSt (.list .int) S (cq_ v i 1) l:=qa_ (t:=.list .int) (x:=l) hr hat
      refine wo_ (op_load (α:=List Int) (S:=S) (e:=l) rfl sh45 rfl (hp.at_ I1) fun u hu => ?_)
      refine wa_ (v:=u) rfl rfl (dx_ ?_)
      obtain ⟨a1,cap1,hu2,_,hmax1,_⟩:=@hz_ Int Ty.int.enc S u l hu
      have hk1:l.length≤9223372036854775807:=by
        unfold maxLen at hmax1
        omega
      refine bm_ (bf_ (wm_ (v:=u) rfl rfl (wo_ (op_len rfl Tryz.underlying45 hu2 (wm_ (v:=.int .i64 0) rfl rfl (dx_ ?_))))))
      have htk:hk_ (ls.take (i+1))=hk_ (ls.take i)++numL l:=by
        rw [List.take_add_one,hl]
        simp [hk_]
      have hle:(hk_ (ls.take (i+1))).length≤2147483648:=by
        have:hk_ ls=hk_ (ls.take (i+1))++hk_ (ls.drop (i+1)):=by
          unfold hk_
          rw [← List.flatMap_append,List.take_append_drop]
        rw [this,List.length_append] at hlen
        omega
      have hinl:∀ n ∈ l,inI n=true:=fun n hn=>List.all_eq_true.1 (List.all_eq_true.1 hin l (List.mem_of_getElem? hl)) n hn
      refine wp_cutN (fun f w'=>NInv v ls.length w w.heap.size (hk_ (ls.take (i+1))) f w'∧f 10 = .int .i64 (i:Int)) ?_ ?_
      · refine gh_ (wp_forS (σ:=Unit) (k:=l.length) (I:=fun j _ f w'=>NInv v ls.length w w.heap.size (hk_ (ls.take i)++numL (l.take j)) f w'∧f 10 = .int .i64 (i:Int)∧f 14=u∧f 15 = .int .i64 l.length∧f 16 = .int .i64 (j:Int)) (forS_u _ _)
          ⟨⟨b1,by rw [show numL (l.take 0)=[] from rfl,List.append_nil]; exact b2,b3,b4,b5,b6⟩,b7,rfl,rfl,rfl⟩ ?_ ?_)
        · rintro j _ f w1 o hj ⟨⟨b1,b2,b3,b4,b5,b6⟩,b7,b8,b9,b10⟩ _
          have I1:=rg_ hI rfl b1
          refine bm_ (bf_ (wo_ (yl_ rfl b10 b9 (dx_ (bm_ (ni_ rfl (len_t hj) (mk_ (bm_ (gh_ ?_)))))))))
          obtain ⟨n,hn⟩:∃ n,l[j]?=some n:=⟨_,List.getElem?_eq_getElem hj⟩
          have hatn:at? l (j:Int)=some n:=by rw [at?_nat]; exact hn
          refine bm_ (bf_ (wo_ (@nq_ _ _ _ _ _ _ _ _ _ _ _ _ _ _ _ Int Ty.int.enc S l 3 (j:Int) _ rfl Tryz.underlying45 sh3' b8 hu b10 hatn ?_)))
          have hpn:PtSt .int S (cq_ u j 1) n:=qa_ (t:=.int) (x:=n) hu hatn
          refine wo_ (op_load_int rfl sh3' rfl (hpn.at_ I1) ?_)
          refine wa_ (v:=.int .i64 n) rfl rfl (dx_ ?_)
          refine bf_ (wm_ (v:=.int .i64 n) rfl rfl ?_)
          have hni:=hinl n (List.mem_of_getElem? hn)
          unfold inI at hni
          rw [Bool.and_eq_true] at hni
          have htj:numL (l.take (j+1))=numL (l.take j)++numT n:=by
            rw [List.take_add_one,hn]
            simp [numL]
          have hlej:(hk_ (ls.take i)++(numL (l.take j)++numT n)).length≤2147483648:=by
            have:numL l=numL (l.take (j+1))++numL (l.drop (j+1)):=by
              unfold numL
              rw [← List.flatMap_append,List.take_append_drop]
            rw [htk,this,htj,List.length_append,List.length_append] at hle
            rw [List.length_append]
            omega
          refine wo_ (op_lib (vs:=[.int .i64 n]) rfl cb_273 rfl (args1 rfl) (sh_Itoa n (of_decide_eq_true hni.1) (of_decide_eq_true hni.2) w1 (tab_is hG I1)) fun e w2 he => ?_)
          obtain ⟨rfl,k,os,rfl⟩:=he
          refine ⟨_,rfl,?_⟩
          have b1':Below w.heap.size w (Go.Sort.grow (w1.drewN k) os):=b1.trans ⟨rfl,rfl,rfl,by simp [Go.Sort.grow,World.drewN],fun k hk=>by
            have h1:k<w1.heap.size:=Nat.lt_of_lt_of_le hk b1.size
            exact (grow_kept k _ (Array.getElem?_eq_getElem h1)).trans (Array.getElem?_eq_getElem h1).symm⟩
          have b2':=bld_kept (grow_kept (n:=k) (os:=os)) b2
          have hcat:cat? (Lib.itoa n) [32]=some (numT n):=by
            unfold cat?
            have:Nat.ble ((Lib.itoa n).length+([32]:Str).length) 2147483648=true:=by
              refine Nat.ble_eq_true_of_le ?_
              have h1:(numT n).length=(Lib.itoa n).length+1:=by simp [numT]
              rw [List.length_append,List.length_append,h1] at hlej
              show (Lib.itoa n).length+1≤_
              omega
            rw [this]
            rfl
          refine wo_ (eg_ (v:=.string ⟨(numT n).toArray⟩) (w':=Go.Sort.grow (w1.drewN k) os) rfl (str_op rfl rfl hcat) ?_)
          refine wo_ (op_lib (vs:=[.pointer (some ⟨w.heap.size,0,none⟩),.string ⟨(numT n).toArray⟩]) rfl cb_272 rfl (args2 b3 rfl) (xl_ w.heap.size w.heap.size (Lib.byteCells (hk_ (ls.take i)++numL (l.take j))) ⟨(numT n).toArray⟩ _ b2' ?_ b1'.size) fun e w2 he => ?_)
          · rw [Lib.byteCells_length]
            show (hk_ (ls.take i)++numL (l.take j)).length+(numT n).toArray.size≤_
            rw [List.size_toArray,List.length_append]
            rw [List.length_append,List.length_append] at hlej
            omega
          obtain ⟨rfl,c1,c2,c3⟩:=he
          refine ⟨_,rfl,dx_ ?_⟩
          have c1':Lib.IsBuilderF 353 5 w.heap.size w.heap.size (Lib.byteCells (hk_ (ls.take i)++numL (l.take (j+1)))) w2:=by
            rw [htj,← List.append_assoc,Lib.byteCells_append]
            exact .inr c1
          exact bf_ (wo_ (op_add rfl b10 rfl (wm_ rfl rfl (dx_ ⟨⟨b1'.trans c2,c1',b3,b4,b5,b6⟩,b7,b8,b9,idx_next hj hk1⟩))))
        · rintro f w1 ⟨⟨b1,b2,b3,b4,b5,b6⟩,b7,b8,b9,b10⟩
          rw [List.take_length,← htk] at b2
          exact bm_ (bf_ (wo_ (yl_ rfl b10 b9 (dx_ (bm_ (jy_ rfl (len_f _) (uc_ ⟨⟨b1,b2,b3,b4,b5,b6⟩,b7⟩)))))))
      · rintro f w1 ⟨⟨b1,b2,b3,b4,b5,b6⟩,b7⟩
        refine bf_ (wo_ (op_add rfl b7 rfl (wm_ rfl rfl (dx_ ⟨⟨b1,b2,b3,b4,b5,b6⟩,idx_next hi hk0⟩))))
    · rintro f w1 ⟨⟨b1,b2,b3,b4,b5,b6⟩,b7⟩
      rw [List.take_length] at b2
      exact bm_ (bf_ (wo_ (yl_ rfl b7 b5 (dx_ (bm_ (jy_ rfl (len_f _) (uc_ ⟨b1,b2,b3,b4,b5,b6⟩)))))))
  · rintro f w1 ⟨b1,b2,b3,b4,b5,b6⟩
    have I1:=rg_ hI rfl b1
    refine bm_ (bf_ (wo_ (op_lib (vs:=[.pointer (some ⟨w.heap.size,0,none⟩)]) rfl cb_274 rfl (args1 b3) (sh_String w.heap.size w.heap.size (hk_ ls) w1 b2 b1.size) fun e w2 he => ?_)))
    obtain ⟨rfl,c1,c2,c3⟩:=he
    refine ⟨_,rfl,wa_ (v:=.string ⟨(hk_ ls).toArray⟩) rfl rfl (dx_ (uu_ ⟨b6,_,res1 rfl rfl,rfl,rg_ hI rfl (b1.trans c2)⟩))⟩
theorem ok_247:ConOk Tryz.prog 247 [.list (.list .int)] [.str] (fun x=>fj_ x.1):=by
  intro w S Fr hv vs x r hG hI ha hF
  match vs,ha with
  | [v],⟨hv1,_⟩ =>
    obtain ⟨ls,u⟩:=x
    have hF:cond (ls.all (fun l=>l.all inI)&&Nat.ble (hk_ ls).length 2147483648) (some (hk_ ls,())) none=some r:=hF
    obtain ⟨hc,hF⟩:=bt_ hF
    simp only [Bool.and_eq_true] at hc
    obtain ⟨hin,hlen⟩:=hc
    obtain rfl:=Option.some.inj hF
    have hr:RVt (.list (.list .int)) S v ls:=qf_ (hv:=hv) hv1
    refine (nums_walk hG hI hr hin (Nat.le_of_ble_eq_true hlen)).mono fun e w' he => ?_
    obtain ⟨rfl,hI'⟩:=he
    exact ⟨S,[],PH.Le.refl _,hI',rfl,sV_ra (hv:=fun _=>undef) (S:=S) (hk_ ls)⟩
noncomputable def c_247:Con Tryz.prog:=cnv 247 [.list (.list .int)] [.str] (fun x=>fj_ x.1) ok_247
end
end Go.Proofs.YtfcgcpjnpdkjmaaGreatDoor.Rx
namespace Go.Proofs.YtfcgcpjnpdkjmaaGreatDoor.Pad
open Go
section
abbrev sn:Value:=.slice none 0 0
theorem AllP.v {l:List Nat} {sps:List Sp} {f:Fr} {vals:Nat→Value} {S':PH} (h:AllP l (fun j=>∀ t,sps[j]?=some t→(∀ d,t.dst=some d→f d=vals j)∧t.fact (t.deps.map vals) S')) (i:Nat) {a d:Nat} {t:Sp} {x:Value}
    (e:(l[i]?,sps[a]?,t.dst,t.fact (t.deps.map vals) S')=(some a,some t,some d,vals a=x)):f d=x :=
  h.u i (Prod.mk.inj e).1 (Prod.mk.inj (Prod.mk.inj e).2).1 (Prod.mk.inj (Prod.mk.inj e).2).2
theorem fo {A:Value→Prop} {B C:Value→PH→Prop} {S:PH} {v:Value} (c:C v S) (a:A v:=by exact rfl) (b:B v S:=by exact rfl):∃ v S',A v∧S.Le S'∧B v S'∧C v S':=⟨v,S,a,lr,b,c⟩
section
variable {P:Program} {n:Nat} {ro:Option Nat} {ops:Array Oper} {sps:List Sp} {tks:List Tok} {f0:Fr} {S:PH} {i:Nat} {s:Sp}
theorem ob_ {o:Oper} (ho:(ops[i]?,o.guard)=(some o,none)) (h:∀ {vals:Nat→Value} {f:Fr} {w:World} {S':PH} {X:List HP},S.Le S' →
    AllP s.anc (fun j=>∀ t,sps[j]?=some t→(∀ d,t.dst=some d→f d=vals j)∧t.fact (t.deps.map vals) S') →
    (∀ d,(∀ (j:Nat) (t:Sp),sps[j]?=some t→t.dst=some d→i ∈ t.anc∨i=j)→f d=f0 d) →
    Inv w S' (s.cons.map (ks_ tks vals)++(s.rd.map (ks_ tks vals)++X)) →
    OP P n ro o f w fun f' w'=>∃ v S'',f'=uy_ f s.dst v∧S'.Le S''∧s.fact (s.deps.map (upv vals i v)) S'' ∧
      Inv w' S'' (s.prod.map (ks_ tks (upv vals i v))++(s.rd.map (ks_ tks vals)++X))):Ob P n ro ops sps tks f0 S i s :=
  fun _ _ _ _ _ a b c d=>pl_ ho (h a b c d)
end
section
variable {P:Program} {n:Nat} {ro:Option Nat} {f:Fr} {w:World} {K:Fr→World→Prop} {d k:Nat} {ty:TypeId} {pos:String} {af:Array Edge} {gd:Option (Nat×Bool)} {x y:Operand} {v:Value} {T:TypeId} {S:PH}
end
end
end Go.Proofs.YtfcgcpjnpdkjmaaGreatDoor.Pad
namespace Go.Proofs.YtfcgcpjnpdkjmaaGreatDoor.Rx
open Go Pad Rex Go.Proofs
section
set_option maxRecDepth 100000
set_option maxHeartbeats 400000
def ivs (l:List Int):List Value:=l.map fun n=>.int .i64 n
def rowR (m n:Nat) (a:Int):List Int:=List.replicate n a++List.replicate (m - n) 0
theorem op_copyC {P:Program} {n d:Nat} {ro:Option Nat} {f:Pad.Fr} {w:World} {K:Pad.Fr→World→Prop} {ty T E B:TypeId} {pos:String} {af:Array Edge} {gd:Option (Nat×Bool)} {x y:Operand} {S:PH} {O:List HP} {g o dl dc sl sc:Nat} {ad:Addr} {cs:Array Value} {ys:List Value}
    (hd:Nat.blt d n=true) (hT:P.underlying T=some (.slice E)) (hs:(P.info? E).map (·.size)=some 1) (hx:Pad.ev f x = .slice (some ⟨g,o,none⟩) dl dc) (hy:Pad.ev f y = .slice (some ad) sl sc) (hI:Inv w S (kv_ g B cs::O))
    (hn:ys.length=Nat.min sl dl) (hsrc:∀ j v,ys[j]?=some v→w.cell? (ad.add j)=some v) (hfit:o+ys.length≤cs.size) (h1:∀ v ∈ ys,v.oneCell'=true)
    (k:∀ w',Inv w' S (kv_ g B (cs.toList.take o++ys++cs.toList.drop (o+ys.length)).toArray::O)→K (upd f d (.int .i64 (ys.length:Nat))) w') :
    OP P n ro ⟨some d,.call ⟨.builtin .copy,#[x,y],#[T,T]⟩,ty,pos,af,gd⟩ f w K:=by
  have h:=run_copy_row (P:=P) w T T ty E g o dl dc ad sl sc cs B ys hT hs hI.blk hn hsrc hfit h1
  exact eg_ hd (by simp [execOp,resolve,invoke,builtin,hx,hy,h,Result.andThen]; rfl) (k _ hI.setRow)
theorem op_copy0 {P:Program} {n d:Nat} {ro:Option Nat} {f:Pad.Fr} {w:World} {K:Pad.Fr→World→Prop} {ty T E:TypeId} {pos:String} {af:Array Edge} {gd:Option (Nat×Bool)} {x y:Operand} {dl dc sl sc:Nat} {ap ad:Option Addr}
    (hd:Nat.blt d n=true) (hT:P.underlying T=some (.slice E)) (hs:(P.info? E).map (·.size)=some 1) (hx:Pad.ev f x = .slice ap dl dc) (hy:Pad.ev f y = .slice ad sl sc)
    (hn:Nat.min sl dl=0) (k:K (upd f d (.int .i64 0)) w) :
    OP P n ro ⟨some d,.call ⟨.builtin .copy,#[x,y],#[T,T]⟩,ty,pos,af,gd⟩ f w K:=by
  have h:=run_copy_none (P:=P) w T T ty E ap ad dl dc sl sc hT hs hn
  exact eg_ hd (by simp [execOp,resolve,invoke,builtin,hx,hy,h,Result.andThen]; rfl) k
theorem op_make {n d:Nat} {ro:Option Nat} {f:Pad.Fr} {w:World} {K:Pad.Fr→World→Prop} {ty:TypeId} {pos:String} {af:Array Edge} {gd:Option (Nat×Bool)} {x y:Operand} {S:PH} {O:List HP} {m:Nat}
    (hd:Nat.blt d n=true) (hx:Pad.ev f x = .int .i64 m) (hy:Pad.ev f y = .int .i64 m) (hm:m≤2147483648) (hI:Inv w S O)
    (k:∀ g w',Inv w' S (kv_ g 3 (ivs (List.replicate m 0)).toArray::O)→K (upd f d (.slice (some ⟨g,0,none⟩) m m)) w') :
    OP Tryz.prog n ro ⟨some d,.makeSlice 45 x y,ty,pos,af,gd⟩ f w K:=by
  obtain ⟨bytes,zv,⟨ei,hE⟩,hb,hr⟩:=kw_ (show qn_ Tryz.prog 3 .int=some (0:Int) by kernel_rfl)
  have hzv:zv = .int .i64 0:=mb_ (hr S)
  have hbb:(ei.bytes:Int) * (m:Int)≤281474976710656:=by
    have h1:(ei.bytes:Int)≤65536:=by rw [hE.hb]; omega
    have h2:(ei.bytes:Int) * (m:Int)≤65536 * 2147483648:=Int.mul_le_mul h1 (by omega) (by omega) (by omega)
    omega
  have h:=run_make (P:=Tryz.prog) w 45 3 ei zv Tryz.underlying45 hE.hi hE.hz .i64 .i64 m m (by omega) (Int.le_refl _) hbb (by omega)
  have hsz:ei.size=1:=hE.hs
  have hc:madeCells zv.cells ((m:Int).toNat * ei.size)=(ivs (List.replicate m 0)).toArray:=by
    have h2:=ny_ zv.cells m
    have h3:zv.cells.size=1:=by rw [hzv]; rfl
    rw [h3] at h2
    rw [hsz,Int.toNat_natCast]
    apply Array.toList_inj.1
    rw [h2,hzv]
    simp [Value.cells,ivs]
  rw [hc] at h
  exact eg_ hd (by rw [Int.toNat_natCast] at h; simp [execOp,Sem.run_bind,hx,hy,h,Result.andThen]) (k _ _ (hI.alloc 3 _))
theorem cb_253:em_ Tryz.prog 253:=⟨_,Tryz.func253,rfl,by kernel_rfl⟩
theorem wu64_nat {m:Nat} (h:m≤2147483648):wu64 (m:Int)=(m:Int):=by
  unfold wu64 IntKind.wrap
  simp [IntKind.signed,IntKind.bits]
  omega
theorem in3:(Tryz.prog.info? 3).map (·.size)=some 1:=by kernel_rfl
theorem ivs_row {m n q:Nat} {a:Int} (h:n+q≤m):(ivs (rowR m n a)).take n++ivs (List.replicate q a)++(ivs (rowR m n a)).drop (n+q)=ivs (rowR m (n+q) a):=by
  unfold ivs rowR
  rw [← List.map_take,← List.map_drop,← List.map_append,← List.map_append]
  congr 1
  have h1:(List.replicate n a++List.replicate (m - n) (0:Int)).take n=List.replicate n a:=by
    rw [List.take_append_of_le_length (by simp),List.take_of_length_le (by simp)]
  have h2:(List.replicate n a++List.replicate (m - n) (0:Int)).drop (n+q)=List.replicate (m - (n+q)) 0:=by
    rw [List.drop_append,List.drop_of_length_le (by simp)]
    simp
    omega
  rw [h1,h2,List.replicate_append_replicate]
theorem ivs_len (l:List Int):(ivs l).length=l.length:=by simp [ivs]
theorem rowR_len {m n:Nat} {a:Int} (h:n≤m):(rowR m n a).length=m:=by simp [rowR]; omega
theorem rowR_at {m n j:Nat} {a:Int} (h:j<n):(ivs (rowR m n a))[j]?=some (.int .i64 a):=by
  unfold ivs rowR
  rw [List.getElem?_map,List.getElem?_append_left (by simpa using h),List.getElem?_replicate,if_pos h]
  rfl
theorem ivs_one {l:List Int}:∀ v ∈ ivs l,v.oneCell'=true:=by
  intro v hv
  obtain ⟨n,_,rfl⟩:=List.mem_map.1 hv
  rfl
theorem sl_l {f:Pad.Fr} {w:World} {d m n g:Nat} {x y:Operand} {ty:TypeId} {pos:String} {af:Array Edge} {gd:Option (Nat×Bool)} (hx:Pad.ev f x = .slice (some ⟨g,0,none⟩) m m) (hy:Pad.ev f y = .int .i64 n) (h:n<m) :
    (execOp (Pad.ev f) ⟨some d,.slice 45 x (some y) none none,ty,pos,af,gd⟩).run Tryz.prog w = .ok (.value (.slice (some ⟨g,n,none⟩) (m - n) (m - n))) w:=by
  have:=part_l (P:=Tryz.prog) (w:=w) (T:=45) (E:=3) (a:=some ⟨g,0,none⟩) (len:=m) (cap:=m) (lo:=(n:Int)) Tryz.underlying45 sh3' (by omega) (by omega)
  have hne:¬ m=n:=by omega
  have e:(⟨g,0,none⟩:Addr).add (n * 1)=⟨g,n,none⟩:=by rw [Nat.mul_one,gb_,Nat.zero_add]
  simp only [sliced,hne,if_false,Option.map_some,Int.toNat_natCast,e] at this
  simp [execOp,hx,hy,this,Result.andThen]
theorem sl_h {f:Pad.Fr} {w:World} {d m n g:Nat} {x y:Operand} {ty:TypeId} {pos:String} {af:Array Edge} {gd:Option (Nat×Bool)} (hx:Pad.ev f x = .slice (some ⟨g,0,none⟩) m m) (hy:Pad.ev f y = .int .i64 n) (h:n<m) :
    (execOp (Pad.ev f) ⟨some d,.slice 45 x none (some y) none,ty,pos,af,gd⟩).run Tryz.prog w = .ok (.value (.slice (some ⟨g,0,none⟩) n m)) w:=by
  have:=part_h (P:=Tryz.prog) (w:=w) (T:=45) (E:=3) (a:=some ⟨g,0,none⟩) (len:=m) (cap:=m) (hi:=(n:Int)) Tryz.underlying45 sh3' (by omega) (by omega)
  have hne:¬ m=0:=by omega
  simp [sliced,hne,Addr.add] at this
  simp [execOp,hx,hy,this,Result.andThen]
theorem op_uI {n d:Nat} {ro:Option Nat} {f:Pad.Fr} {w:World} {K:Pad.Fr→World→Prop} {ty:TypeId} {pos:String} {af:Array Edge} {gd:Option (Nat×Bool)} {x:Operand} {m:Nat} (hd:Nat.blt d n=true) (hx:Pad.ev f x = .int .u64 (m:Int)) (hm:m≤2147483648)
    (k:K (upd f d (.int .i64 (m:Int))) w):OP Tryz.prog n ro ⟨some d,.convert 333 3 x,ty,pos,af,gd⟩ f w K:=by
  have h64:IntKind.i64.wrap (m:Int)=m:=by rw [IntKind.wrap_i64]; omega
  exact eg_ hd (by simp [execOp,hx,convert,run_underlying Tryz.underlying333,run_underlying Tryz.underlying3,Conv.intToInt,h64]) k
theorem repL_ivs {S:PH}:∀ (l:List Int),@RepL Int Ty.int.enc S (ivs l) l
  | []=>rfl
  | a::l=>⟨[.int .i64 a],ivs l,rfl,rfl,repL_ivs l⟩
def RI (m g:Nat) (a:Int) (S:PH) (Fr:List HP) (k:Nat) (f:Pad.Fr) (w:World):Prop :=
  k≤m∧(0<m→0<k)∧∃ S',S.Le S'∧Inv w S' (kv_ g 3 (ivs (rowR m k a)).toArray::Fr)∧f 7 = .slice (some ⟨g,0,none⟩) m m∧f 8 = .int .i64 (k:Int)∧f.ds=[]
theorem rep_walk {w:World} {S:PH} {Fr:List HP} {v:Value} {m:Nat} {a:Int} (hI:Inv w S Fr) (hr:RVt (.list .int) S v [a]) (hm:m≤2147483648) :
    Calls Tryz.prog 197 [v,.int .i64 (m:Int)].toArray w fun e w'=>∃ u S',e = .returned u∧S.Le S'∧Inv w' S' (@Row Int Ty.int.enc 3 u (List.replicate m a)::Fr):=by
  obtain ⟨a0,cap0,hv2,_,hmax,hnil,hrow⟩:=@hz_ Int Ty.int.enc S v [a] hr
  obtain ⟨ad,rfl⟩:∃ ad,a0=some ad:=by
    cases a0 with
    | none=>have:=(hnil rfl).1; simp at this
    | some ad=>exact ⟨ad,rfl⟩
  refine qk_ (n:=48) Tryz.func197 rfl rfl rfl ?_
  refine bm_ (bf_ (wa_ (v:=sn) rfl rfl (dx_ ?_)))
  refine bm_ (bm_ (bf_ (wm_ (v:=.int .i64 m) rfl rfl (wo_ (yl_ (a:=(m:Int)) (b:=0) rfl rfl rfl (dx_ ?_))))))
  refine jy_ rfl (decide_eq_false (by omega)) (mk_ ?_)
  refine bm_ (bf_ (wm_ (v:=v) rfl rfl (wo_ (op_len rfl Tryz.underlying45 hv2 ?_))))
  refine wo_ (op_toU (a:=1) rfl rfl Tryz.underlying3 Tryz.underlying333 (wm_ (v:=.int .i64 m) rfl rfl (wo_ (op_toU (a:=(m:Int)) rfl rfl Tryz.underlying3 Tryz.underlying333 ?_))))
  rw [wu64_nat hm,show wu64 1=((1:Nat):Int) from rfl]
  refine wo_ (op_lib (vs:=[.int .u64 ((1:Nat):Int),.int .u64 (m:Int)]) rfl cb_253 rfl (args2 rfl rfl) (sh_Mul 1 m (by omega) (by omega) w) fun e w2 he => ?_)
  obtain ⟨rfl,rfl⟩:=he
  rw [show (1 * m / 18446744073709551616:Nat)=0 by omega,show (1 * m % 18446744073709551616:Nat)=m by omega]
  refine ⟨_,rfl,?_⟩
  refine wm_ (v:=.tuple #[.int .u64 ((0:Nat):Int),.int .u64 (m:Int)]) rfl rfl (wo_ (ym_ (v:=.int .u64 ((0:Nat):Int)) rfl rfl rfl (wo_ (ym_ (v:=.int .u64 (m:Int)) rfl rfl rfl (wa_ (v:=.int .u64 ((0:Nat):Int)) rfl rfl (wa_ (v:=.int .u64 (m:Int)) rfl rfl (dx_ ?_)))))))
  refine bm_ (bm_ (bf_ (wm_ (v:=.int .u64 ((0:Nat):Int)) rfl rfl (wo_ (op_gtr (a:=((0:Nat):Int)) (b:=0) rfl rfl rfl (wm_ (v:=.bool false) rfl rfl (wk_ rfl rfl rfl (ms_ (v:=.int .u64 (m:Int)) rfl rfl (wk_ rfl rfl rfl (op_gtr (a:=(m:Int)) (b:=9223372036854775807) rfl rfl rfl ?_))))))))))
  have hdf:decide ((9223372036854775807:Int)<(m:Int))=false:=decide_eq_false (by omega)
  rw [hdf]
  refine wo_ (op_pick_f (b:=.bool false) rfl rfl rfl rfl (dx_ (jy_ rfl rfl (mk_ ?_))))
  refine bm_ (bf_ (wm_ (v:=.int .u64 (m:Int)) rfl rfl (wo_ (op_uI (m:=m) rfl rfl hm ?_))))
  refine wo_ (op_make (m:=m) rfl rfl rfl hm hI fun g w3 I3=>wa_ (v:=.slice (some ⟨g,0,none⟩) m m) rfl rfl (dx_ ?_))
  have hcell:w3.cell? ad=some (.int .i64 a):=by
    obtain ⟨es,h1,h2⟩:=hrow ad rfl 0 a rfl
    have h1:es=[.int .i64 a]:=h1
    have h3:=PH.cell_in I3.in_ (h2 0 (.int .i64 a) (by rw [h1]; rfl))
    simpa [Addr.add] using h3
  have hl3:(ivs (List.replicate m (0:Int))).length=m:=by simp [ivs]
  refine bm_ (wp_cutN (fun f w'=>∃ k,RI m g a S Fr k f w') ?_ ?_)
  · refine bf_ (wm_ (v:=.slice (some ⟨g,0,none⟩) m m) rfl rfl (wm_ (v:=v) rfl rfl ?_))
    by_cases h0:m=0
    · subst h0
      refine wo_ (op_copy0 (dl:=0) (dc:=0) (sl:=1) (sc:=cap0) rfl Tryz.underlying45 in3 rfl hv2 rfl (wa_ (v:=.int .i64 0) rfl rfl (dx_ ?_)))
      exact ⟨0,Nat.le_refl _,fun h=>h,S,lr,I3,rfl,rfl,rfl⟩
    · refine wo_ (op_copyC (g:=g) (o:=0) (dl:=m) (dc:=m) (sl:=1) (sc:=cap0) (ad:=ad) (ys:=[.int .i64 a]) rfl Tryz.underlying45 in3 rfl hv2 I3 ?_ ?_ ?_ ?_ fun w4 I4=>wa_ (v:=.int .i64 1) rfl rfl (dx_ ?_))
      · show 1=Nat.min 1 m
        exact (Nat.min_eq_left (by omega)).symm
      · intro j u hj
        cases j with
        | zero =>
          obtain rfl:=Option.some.inj hj
          simpa [Addr.add] using hcell
        | succ j=>simp at hj
      · simp [hl3]
        omega
      · intro u hu
        simp at hu
        subst hu
        rfl
      · refine ⟨1,by omega,fun _=>by omega,S,lr,?_,rfl,rfl,rfl⟩
        have:=ivs_row (m:=m) (n:=0) (q:=1) (a:=a) (by omega)
        have e0:rowR m 0 a=List.replicate m 0:=by simp [rowR]
        rw [e0] at this
        rw [← this]
        exact I4
  · rintro f w4 ⟨k0,hk0⟩
    refine bm_ (gh_ (uv_ (I:=fun k f w'=>RI m g a S Fr k f w') (fun k=>m - k) k0 hk0 ?_))
    rintro k f w5 ⟨r1,r2,S5,le5,r3,r4,r5,r6⟩
    refine bm_ (bm_ (bf_ (wm_ rfl r5 (wm_ rfl r4 (wo_ (op_len rfl Tryz.underlying45 rfl (wo_ (yl_ rfl rfl rfl (dx_ ?_)))))))))
    by_cases hkm:k<m
    · refine ni_ rfl (len_t hkm) (mk_ ?_)
      refine gh_ (wp_draw (sps:=[spV 38 [] 0 (.int .i64 k),spV 39 [] 1 (.slice (some ⟨g,0,none⟩) m m),spV 40 [] 2 (.int .i64 k),spV 41 [1,2] 3 (.slice (some ⟨g,k,none⟩) (m - k) (m - k)),spV 42 [] 4 (.slice (some ⟨g,0,none⟩) m m),spV 43 [] 5 (.int .i64 k),
        spV 44 [4,5] 6 (.slice (some ⟨g,0,none⟩) k m),⟨some 45,[1,2,3,4,5,6],[7],fun vs _=>fr0 vs 0 = .int .i64 (Nat.min k (m - k):Nat),[],[0],[1],fun _ h=>h⟩,spV 46 [0,1,2,3,4,5,6,7] 8 (.int .i64 ((k+Nat.min k (m - k):Nat):Int)),spV 8 (lrg 9) 9 (.int .i64 ((k+Nat.min k (m - k):Nat):Int))])
        (tks:=[⟨none,some 7,[],fun _=>kv_ g 3 (ivs (rowR m k a)).toArray⟩,⟨some 7,none,[],fun _=>kv_ g 3 (ivs (rowR m (k+Nat.min k (m - k)) a)).toArray⟩]) (O:=Fr) rfl (by kernel_rfl) r3
        ⟨ob_ rfl fun l A K I=>ms_ rfl ((K 8 (wb_ rfl)).trans r5) (fo I),ob_ rfl fun l A K I=>ms_ rfl ((K 7 (wb_ rfl)).trans r4) (fo I),ob_ rfl fun l A K I=>ms_ rfl ((K 8 (wb_ rfl)).trans r5) (fo I),
          ob_ rfl fun l A K I=>eg_ rfl (sl_l (A.v 0 rfl) (A.v 1 rfl) hkm) (fo I),ob_ rfl fun l A K I=>ms_ rfl ((K 7 (wb_ rfl)).trans r4) (fo I),ob_ rfl fun l A K I=>ms_ rfl ((K 8 (wb_ rfl)).trans r5) (fo I),
          ob_ rfl fun l A K I=>eg_ rfl (sl_h (A.v 0 rfl) (A.v 1 rfl) hkm) (fo I),?_,?_,ob_ rfl fun l A K I=>nr_ rfl (A.v 8 rfl) (fo I),trivial⟩ ?_)
      · intro vs f w_ U X le A K I
        have hq:Nat.min k (m - k)≤k∧k+Nat.min k (m - k)≤m:=⟨Nat.min_le_left _ _,by have:Nat.min k (m - k)≤m - k:=Nat.min_le_right _ _; omega⟩
        refine pl_ rfl (op_copyC (g:=g) (o:=k) (dl:=m - k) (dc:=m - k) (sl:=k) (sc:=m) (ad:=⟨g,0,none⟩) (ys:=ivs (List.replicate (Nat.min k (m - k)) a)) rfl Tryz.underlying45 in3 (A.v 2 rfl) (A.v 5 rfl) I (by simp [ivs]) ?_ ?_ ivs_one fun w6 I6 => ?_)
        · intro j u hj
          have hj2:j<Nat.min k (m - k):=by
            have:=(List.getElem?_eq_some_iff.1 hj).1
            simpa [ivs] using this
          have e:u = .int .i64 a:=by
            unfold ivs at hj
            rw [List.getElem?_map,List.getElem?_replicate,if_pos hj2] at hj
            exact (Option.some.inj hj).symm
          rw [gb_,Nat.zero_add,I.cell,e]
          have:=rowR_at (m:=m) (n:=k) (j:=j) (a:=a) (by omega)
          simpa using this
        · have:(ivs (rowR m k a)).toArray.size=m:=by simp [ivs_len,rowR_len r1]
          rw [this]
          simpa [ivs] using hq.2
        · have el:(ivs (List.replicate (Nat.min k (m - k)) a)).length=Nat.min k (m - k):=by simp [ivs]
          have e:=ivs_row (m:=m) (n:=k) (q:=Nat.min k (m - k)) (a:=a) hq.2
          rw [el] at I6
          refine ⟨_,U,rfl,lr,by rw [el]; rfl,?_⟩
          show Inv w6 U (kv_ g 3 (ivs (rowR m (k+Nat.min k (m - k)) a)).toArray::_)
          rw [← e]
          exact I6
      · intro vs f w_ U X le A K I
        have hq:k+Nat.min k (m - k)≤m:=by
          have:Nat.min k (m - k)≤m - k:=Nat.min_le_right _ _
          omega
        have e:w64 ((k:Int)+(Nat.min k (m - k):Nat))=((k+Nat.min k (m - k):Nat):Int):=by
          rw [kx_ (by omega) (by omega)]
          rfl
        refine pl_ rfl (op_add rfl (A.v 0 rfl) (A.v 7 rfl) ?_)
        rw [e]
        exact fo I
      · intro vs f6 w6 S6 ds6 le6 hF hK hI6
        have hq:0<Nat.min k (m - k)∧k+Nat.min k (m - k)≤m:=by
          have h1:Nat.min k (m - k)≤m - k:=Nat.min_le_right _ _
          refine ⟨Nat.lt_min.2 ⟨r2 (by omega),by omega⟩,by omega⟩
        have e8:f6 8 = .int .i64 ((k+Nat.min k (m - k):Nat):Int):=hF.v 9 rfl
        have e7:f6 7 = .slice (some ⟨g,0,none⟩) m m:=(hK 7 (keep_all rfl)).trans r4
        exact ⟨k+Nat.min k (m - k),by omega,hq.2,fun _=>by omega,S6,le5.trans le6,hI6,e7,e8,ds6.trans r6⟩
    · refine jy_ rfl (decide_eq_false (by omega)) (uc_ ?_)
      obtain rfl:k=m:=by omega
      refine bm_ (bf_ (wm_ rfl r4 (wa_ (v:=.slice (some ⟨g,0,none⟩) k k) rfl rfl (dx_ (uu_ ⟨r6,.slice (some ⟨g,0,none⟩) k k,res1 rfl rfl,_,S5,rfl,le5,?_⟩)))))
      refine Inv.shut (A:=@Row Int Ty.int.enc 3 _ (List.replicate k a)) r3 (.inr ⟨g,k,[],ivs (List.replicate k a),[],by simp,by simp [rowR],repL_ivs _,by simp,by simp only [maxLen]; omega,by simp⟩)
noncomputable def ea_ (a0:List Int) (a1:Int):Option (List Int):=match a0 with
  | [a]=>mk? a1 a
  | _=>none
noncomputable def rp_197:Rpt Tryz.prog:=⟨197,[.list .int,.int],.int,3,fun x=>ea_ x.1 x.2.1,fun {w S Fr hv vs x r} hG hI ha hF=>by
  obtain ⟨l,c,u⟩:=x
  match vs,ha with
  | [v1,v2],⟨h1,h2,_⟩ =>
    have hF:ea_ l c=some r:=hF
    match l,hF,h1 with
    | [a],hF,h1 =>
      obtain ⟨c0,c1,rfl⟩:=mk?_some (show mk? c a=some r from hF)
      obtain ⟨m,rfl⟩:=Int.eq_ofNat_of_zero_le c0
      obtain rfl:v2 = .int .i64 (m:Int):=mb_ (S:=S) (qf_ (hv:=hv) (t:=.int) h2)
      have hr:RVt (.list .int) S v1 [a]:=qf_ (hv:=hv) h1
      rw [Int.toNat_natCast]
      refine (rep_walk hI hr (by omega)).mono fun e w' he => ?_
      obtain ⟨u,S',h3,h4,h5⟩:=he
      exact ⟨u,S',h3,h4,h5⟩⟩
end
section
set_option maxRecDepth 100000
set_option maxHeartbeats 0
theorem cz_34:qn_ Tryz.prog 3 .int=some (show Int from 0):=by kernel_rfl
theorem ce_34:Rex.elemOf Tryz.prog 45=some 3:=by kernel_rfl
noncomputable def cp_34:Cpy Tryz.prog:=⟨34,.int,3,fun hc hI h=>clone_ok Tryz.func34 rfl rfl rfl ce_34 cz_34 rfl hc hI h⟩
theorem cz_84:qn_ Tryz.prog 4 .bool=some (show Bool from false):=by kernel_rfl
theorem ce_84:Rex.elemOf Tryz.prog 48=some 4:=by kernel_rfl
noncomputable def cp_84:Cpy Tryz.prog:=⟨84,.bool,4,fun hc hI h=>clone_ok Tryz.func84 rfl rfl rfl ce_84 cz_84 rfl hc hI h⟩
end
section
set_option maxRecDepth 100000
set_option maxHeartbeats 0
def an_70:An:=.z
noncomputable def cs_70:List (Con Tryz.prog):=[]
noncomputable def cl_70:List (Cpy Tryz.prog):=[]
noncomputable def cx_70:Cx Tryz.prog:=cxC cs_70 cl_70
noncomputable def cm_ (a0:(List bd_)):Option ((List bd_)×Unit) :=
 ((push? (α:=bd_) [] a0).bind fun v0 =>
 (some (v0,())))
theorem x_70:au_ cx_70 an_70 70 [(.list br_)] [(.list br_)]=fun x=>cm_ x.1:=by kernel_rfl
noncomputable def c_70:Con Tryz.prog:=av_ _ _ 70 [(.list br_)] [(.list br_)] _ x_70
def an_71:An:=.z
noncomputable def cs_71:List (Con Tryz.prog):=[]
noncomputable def cl_71:List (Cpy Tryz.prog):=[]
noncomputable def cx_71:Cx Tryz.prog:=cxC cs_71 cl_71
noncomputable def dp_ (a0:(List Int)):Option ((List Int)×Unit) :=
 ((push? (α:=Int) [] a0).bind fun v0 =>
 (some (v0,())))
theorem x_71:au_ cx_71 an_71 71 [(.list .int)] [(.list .int)]=fun x=>dp_ x.1:=by kernel_rfl
noncomputable def c_71:Con Tryz.prog:=av_ _ _ 71 [(.list .int)] [(.list .int)] _ x_71
def an_31:An:=.z
noncomputable def cs_31:List (Con Tryz.prog):=[]
noncomputable def cl_31:List (Cpy Tryz.prog):=[]
noncomputable def cx_31:Cx Tryz.prog:=cxC cs_31 cl_31
noncomputable def gu_ (a0:ak_):Option (ak_×Unit) :=
 ((push? (α:=Int) [] a0.2.2.2.2.2.1).bind fun v0 =>
 (some ((a0.1,(a0.2.1,(a0.2.2.1,(a0.2.2.2.1,(a0.2.2.2.2.1,(v0,a0.2.2.2.2.2.2)))))),())))
theorem x_31:au_ cx_31 an_31 31 [ap_] [ap_]=fun x=>gu_ x.1:=by kernel_rfl
noncomputable def c_31:Con Tryz.prog:=av_ _ _ 31 [ap_] [ap_] _ x_31
def an_28:An:=(.p .z (.p (.j0 [.v 49 .bool] .z .z) (.p (.p .z (.ls [.v 3 .int] [] [] 0 .z)) (.p (.p .z (.ls [.v 4 .int] [] [] 2 .z)) (.p (.p .z (.ls [.v 5 .int] [] [] 4 (.p .z (.p (.j0 [.v 103 .bool] .z .z) .z)))) (.p (.p .z (.ls [.v 6 .int] [] [] 6 .z)) (.p (.p .z (.ls [.v 7 .int] [] [] 8 (.p .z (.p (.p .z (.j0 [.v 164 .bool] .z .z)) .z)))) (.p (.p .z (.ls [.v 9 .int] [] [] 10 .z)) .z))))))))
noncomputable def cs_28:List (Con Tryz.prog):=[]
noncomputable def cl_28:List (Cpy Tryz.prog):=[]
noncomputable def cx_28:Cx Tryz.prog:=cxC cs_28 cl_28
noncomputable def na_ (a0:ad_):Option (Bool×Unit) :=
 (((cond (decide (12<(a0.1.length:Int)))
 (some (true,()))
 (cond (decide (15<(a0.2.1.length:Int)))
 (some (true,()))
 (cond (decide (14<(a0.2.2.1.length:Int)))
 (some (true,()))
 (cond (decide (20<(a0.2.2.2.1.length:Int)))
 (some (true,()))
 (cond (decide (30<(a0.2.2.2.2.1.length:Int)))
 (some (true,()))
 (cond (decide (15<(a0.2.2.2.2.2.1.length:Int)))
 (some (true,()))
 (some ((decide (20<(a0.2.2.2.2.2.2.2.length:Int))),()))))))))).bind fun v0 =>
 (cond v0.1
 (some (true,()))
 ((ae_ (ρ:=(Unit⊕(Bool×Unit))) (fun (v1:(Int×Unit)) =>
 (cond (decide (v1.1<(a0.1.length:Int)))
 ((at? a0.1 v1.1).bind fun v2 =>
 (cond (decide (100<(v2.length:Int)))
 (some (Sum.inr (Sum.inr (true,()))))
 (some (Sum.inl ((w64 (v1.1+1)),())))))
 (some (Sum.inr (Sum.inl ()))))) (0,())).bind fun v3 =>
 (bv_ v3 (fun v4=>((ae_ (ρ:=(Unit⊕(Bool×Unit))) (fun (v6:(Int×Unit)) =>
 (cond (decide (v6.1<(a0.2.1.length:Int)))
 ((at? a0.2.1 v6.1).bind fun v7 =>
 (cond (decide (100<(v7.1.length:Int)))
 (some (Sum.inr (Sum.inr (true,()))))
 (some (Sum.inl ((w64 (v6.1+1)),())))))
 (some (Sum.inr (Sum.inl ()))))) (0,())).bind fun v8 =>
 (bv_ v8 (fun v9=>((ae_ (ρ:=(Unit⊕(Bool×Unit))) (fun (v11:(Int×Unit)) =>
 (cond (decide (v11.1<(a0.2.2.1.length:Int)))
 ((((at? a0.2.2.1 v11.1).bind fun v12 =>
 (cond (decide (100<(v12.1.length:Int)))
 (some (true,()))
 ((at? a0.2.2.1 v11.1).bind fun v13 =>
 (some ((decide (20<(v13.2.2.length:Int))),())))))).bind fun v14 =>
 (cond v14.1
 (some (Sum.inr (Sum.inr (true,()))))
 (some (Sum.inl ((w64 (v11.1+1)),())))))
 (some (Sum.inr (Sum.inl ()))))) (0,())).bind fun v15 =>
 (bv_ v15 (fun v16=>((ae_ (ρ:=(Unit⊕(Bool×Unit))) (fun (v18:(Int×Unit)) =>
 (cond (decide (v18.1<(a0.2.2.2.1.length:Int)))
 ((at? a0.2.2.2.1 v18.1).bind fun v19 =>
 (cond (decide (20<(v19.2.2.length:Int)))
 (some (Sum.inr (Sum.inr (true,()))))
 (some (Sum.inl ((w64 (v18.1+1)),())))))
 (some (Sum.inr (Sum.inl ()))))) (0,())).bind fun v20 =>
 (bv_ v20 (fun v21=>((ae_ (ρ:=(Unit⊕(Bool×Unit))) (fun (v23:(Int×Unit)) =>
 (cond (decide (v23.1<(a0.2.2.2.2.1.length:Int)))
 ((at? a0.2.2.2.2.1 v23.1).bind fun v24 =>
 (((cond (decide (100<(v24.1.length:Int)))
 (some (true,()))
 (cond (decide (20<(v24.2.2.2.2.1.length:Int)))
 (some (true,()))
 (cond (decide (20<(v24.2.2.2.1.length:Int)))
 (some (true,()))
 (cond (decide (20<(v24.2.2.2.2.2.1.length:Int)))
 (some (true,()))
 (cond (decide (20<(v24.2.2.2.2.2.2.1.length:Int)))
 (some (true,()))
 (some ((decide (20<(v24.2.2.2.2.2.2.2.length:Int))),())))))))).bind fun v25 =>
 (cond v25.1
 (some (Sum.inr (Sum.inr (true,()))))
 (some (Sum.inl ((w64 (v23.1+1)),()))))))
 (some (Sum.inr (Sum.inl ()))))) (0,())).bind fun v26 =>
 (bv_ v26 (fun v27=>((ae_ (ρ:=(Unit⊕(Bool×Unit))) (fun (v29:(Int×Unit)) =>
 (cond (decide (v29.1<(a0.2.2.2.2.2.1.length:Int)))
 ((at? a0.2.2.2.2.2.1 v29.1).bind fun v30 =>
 (cond (decide (20<(v30.1.length:Int)))
 (some (Sum.inr (Sum.inr (true,()))))
 (some (Sum.inl ((w64 (v29.1+1)),())))))
 (some (Sum.inr (Sum.inl ()))))) (0,())).bind fun v31 =>
 (bv_ v31 (fun v32=>(some (false,())))
 (fun v33=>(some v33)))))
 (fun v28=>(some v28)))))
 (fun v22=>(some v22)))))
 (fun v17=>(some v17)))))
 (fun v10=>(some v10)))))
 (fun v5=>(some v5))))))
theorem x_28:au_ cx_28 an_28 28 [ao_] [.bool]=fun x=>na_ x.1:=by kernel_rfl
noncomputable def c_28:Con Tryz.prog:=av_ _ _ 28 [ao_] [.bool] _ x_28
def an_93:An:=.z
noncomputable def cs_93:List (Con Tryz.prog):=[]
noncomputable def cl_93:List (Cpy Tryz.prog):=[]
noncomputable def cx_93:Cx Tryz.prog:=cxC cs_93 cl_93
noncomputable def bq_ (a0:Int) (a1:Int) (a2:Int):Option (Bool×Unit) :=
 (cond (decide (a1≤a0))
 (some ((decide (a0≤a2)),()))
 (some (false,())))
theorem x_93:au_ cx_93 an_93 93 [.int,.int,.int] [.bool]=fun x=>bq_ x.1 x.2.1 x.2.2.1:=by kernel_rfl
noncomputable def c_93:Con Tryz.prog:=av_ _ _ 93 [.int,.int,.int] [.bool] _ x_93
def an_269:An:=.z
noncomputable def cs_269:List (Con Tryz.prog):=[]
noncomputable def cl_269:List (Cpy Tryz.prog):=[]
noncomputable def cx_269:Cx Tryz.prog:=cxC cs_269 cl_269
noncomputable def f_ref02_words  : Option ((List (List UInt8))×Unit) :=
 (some ([[97,116],[115,116,97,116,101,115],[115,116,97,114,116],[103,111,110,101],[105,102],[108,111,99,107],[119,105,116,104],[115,101,116,115],[115,112,101,110,100,115],[98,114,105,110,103,115]],()))
theorem x_269:au_ cx_269 an_269 269 [] [(.list .str)]=fun x=>f_ref02_words:=by kernel_rfl
noncomputable def c_269:Con Tryz.prog:=av_ _ _ 269 [] [(.list .str)] _ x_269
def an_164:An:=(.p .z (.p (.p .z (.ls [.v 5 .int] [] [] 0 (.p .z (.p (.p (.q [] .z .z) .z) .z)))) .z))
noncomputable def cs_164:List (Con Tryz.prog):=[]
noncomputable def cl_164:List (Cpy Tryz.prog):=[]
noncomputable def cx_164:Cx Tryz.prog:=cxC cs_164 cl_164
noncomputable def fq_ (a0:(List (List UInt8))) (a1:Int):Option (Bool×Unit) :=
 ((ae_ (ρ:=(Unit⊕(Bool×Unit))) (fun (v0:(Int×Unit)) =>
 (cond (decide (v0.1<a1))
 ((at? a0 v0.1).bind fun v1 =>
 ((at? a0 a1).bind fun v2 =>
 (cond (v1==v2)
 (some (Sum.inr (Sum.inr (true,()))))
 (some (Sum.inl ((w64 (v0.1+1)),()))))))
 (some (Sum.inr (Sum.inl ()))))) (0,())).bind fun v3 =>
 (bv_ v3 (fun v4=>(some (false,())))
 (fun v5=>(some v5))))
theorem x_164:au_ cx_164 an_164 164 [(.list .str),.int] [.bool]=fun x=>fq_ x.1 x.2.1:=by kernel_rfl
noncomputable def c_164:Con Tryz.prog:=av_ _ _ 164 [(.list .str),.int] [.bool] _ x_164
def an_230:An:=(.p .z (.p (.p .z (.ls [.v 5 .int] [] [] 0 .z)) .z))
noncomputable def cs_230:List (Con Tryz.prog):=[]
noncomputable def cl_230:List (Cpy Tryz.prog):=[]
noncomputable def cx_230:Cx Tryz.prog:=cxC cs_230 cl_230
noncomputable def mh_ (a0:(List Int)) (a1:Int):Option (Bool×Unit) :=
 ((ae_ (ρ:=(Unit⊕(Bool×Unit))) (fun (v0:(Int×Unit)) =>
 (cond (decide (v0.1<(a0.length:Int)))
 ((at? a0 v0.1).bind fun v1 =>
 (cond (v1==a1)
 (some (Sum.inr (Sum.inr (true,()))))
 (some (Sum.inl ((w64 (v0.1+1)),())))))
 (some (Sum.inr (Sum.inl ()))))) (0,())).bind fun v2 =>
 (bv_ v2 (fun v3=>(some (false,())))
 (fun v4=>(some v4))))
theorem x_230:au_ cx_230 an_230 230 [(.list .int),.int] [.bool]=fun x=>mh_ x.1 x.2.1:=by kernel_rfl
noncomputable def c_230:Con Tryz.prog:=av_ _ _ 230 [(.list .int),.int] [.bool] _ x_230
def an_166:An:=.z
noncomputable def cs_166:List (Con Tryz.prog):=[]
noncomputable def cl_166:List (Cpy Tryz.prog):=[]
noncomputable def cx_166:Cx Tryz.prog:=cxC cs_166 cl_166
noncomputable def bi_ (a0:Int) (a1:Int) (a2:Int):Option (Bool×Unit) :=
 (cond (decide (a1≤a0))
 (some ((decide (a0≤a2)),()))
 (some (false,())))
theorem x_166:au_ cx_166 an_166 166 [.int,.int,.int] [.bool]=fun x=>bi_ x.1 x.2.1 x.2.2.1:=by kernel_rfl
noncomputable def c_166:Con Tryz.prog:=av_ _ _ 166 [.int,.int,.int] [.bool] _ x_166
def an_90:An:=.z
noncomputable def cs_90:List (Con Tryz.prog):=[]
noncomputable def cl_90:List (Cpy Tryz.prog):=[]
noncomputable def cx_90:Cx Tryz.prog:=cxC cs_90 cl_90
noncomputable def iq_ (a0:Int) (a1:Int) (a2:Int):Option (Bool×Unit) :=
 (cond (decide (a1≤a0))
 (some ((decide (a0≤a2)),()))
 (some (false,())))
theorem x_90:au_ cx_90 an_90 90 [.int,.int,.int] [.bool]=fun x=>iq_ x.1 x.2.1 x.2.2.1:=by kernel_rfl
noncomputable def c_90:Con Tryz.prog:=av_ _ _ 90 [.int,.int,.int] [.bool] _ x_90
def an_168:An:=.z
noncomputable def cs_168:List (Con Tryz.prog):=[]
noncomputable def cl_168:List (Cpy Tryz.prog):=[]
noncomputable def cx_168:Cx Tryz.prog:=cxC cs_168 cl_168
noncomputable def ld_ (a0:ak_):Option (Bool×Unit) :=
 (cond (a0.1==0)
 (cond (a0.2.1==0)
 (cond (a0.2.2.1==0)
 (cond (a0.2.2.2.1==0)
 (cond (a0.2.2.2.2.1==0)
 (cond ((a0.2.2.2.2.2.1.length:Int)==0)
 (some ((!a0.2.2.2.2.2.2),()))
 (some (false,())))
 (some (false,())))
 (some (false,())))
 (some (false,())))
 (some (false,())))
 (some (false,())))
theorem x_168:au_ cx_168 an_168 168 [ap_] [.bool]=fun x=>ld_ x.1:=by kernel_rfl
noncomputable def c_168:Con Tryz.prog:=av_ _ _ 168 [ap_] [.bool] _ x_168
def an_47:An:=(.p .z (.p .z (.p (.p .z (.ls [.v 5 .int] [] [] 0 (.p .z (.p (.p (.q [] .z .z) .z) .z)))) .z)))
noncomputable def cs_47:List (Con Tryz.prog):=[]
noncomputable def cl_47:List (Cpy Tryz.prog):=[]
noncomputable def cx_47:Cx Tryz.prog:=cxC cs_47 cl_47
noncomputable def gv_ (a0:(List Int)) (a1:(List Int)):Option (Bool×Unit) :=
 (cond ((a0.length:Int) != (a1.length:Int))
 (some (false,()))
 ((ae_ (ρ:=(Unit⊕(Bool×Unit))) (fun (v0:(Int×Unit)) =>
 (cond (decide (v0.1<(a0.length:Int)))
 ((at? a0 v0.1).bind fun v1 =>
 ((at? a1 v0.1).bind fun v2 =>
 (cond (v1 != v2)
 (some (Sum.inr (Sum.inr (false,()))))
 (some (Sum.inl ((w64 (v0.1+1)),()))))))
 (some (Sum.inr (Sum.inl ()))))) (0,())).bind fun v3 =>
 (bv_ v3 (fun v4=>(some (true,())))
 (fun v5=>(some v5)))))
theorem x_47:au_ cx_47 an_47 47 [(.list .int),(.list .int)] [.bool]=fun x=>gv_ x.1 x.2.1:=by kernel_rfl
noncomputable def c_47:Con Tryz.prog:=av_ _ _ 47 [(.list .int),(.list .int)] [.bool] _ x_47
def an_232:An:=(.p .z (.p .z (.p (.p .z (.lp [.v 5 .int,.v 6 .int] [.v 5 .int] [] 0 (.p .z (.j0 [.v 5 .int] .z .z)))) .z)))
noncomputable def cs_232:List (Con Tryz.prog):=[]
noncomputable def cl_232:List (Cpy Tryz.prog):=[]
noncomputable def cx_232:Cx Tryz.prog:=cxC cs_232 cl_232
noncomputable def ej_ (a0:(List Int)) (a1:Int):Option (Int×Unit) :=
 ((ae_ (ρ:=(Int×Unit)) (fun (v0:(Int×(Int×Unit))) =>
 (cond (decide (v0.2.1<(a0.length:Int)))
 ((((at? a0 v0.2.1).bind fun v1 =>
 (cond (v1==a1)
 (some ((w64 (v0.1+1)),()))
 (some (v0.1,()))))).bind fun v2 =>
 (some (Sum.inl (v2.1,((w64 (v0.2.1+1)),())))))
 (some (Sum.inr (v0.1,()))))) (0,(0,()))).bind fun v3 =>
 (some (v3.1,())))
theorem x_232:au_ cx_232 an_232 232 [(.list .int),.int] [.int]=fun x=>ej_ x.1 x.2.1:=by kernel_rfl
noncomputable def c_232:Con Tryz.prog:=av_ _ _ 232 [(.list .int),.int] [.int] _ x_232
def an_13:An:=.z
noncomputable def cs_13:List (Con Tryz.prog):=[]
noncomputable def cl_13:List (Cpy Tryz.prog):=[]
noncomputable def cx_13:Cx Tryz.prog:=cxC cs_13 cl_13
noncomputable def fr_ (a0:ah_):Option (ah_×Unit) :=
 ((push? (α:=Int) [] a0.1).bind fun v0 =>
 ((push? (α:=Int) [] a0.2.1).bind fun v1 =>
 ((push? (α:=Int) [] a0.2.2).bind fun v2 =>
 (some ((v0,(v1,v2)),())))))
theorem x_13:au_ cx_13 an_13 13 [aq_] [aq_]=fun x=>fr_ x.1:=by kernel_rfl
noncomputable def c_13:Con Tryz.prog:=av_ _ _ 13 [aq_] [aq_] _ x_13
def an_14:An:=(.p .z (.p (.p .z (.ls [.v 5 .int] [] [] 0 (.p .z (.p (.p (.q [] .z .z) .z) .z)))) .z))
noncomputable def cs_14:List (Con Tryz.prog):=[]
noncomputable def cl_14:List (Cpy Tryz.prog):=[]
noncomputable def cx_14:Cx Tryz.prog:=cxC cs_14 cl_14
noncomputable def bl_ (a0:ah_) (a1:(List bd_)):Option (Bool×Unit) :=
 ((ae_ (ρ:=(Unit⊕(Bool×Unit))) (fun (v0:(Int×Unit)) =>
 (cond (decide (v0.1<(a1.length:Int)))
 ((at? a1 v0.1).bind fun v1 =>
 ((at? a0.1 v1.1).bind fun v2 =>
 ((at? a1 v0.1).bind fun v3 =>
 ((at? a1 v0.1).bind fun v4 =>
 (cond ((v2==v3.2.1)==v4.2.2)
 (some (Sum.inr (Sum.inr (false,()))))
 (some (Sum.inl ((w64 (v0.1+1)),()))))))))
 (some (Sum.inr (Sum.inl ()))))) (0,())).bind fun v5 =>
 (bv_ v5 (fun v6=>(some (true,())))
 (fun v7=>(some v7))))
theorem x_14:au_ cx_14 an_14 14 [aq_,(.list br_)] [.bool]=fun x=>bl_ x.1 x.2.1:=by kernel_rfl
noncomputable def c_14:Con Tryz.prog:=av_ _ _ 14 [aq_,(.list br_)] [.bool] _ x_14
def an_121:An:=.z
noncomputable def cs_121 (f:List (Con Tryz.prog)):List (Con Tryz.prog):=f++[]
noncomputable def cl_121:List (Cpy Tryz.prog):=[]
noncomputable def cx_121 (f:List (Con Tryz.prog)):Cx Tryz.prog:=cxC (cs_121 f) cl_121
noncomputable def g_121 (cd_:Int→Option ((List UInt8)×Unit)) (a0:Int):Option ((List UInt8)×Unit) :=
 ((sub? [48,49,50,51,52,53,54,55,56,57] (Int.tmod a0 10) (w64 ((Int.tmod a0 10)+1))).bind fun v0 =>
 (cond (decide (a0<10))
 (some (v0,()))
 ((cd_ (w64 (Int.tdiv a0 10))).bind fun v1 =>
 ((cat? v1.1 v0).bind fun v2 =>
 (some (v2,()))))))
theorem xr_121:(fun (F:Int→Option ((List UInt8)×Unit)) (h:ConOk Tryz.prog 121 [.int] [.str] (fun x=>F x.1))=>au_ (cx_121 [cnv 121 [.int] [.str] _ h]) an_121 121 [.int] [.str])=fun F h x=>g_121 F x.1:=by kernel_rfl
noncomputable def dq_:Nat→Int→Option ((List UInt8)×Unit)
  | 0=>fun _=>none
  | n+1=>g_121 (dq_ n)
theorem ok_121:∀ n,ConOk Tryz.prog 121 [.int] [.str] (fun x=>dq_ n x.1)
  | 0=>fun _ _ _ h=>(by cases h)
  | n+1=>fun hG hI ha h=>(av_ _ _ 121 [.int] [.str] _ (congrFun (congrFun xr_121 (dq_ n)) (ok_121 n))).ok hG hI ha h
noncomputable def cd_ (a0:Int):Option ((List UInt8)×Unit):=dq_ 20 a0
noncomputable def c_121:Con Tryz.prog:=cnv 121 [.int] [.str] (fun x=>cd_ x.1) (ok_121 20)
def an_251:An:=(.p .z (.p .z (.p (.p .z (.lp [.v 5 .int,.v 6 .int] [.v 5 .int] [] 0 (.p .z (.j0 [.v 5 .int] .z .z)))) .z)))
noncomputable def cs_251:List (Con Tryz.prog):=[]
noncomputable def cl_251:List (Cpy Tryz.prog):=[]
noncomputable def cx_251:Cx Tryz.prog:=cxC cs_251 cl_251
noncomputable def he_ (a0:ah_) (a1:Int):Option (Int×Unit) :=
 ((ae_ (ρ:=(Int×Unit)) (fun (v0:(Int×(Int×Unit))) =>
 (cond (decide (v0.2.1<(a0.2.1.length:Int)))
 ((((at? a0.2.1 v0.2.1).bind fun v1 =>
 (cond (v1==(w64 ((-2) - a1)))
 (some ((w64 (v0.1+1)),()))
 (some (v0.1,()))))).bind fun v2 =>
 (some (Sum.inl (v2.1,((w64 (v0.2.1+1)),())))))
 (some (Sum.inr (v0.1,()))))) (0,(0,()))).bind fun v3 =>
 (some (v3.1,())))
theorem x_251:au_ cx_251 an_251 251 [aq_,.int] [.int]=fun x=>he_ x.1 x.2.1:=by kernel_rfl
noncomputable def c_251:Con Tryz.prog:=av_ _ _ 251 [aq_,.int] [.int] _ x_251
def an_113:An:=(.p .z (.p .z (.p (.p .z (.lp [.r 7 .int 3,.v 8 .int] [.r 7 .int 3] [] 0 (.p .z (.j0 [.r 7 .int 3] (.j0 [.v 30 .bool] .z .z) .z)))) .z)))
noncomputable def cs_113:List (Con Tryz.prog):=[]
noncomputable def cl_113:List (Cpy Tryz.prog):=[]
noncomputable def cx_113:Cx Tryz.prog:=cxC cs_113 cl_113
noncomputable def ho_ (a0:ac_) (a1:aa_) (a2:Int):Option ((List Int)×Unit) :=
 ((ae_ (ρ:=((List Int)×Unit)) (fun (v0:((List Int)×(Int×Unit))) =>
 (cond (decide (v0.2.1<(a0.2.2.2.1.length:Int)))
 ((((((at? a1.2 v0.2.1).bind fun v1 =>
 (cond v1
 ((at? a0.2.2.2.1 v0.2.1).bind fun v2 =>
 (some ((v2.2.2.1==a2),())))
 (some (false,()))))).bind fun v3 =>
 (cond v3.1
 ((push? (α:=Int) v0.1 [v0.2.1]).bind fun v4 =>
 (some (v4,())))
 (some (v0.1,()))))).bind fun v5 =>
 (some (Sum.inl (v5.1,((w64 (v0.2.1+1)),())))))
 (some (Sum.inr (v0.1,()))))) ([],(0,()))).bind fun v6 =>
 (some (v6.1,())))
theorem x_113:au_ cx_113 an_113 113 [am_,aj_,.int] [(.list .int)]=fun x=>ho_ x.1 x.2.1 x.2.2.1:=by kernel_rfl
noncomputable def c_113:Con Tryz.prog:=av_ _ _ 113 [am_,aj_,.int] [(.list .int)] _ x_113
def an_283:An:=(.p .z (.p .z (.p (.p .z (.lp [.r 5 ap_ 98,.v 6 .int] [.r 5 ap_ 98] [] 0 .z)) .z)))
noncomputable def cs_283:List (Con Tryz.prog):=[]
noncomputable def cl_283:List (Cpy Tryz.prog):=[]
noncomputable def cx_283:Cx Tryz.prog:=cxC cs_283 cl_283
noncomputable def jj_ (a0:ac_) (a1:(List Int)):Option ((List ak_)×Unit) :=
 ((ae_ (ρ:=((List ak_)×Unit)) (fun (v0:((List ak_)×(Int×Unit))) =>
 (cond (decide (v0.2.1<(a1.length:Int)))
 ((at? a1 v0.2.1).bind fun v1 =>
 ((at? a0.2.2.2.1 v1).bind fun v2 =>
 ((push? (α:=ak_) v0.1 [v2.2.2.2.2]).bind fun v3 =>
 (some (Sum.inl (v3,((w64 (v0.2.1+1)),())))))))
 (some (Sum.inr (v0.1,()))))) ([],(0,()))).bind fun v4 =>
 (some (v4.1,())))
theorem x_283:au_ cx_283 an_283 283 [am_,(.list .int)] [(.list ap_)]=fun x=>jj_ x.1 x.2.1:=by kernel_rfl
noncomputable def c_283:Con Tryz.prog:=av_ _ _ 283 [am_,(.list .int)] [(.list ap_)] _ x_283
def an_115:An:=.z
noncomputable def cs_115:List (Con Tryz.prog):=[]
noncomputable def cl_115:List (Cpy Tryz.prog):=[]
noncomputable def cx_115:Cx Tryz.prog:=cxC cs_115 cl_115
noncomputable def wu_  : Option (ad_×Unit) :=
 (some (([[104,97,108,108],[118,97,117,108,116]],([([98,111,120],(0,(2,0))),([100,111,111,114],(0,(2,0)))],([([107,101,121],(0,[(0,(1,false))]))],([(0,(1,[(1,(1,false))]))],([([111,112,101,110],(0,(0,([],([],([(0,1)],([],[]))))))),([116,117,114,110],(0,((-1),([0],([],([(1,1)],([0],[])))))))],([],(1,[]))))))),()))
theorem x_115:au_ cx_115 an_115 115 [] [ao_]=fun x=>wu_:=by kernel_rfl
noncomputable def c_115:Con Tryz.prog:=av_ _ _ 115 [] [ao_] _ x_115
def an_140:An:=.z
noncomputable def cs_140:List (Con Tryz.prog):=[]
noncomputable def cl_140:List (Cpy Tryz.prog):=[]
noncomputable def cx_140:Cx Tryz.prog:=cxC cs_140 cl_140
noncomputable def bc_ (a0:Int) (a1:Int) (a2:Int):Option (Bool×Unit) :=
 (cond (decide (a1≤a0))
 (some ((decide (a0≤a2)),()))
 (some (false,())))
theorem x_140:au_ cx_140 an_140 140 [.int,.int,.int] [.bool]=fun x=>bc_ x.1 x.2.1 x.2.2.1:=by kernel_rfl
noncomputable def c_140:Con Tryz.prog:=av_ _ _ 140 [.int,.int,.int] [.bool] _ x_140
def an_286:An:=(.p .z (.p (.p .z (.ls [.v 8 .int] [] [] 0 .z)) .z))
noncomputable def cs_286:List (Con Tryz.prog):=[]
noncomputable def cl_286:List (Cpy Tryz.prog):=[]
noncomputable def cx_286:Cx Tryz.prog:=cxC cs_286 cl_286
noncomputable def ds_ (a0:(List (List UInt8))) (a1:(List UInt8)):Option (Int×Unit) :=
 ((ae_ (ρ:=(Unit⊕(Int×Unit))) (fun (v0:(Int×Unit)) =>
 (cond (decide (v0.1<(a0.length:Int)))
 ((at? a0 v0.1).bind fun v1 =>
 (cond (a1==v1)
 (some (Sum.inr (Sum.inr (v0.1,()))))
 (some (Sum.inl ((w64 (v0.1+1)),())))))
 (some (Sum.inr (Sum.inl ()))))) (0,())).bind fun v2 =>
 (bv_ v2 (fun v3=>(some ((-1),())))
 (fun v4=>(some v4))))
theorem x_286:au_ cx_286 an_286 286 [(.list .str),.str] [.int]=fun x=>ds_ x.1 x.2.1:=by kernel_rfl
noncomputable def c_286:Con Tryz.prog:=av_ _ _ 286 [(.list .str),.str] [.int] _ x_286
def an_142:An:=.z
noncomputable def cs_142:List (Con Tryz.prog):=[]
noncomputable def cl_142:List (Cpy Tryz.prog):=[]
noncomputable def cx_142:Cx Tryz.prog:=cxC cs_142 cl_142
noncomputable def tx_ (a0:(List UInt8)):Option ((List UInt8)×Unit) :=
 (some (a0,()))
theorem x_142:au_ cx_142 an_142 142 [.str] [.str]=fun x=>tx_ x.1:=by kernel_rfl
noncomputable def c_142:Con Tryz.prog:=av_ _ _ 142 [.str] [.str] _ x_142
def an_144:An:=.z
noncomputable def cs_144:List (Con Tryz.prog):=[]
noncomputable def cl_144:List (Cpy Tryz.prog):=[]
noncomputable def cx_144:Cx Tryz.prog:=cxC cs_144 cl_144
noncomputable def tw_ (a0:gz_):Option ((List UInt8)×Unit) :=
 (some (a0.1,()))
theorem x_144:au_ cx_144 an_144 144 [py_] [.str]=fun x=>tw_ x.1:=by kernel_rfl
noncomputable def c_144:Con Tryz.prog:=av_ _ _ 144 [py_] [.str] _ x_144
def an_146:An:=.z
noncomputable def cs_146:List (Con Tryz.prog):=[]
noncomputable def cl_146:List (Cpy Tryz.prog):=[]
noncomputable def cx_146:Cx Tryz.prog:=cxC cs_146 cl_146
noncomputable def ws_ (a0:jx_):Option ((List UInt8)×Unit) :=
 (some (a0.1,()))
theorem x_146:au_ cx_146 an_146 146 [oy_] [.str]=fun x=>ws_ x.1:=by kernel_rfl
noncomputable def c_146:Con Tryz.prog:=av_ _ _ 146 [oy_] [.str] _ x_146
def an_212:An:=.z
noncomputable def cs_212:List (Con Tryz.prog):=[]
noncomputable def cl_212:List (Cpy Tryz.prog):=[]
noncomputable def cx_212:Cx Tryz.prog:=cxC cs_212 cl_212
noncomputable def xu_ (a0:cg_):Option ((List UInt8)×Unit) :=
 (some (a0.1,()))
theorem x_212:au_ cx_212 an_212 212 [gi_] [.str]=fun x=>xu_ x.1:=by kernel_rfl
noncomputable def c_212:Con Tryz.prog:=av_ _ _ 212 [gi_] [.str] _ x_212
def an_213:An:=(.p .z (.p .z (.p (.p .z (.ls [.v 5 .int,.v 10 .int] [] [] 0 (.p .z (.p .z (.p (.p .z (.p (.j0 [.v 23 .bool] .z .z) .z)) .z))))) .z)))
noncomputable def cs_213:List (Con Tryz.prog):=[]
noncomputable def cl_213:List (Cpy Tryz.prog):=[]
noncomputable def cx_213:Cx Tryz.prog:=cxC cs_213 cl_213
noncomputable def hd_ (a0:ad_) (a1:(List Int)):Option (Bool×Unit) :=
 ((ae_ (ρ:=(Unit⊕(Bool×Unit))) (fun (v0:(Int×(Int×Unit))) =>
 (cond (decide (v0.2.1<(a1.length:Int)))
 ((at? a1 v0.2.1).bind fun v1 =>
 (((cond (decide (v1≤v0.1))
 (some (true,()))
 (some ((decide ((a0.2.2.1.length:Int)≤v1)),())))).bind fun v2 =>
 (cond v2.1
 (some (Sum.inr (Sum.inr (false,()))))
 (some (Sum.inl (v1,((w64 (v0.2.1+1)),())))))))
 (some (Sum.inr (Sum.inl ()))))) ((-1),(0,()))).bind fun v3 =>
 (bv_ v3 (fun v4=>(some (true,())))
 (fun v5=>(some v5))))
theorem x_213:au_ cx_213 an_213 213 [ao_,(.list .int)] [.bool]=fun x=>hd_ x.1 x.2.1:=by kernel_rfl
noncomputable def c_213:Con Tryz.prog:=av_ _ _ 213 [ao_,(.list .int)] [.bool] _ x_213
def an_162:An:=(.p .z (.p (.p .z (.ls [.v 8 .int] [] [] 0 .z)) .z))
noncomputable def cs_162:List (Con Tryz.prog):=[]
noncomputable def cl_162:List (Cpy Tryz.prog):=[]
noncomputable def cx_162:Cx Tryz.prog:=cxC cs_162 cl_162
noncomputable def et_ (a0:(List Int)) (a1:Int):Option (Int×Unit) :=
 ((ae_ (ρ:=(Unit⊕(Int×Unit))) (fun (v0:(Int×Unit)) =>
 (cond (decide (v0.1<(a0.length:Int)))
 ((at? a0 v0.1).bind fun v1 =>
 (cond (a1==v1)
 (some (Sum.inr (Sum.inr (v0.1,()))))
 (some (Sum.inl ((w64 (v0.1+1)),())))))
 (some (Sum.inr (Sum.inl ()))))) (0,())).bind fun v2 =>
 (bv_ v2 (fun v3=>(some ((-1),())))
 (fun v4=>(some v4))))
theorem x_162:au_ cx_162 an_162 162 [(.list .int),.int] [.int]=fun x=>et_ x.1 x.2.1:=by kernel_rfl
noncomputable def c_162:Con Tryz.prog:=av_ _ _ 162 [(.list .int),.int] [.int] _ x_162
def an_150:An:=.z
noncomputable def cs_150:List (Con Tryz.prog):=[]
noncomputable def cl_150:List (Cpy Tryz.prog):=[]
noncomputable def cx_150:Cx Tryz.prog:=cxC cs_150 cl_150
noncomputable def bx_ (a0:Int) (a1:Int) (a2:Int):Option (Bool×Unit) :=
 (cond (decide (a1≤a0))
 (some ((decide (a0≤a2)),()))
 (some (false,())))
theorem x_150:au_ cx_150 an_150 150 [.int,.int,.int] [.bool]=fun x=>bx_ x.1 x.2.1 x.2.2.1:=by kernel_rfl
noncomputable def c_150:Con Tryz.prog:=av_ _ _ 150 [.int,.int,.int] [.bool] _ x_150
def an_79:An:=.z
noncomputable def cs_79:List (Con Tryz.prog):=[]
noncomputable def cl_79:List (Cpy Tryz.prog):=[]
noncomputable def cx_79:Cx Tryz.prog:=cxC cs_79 cl_79
noncomputable def ca_ (a0:Int) (a1:Int) (a2:Int):Option (Bool×Unit) :=
 (cond (decide (a1≤a0))
 (some ((decide (a0≤a2)),()))
 (some (false,())))
theorem x_79:au_ cx_79 an_79 79 [.int,.int,.int] [.bool]=fun x=>ca_ x.1 x.2.1 x.2.2.1:=by kernel_rfl
noncomputable def c_79:Con Tryz.prog:=av_ _ _ 79 [.int,.int,.int] [.bool] _ x_79
def an_154:An:=(.p .z (.p (.p .z (.j0 [.v 5 .bool] .z .z)) (.p (.p .z (.ls [.v 19 .int] [] [] 1 (.p .z (.p .z (.p (.p .z (.j0 [.v 31 .bool] .z .z)) .z))))) .z)))
noncomputable def cs_154:List (Con Tryz.prog):=[]
noncomputable def cl_154:List (Cpy Tryz.prog):=[]
noncomputable def cx_154:Cx Tryz.prog:=cxC cs_154 cl_154
noncomputable def mz_ (a0:(List UInt8)):Option (Bool×Unit) :=
 (((cond (a0==[])
 (some ((a0==[]),()))
 (cond (a0==[97,116])
 (some ((a0==[97,116]),()))
 (cond (a0==[115,116,97,116,101,115])
 (some ((a0==[115,116,97,116,101,115]),()))
 (cond (a0==[115,116,97,114,116])
 (some ((a0==[115,116,97,114,116]),()))
 (cond (a0==[103,111,110,101])
 (some ((a0==[103,111,110,101]),()))
 (cond (a0==[105,102])
 (some ((a0==[105,102]),()))
 (cond (a0==[108,111,99,107])
 (some ((a0==[108,111,99,107]),()))
 (cond (a0==[119,105,116,104])
 (some ((a0==[119,105,116,104]),()))
 (cond (a0==[115,101,116,115])
 (some ((a0==[115,101,116,115]),()))
 (cond (a0==[115,112,101,110,100,115])
 (some ((a0==[115,112,101,110,100,115]),()))
 (some ((a0==[98,114,105,110,103,115]),()))))))))))))).bind fun v0 =>
 (cond v0.1
 (some (false,()))
 ((ae_ (ρ:=(Unit⊕(Bool×Unit))) (fun (v1:(Int×Unit)) =>
 (cond (decide (v1.1<(a0.length:Int)))
 ((((at? a0 v1.1).bind fun v2 =>
 (cond (decide (((UInt8.toNat v2):Int)<97))
 (some (true,()))
 ((at? a0 v1.1).bind fun v3 =>
 (some ((decide (122<((UInt8.toNat v3):Int))),())))))).bind fun v4 =>
 (cond v4.1
 (some (Sum.inr (Sum.inr (false,()))))
 (some (Sum.inl ((w64 (v1.1+1)),())))))
 (some (Sum.inr (Sum.inl ()))))) (0,())).bind fun v5 =>
 (bv_ v5 (fun v6=>(some (true,())))
 (fun v7=>(some v7))))))
theorem x_154:au_ cx_154 an_154 154 [.str] [.bool]=fun x=>mz_ x.1:=by kernel_rfl
noncomputable def c_154:Con Tryz.prog:=av_ _ _ 154 [.str] [.bool] _ x_154
def an_155:An:=.z
noncomputable def cs_155:List (Con Tryz.prog):=[]
noncomputable def cl_155:List (Cpy Tryz.prog):=[]
noncomputable def cx_155:Cx Tryz.prog:=cxC cs_155 cl_155
noncomputable def kl_ (a0:ak_):Option (Bool×Unit) :=
 (cond (a0.1==0)
 (cond (a0.2.1==0)
 (cond (a0.2.2.1==0)
 (cond (a0.2.2.2.1==0)
 (cond (a0.2.2.2.2.1==0)
 (cond ((a0.2.2.2.2.2.1.length:Int)==0)
 (some ((!a0.2.2.2.2.2.2),()))
 (some (false,())))
 (some (false,())))
 (some (false,())))
 (some (false,())))
 (some (false,())))
 (some (false,())))
theorem x_155:au_ cx_155 an_155 155 [ap_] [.bool]=fun x=>kl_ x.1:=by kernel_rfl
noncomputable def c_155:Con Tryz.prog:=av_ _ _ 155 [ap_] [.bool] _ x_155
def an_289:An:=(.p .z (.p .z (.p (.p .z (.lp [.v 4 .int,.v 13 .int] [.v 4 .int] [.o (.s 6) .int,.o (.s 7) .int] 0 (.p .z (.p .z (.p (.p .z (.j0 [.v 4 .int] .z .z)) .z))))) (.p (.p .z (.lp [.v 5 .int,.v 40 .int] [.v 5 .int] [] 2 .z)) .z))))
noncomputable def cs_289:List (Con Tryz.prog):=[]
noncomputable def cl_289:List (Cpy Tryz.prog):=[]
noncomputable def cx_289:Cx Tryz.prog:=cxC cs_289 cl_289
noncomputable def ik_ (a0:(List Int)) (a1:(List Int)):Option (Int×Int×Unit) :=
 ((ae_ (ρ:=(Int×((List Int)×((List Int)×Unit)))) (fun (v0:(Int×(Int×((List Int)×((List Int)×Unit))))) =>
 (cond (decide (v0.2.1<(a0.length:Int)))
 ((at? a0 v0.2.1).bind fun v1 =>
 ((((at? a1 v0.2.1).bind fun v2 =>
 (cond (v1==v2)
 (some ((w64 (v0.1+1)),()))
 (some (v0.1,()))))).bind fun v3 =>
 (cond (decide (v1<(10:Int)))
 ((at? v0.2.2.1 v1).bind fun v4 =>
 ((at? v0.2.2.1 v1).bind fun v5 =>
 (cond (decide (v1<(10:Int)))
 ((at? v0.2.2.1 v1).bind fun v6 =>
 ((at? v0.2.2.1 v1).bind fun v7 =>
 ((at? a1 v0.2.1).bind fun v8 =>
 (cond (decide (v8<(10:Int)))
 ((at? v0.2.2.2.1 v8).bind fun v9 =>
 ((at? v0.2.2.2.1 v8).bind fun v10 =>
 (cond (decide (v8<(10:Int)))
 ((at? v0.2.2.2.1 v8).bind fun v11 =>
 ((at? v0.2.2.2.1 v8).bind fun v12 =>
 (some (Sum.inl (v3.1,((w64 (v0.2.1+1)),((v0.2.2.1.set v1.toNat (w64 (v5+1))),((v0.2.2.2.1.set v8.toNat (w64 (v10+1))),()))))))))
 none)))
 none))))
 none)))
 none)))
 (some (Sum.inr (v0.1,(v0.2.2.1,(v0.2.2.2.1,()))))))) (0,(0,([0,0,0,0,0,0,0,0,0,0],([0,0,0,0,0,0,0,0,0,0],()))))).bind fun v13 =>
 ((ae_ (ρ:=(Int×Unit)) (fun (v14:(Int×(Int×Unit))) =>
 (cond (decide (v14.2.1<10))
 (cond (decide (v14.2.1<(10:Int)))
 ((at? v13.2.1 v14.2.1).bind fun v15 =>
 ((at? v13.2.1 v14.2.1).bind fun v16 =>
 (cond (decide (v14.2.1<(10:Int)))
 ((at? v13.2.2.1 v14.2.1).bind fun v17 =>
 ((at? v13.2.2.1 v14.2.1).bind fun v18 =>
 (some (Sum.inl ((w64 (v14.1+(minI v16 v18))),((w64 (v14.2.1+1)),()))))))
 none)))
 none)
 (some (Sum.inr (v14.1,()))))) (0,(0,()))).bind fun v19 =>
 (some (v13.1,((w64 (v19.1 - v13.1)),())))))
theorem x_289:au_ cx_289 an_289 289 [(.list .int),(.list .int)] [.int,.int]=fun x=>ik_ x.1 x.2.1:=by kernel_rfl
noncomputable def c_289:Con Tryz.prog:=av_ _ _ 289 [(.list .int),(.list .int)] [.int,.int] _ x_289
def an_161:An:=.z
def at_161:FuncId→An:=fun k=>cond (Nat.beq k 157) (.p .z (.j0 [.v 4 .bool] .z .z)) (cond (Nat.beq k 224) (.p .z (.p (.p .z (.ls [.v 8 .int] [] [] 0 .z)) .z)) (cond (Nat.beq k 227) (.p .z (.p (.q [] .z .z) .z)) (.z)))
noncomputable def cs_161:List (Con Tryz.prog):=[]
noncomputable def cl_161:List (Cpy Tryz.prog):=[]
noncomputable def cx_161:Cx Tryz.prog:=cxI at_161 (fun k=>false) (cxC cs_161 cl_161) 4
noncomputable def bb_ (a0:hj_) (a1:(List bd_)):Option (Bool×Unit) :=
 ((((ae_ (ρ:=(Unit⊕(Bool×Unit))) (fun (v0:(Int×Unit)) =>
 (cond (decide (v0.1<(a1.length:Int)))
 ((at? a1 v0.1).bind fun v1 =>
 ((at? a0.2.1 v1.1).bind fun v2 =>
 (cond ((v2==v1.2.1)==v1.2.2)
 (some (Sum.inr (Sum.inr ((decide (0≤v0.1)),()))))
 (some (Sum.inl ((w64 (v0.1+1)),()))))))
 (some (Sum.inr (Sum.inl ()))))) (0,())).bind fun v3 =>
 (bv_ v3 (fun v4=>(some ((decide (0≤(-1))),())))
 (fun v5=>(some v5))))).bind fun v6 =>
 (some ((!v6.1),())))
theorem x_161:au_ cx_161 an_161 161 [(.ref fa_),(.list br_)] [.bool]=fun x=>bb_ x.1 x.2.1:=by kernel_rfl
noncomputable def c_161:Con Tryz.prog:=av_ _ _ 161 [(.ref fa_),(.list br_)] [.bool] _ x_161
def an_281:An:=(.p .z (.p (.p .z (.lp [.v 4 .int,.v 13 .int] [.v 4 .int] [] 0 (.p .z (.p .z (.j0 [.v 4 .int] .z .z))))) .z))
noncomputable def cs_281:List (Con Tryz.prog):=[]
noncomputable def cl_281:List (Cpy Tryz.prog):=[]
noncomputable def cx_281:Cx Tryz.prog:=cxC cs_281 cl_281
noncomputable def dh_ (a0:hj_) (a1:Int):Option (Int×Unit) :=
 ((ae_ (ρ:=(Int×Unit)) (fun (v0:(Int×(Int×Unit))) =>
 (cond (decide (v0.2.1<(a0.2.2.1.length:Int)))
 ((((at? a0.2.2.1 v0.2.1).bind fun v1 =>
 (cond (v1==(w64 ((-2) - a1)))
 (some ((w64 (v0.1+1)),()))
 (some (v0.1,()))))).bind fun v2 =>
 (some (Sum.inl (v2.1,((w64 (v0.2.1+1)),())))))
 (some (Sum.inr (v0.1,()))))) (0,(0,()))).bind fun v3 =>
 (some (v3.1,())))
theorem x_281:au_ cx_281 an_281 281 [(.ref fa_),.int] [.int]=fun x=>dh_ x.1 x.2.1:=by kernel_rfl
noncomputable def c_281:Con Tryz.prog:=av_ _ _ 281 [(.ref fa_),.int] [.int] _ x_281
def an_248:An:=(.p .z (.p .z (.p (.p .z (.lp [.v 3 .str,.v 9 .int] [.v 3 .str] [] 0 .z)) .z)))
noncomputable def cs_248:List (Con Tryz.prog):=[c_275]
noncomputable def cl_248:List (Cpy Tryz.prog):=[]
noncomputable def cx_248:Cx Tryz.prog:=cxC cs_248 cl_248
noncomputable def lk_ (a0:aa_):Option ((List UInt8)×Unit) :=
 ((ae_ (ρ:=((List UInt8)×Unit)) (fun (v0:((List UInt8)×(Int×Unit))) =>
 (cond (decide (v0.2.1<(a0.2.length:Int)))
 ((at? a0.2 v0.2.1).bind fun v1 =>
 ((dy_ v1).bind fun v2 =>
 ((cat? v2.1 [32]).bind fun v3 =>
 ((cat? v0.1 v3).bind fun v4 =>
 (some (Sum.inl (v4,((w64 (v0.2.1+1)),()))))))))
 (some (Sum.inr (v0.1,()))))) ([],(0,()))).bind fun v5 =>
 (some (v5.1,())))
theorem x_248:au_ cx_248 an_248 248 [aj_] [.str]=fun x=>lk_ x.1:=by kernel_rfl
noncomputable def c_248:Con Tryz.prog:=av_ _ _ 248 [aj_] [.str] _ x_248
def an_126:An:=.z
noncomputable def cs_126:List (Con Tryz.prog):=[]
noncomputable def cl_126:List (Cpy Tryz.prog):=[]
noncomputable def cx_126:Cx Tryz.prog:=cxC cs_126 cl_126
noncomputable def f_prove_every (a0:ai_):Option (Bool×Unit) :=
 (some (true,()))
theorem x_126:au_ cx_126 an_126 126 [ck_] [.bool]=fun x=>f_prove_every x.1:=by kernel_rfl
noncomputable def c_126:Con Tryz.prog:=av_ _ _ 126 [ck_] [.bool] _ x_126
def an_128:An:=.z
noncomputable def cs_128:List (Con Tryz.prog):=[]
noncomputable def cl_128:List (Cpy Tryz.prog):=[]
noncomputable def cx_128:Cx Tryz.prog:=cxC cs_128 cl_128
noncomputable def lc_ (a0:ai_) (a1:Int):Option (Bool×Unit) :=
 (cond (a0.1.2.1==4)
 (some ((a0.1.2.2==a1),()))
 (some (false,())))
theorem x_128:au_ cx_128 an_128 128 [ck_,.int] [.bool]=fun x=>lc_ x.1 x.2.1:=by kernel_rfl
noncomputable def c_128:Con Tryz.prog:=av_ _ _ 128 [ck_,.int] [.bool] _ x_128
def an_26:An:=(.p .z (.p .z (.p (.p .z (.ls [.v 5 .int] [] [] 0 (.p .z (.p (.p (.q [] .z .z) .z) .z)))) .z)))
noncomputable def cs_26:List (Con Tryz.prog):=[]
noncomputable def cl_26:List (Cpy Tryz.prog):=[]
noncomputable def cx_26:Cx Tryz.prog:=cxC cs_26 cl_26
noncomputable def bk_ (a0:(List Int)) (a1:(List Int)):Option (Bool×Unit) :=
 (cond ((a0.length:Int) != (a1.length:Int))
 (some (false,()))
 ((ae_ (ρ:=(Unit⊕(Bool×Unit))) (fun (v0:(Int×Unit)) =>
 (cond (decide (v0.1<(a0.length:Int)))
 ((at? a0 v0.1).bind fun v1 =>
 ((at? a1 v0.1).bind fun v2 =>
 (cond (v1 != v2)
 (some (Sum.inr (Sum.inr (false,()))))
 (some (Sum.inl ((w64 (v0.1+1)),()))))))
 (some (Sum.inr (Sum.inl ()))))) (0,())).bind fun v3 =>
 (bv_ v3 (fun v4=>(some (true,())))
 (fun v5=>(some v5)))))
theorem x_26:au_ cx_26 an_26 26 [(.list .int),(.list .int)] [.bool]=fun x=>bk_ x.1 x.2.1:=by kernel_rfl
noncomputable def c_26:Con Tryz.prog:=av_ _ _ 26 [(.list .int),(.list .int)] [.bool] _ x_26
def an_130:An:=(.p .z (.p .z (.p (.p .z (.ls [.v 5 .int] [] [] 0 (.p .z (.p (.p (.q [] .z .z) .z) .z)))) .z)))
noncomputable def cs_130:List (Con Tryz.prog):=[]
noncomputable def cl_130:List (Cpy Tryz.prog):=[]
noncomputable def cx_130:Cx Tryz.prog:=cxC cs_130 cl_130
noncomputable def cl_ (a0:(List bd_)) (a1:(List bd_)):Option (Bool×Unit) :=
 (cond ((a0.length:Int) != (a1.length:Int))
 (some (false,()))
 ((ae_ (ρ:=(Unit⊕(Bool×Unit))) (fun (v0:(Int×Unit)) =>
 (cond (decide (v0.1<(a0.length:Int)))
 ((at? a0 v0.1).bind fun v1 =>
 ((at? a1 v0.1).bind fun v2 =>
 (cond (!((v1.1==v2.1)&&((v1.2.1==v2.2.1)&&(v1.2.2==v2.2.2))))
 (some (Sum.inr (Sum.inr (false,()))))
 (some (Sum.inl ((w64 (v0.1+1)),()))))))
 (some (Sum.inr (Sum.inl ()))))) (0,())).bind fun v3 =>
 (bv_ v3 (fun v4=>(some (true,())))
 (fun v5=>(some v5)))))
theorem x_130:au_ cx_130 an_130 130 [(.list br_),(.list br_)] [.bool]=fun x=>cl_ x.1 x.2.1:=by kernel_rfl
noncomputable def c_130:Con Tryz.prog:=av_ _ _ 130 [(.list br_),(.list br_)] [.bool] _ x_130
end
section
set_option maxRecDepth 100000
set_option maxHeartbeats 0
def an_30:An:=(.p .z (.p .z (.p (.p .z (.lp [.v 4 .int] [] [.o (.s 20) oy_] 0 .z)) (.p (.p .z (.lp [.v 5 .int] [] [.o (.s 24) t_api_Way] 2 .z)) (.p (.p .z (.lp [.v 6 .int] [] [.o (.s 28) gi_] 4 .z)) (.p (.p .z (.lp [.v 8 .int] [] [.o (.s 32) ya_] 6 .z)) .z))))))
noncomputable def cs_30:List (Con Tryz.prog):=[c_70,c_71]
noncomputable def cl_30:List (Cpy Tryz.prog):=[]
noncomputable def cx_30:Cx Tryz.prog:=cxC cs_30 cl_30
noncomputable def lj_ (a0:ad_):Option (ad_×Unit) :=
 ((push? (α:=(List UInt8)) [] a0.1).bind fun v0 =>
 ((push? (α:=gz_) [] a0.2.1).bind fun v1 =>
 ((push? (α:=jx_) [] a0.2.2.1).bind fun v2 =>
 ((push? (α:=oq_) [] a0.2.2.2.1).bind fun v3 =>
 ((push? (α:=cg_) [] a0.2.2.2.2.1).bind fun v4 =>
 ((push? (α:=ps_) [] a0.2.2.2.2.2.1).bind fun v5 =>
 ((cm_ a0.2.2.2.2.2.2.2).bind fun v6 =>
 ((ae_ (ρ:=((List jx_)×Unit)) (fun (v7:(Int×((List jx_)×Unit))) =>
 (cond (decide (v7.1<(v7.2.1.length:Int)))
 ((at? v7.2.1 v7.1).bind fun v8 =>
 ((at? v7.2.1 v7.1).bind fun v9 =>
 ((cm_ v9.2.2).bind fun v10 =>
 ((at? v7.2.1 v7.1).bind fun v11 =>
 ((at? v7.2.1 v7.1).bind fun v12 =>
 (some (Sum.inl ((w64 (v7.1+1)),((v7.2.1.set v7.1.toNat (v12.1,(v12.2.1,v10.1))),())))))))))
 (some (Sum.inr (v7.2.1,()))))) (0,(v2,()))).bind fun v13 =>
 ((ae_ (ρ:=((List oq_)×Unit)) (fun (v14:(Int×((List oq_)×Unit))) =>
 (cond (decide (v14.1<(v14.2.1.length:Int)))
 ((at? v14.2.1 v14.1).bind fun v15 =>
 ((at? v14.2.1 v14.1).bind fun v16 =>
 ((cm_ v16.2.2).bind fun v17 =>
 ((at? v14.2.1 v14.1).bind fun v18 =>
 ((at? v14.2.1 v14.1).bind fun v19 =>
 (some (Sum.inl ((w64 (v14.1+1)),((v14.2.1.set v14.1.toNat (v19.1,(v19.2.1,v17.1))),())))))))))
 (some (Sum.inr (v14.2.1,()))))) (0,(v3,()))).bind fun v20 =>
 ((ae_ (ρ:=((List cg_)×Unit)) (fun (v21:(Int×((List cg_)×Unit))) =>
 (cond (decide (v21.1<(v21.2.1.length:Int)))
 ((at? v21.2.1 v21.1).bind fun v22 =>
 ((at? v21.2.1 v21.1).bind fun v23 =>
 ((dp_ v23.2.2.2.1).bind fun v24 =>
 ((dp_ v23.2.2.2.2.2.2.1).bind fun v25 =>
 ((dp_ v23.2.2.2.2.2.2.2).bind fun v26 =>
 ((cm_ v23.2.2.2.2.1).bind fun v27 =>
 ((push? (α:=ab_) [] v23.2.2.2.2.2.1).bind fun v28 =>
 ((at? v21.2.1 v21.1).bind fun v29 =>
 ((at? v21.2.1 v21.1).bind fun v30 =>
 (some (Sum.inl ((w64 (v21.1+1)),((v21.2.1.set v21.1.toNat (v23.1,(v23.2.1,(v23.2.2.1,(v24.1,(v27.1,(v28,(v25.1,v26.1)))))))),())))))))))))))
 (some (Sum.inr (v21.2.1,()))))) (0,(v4,()))).bind fun v31 =>
 ((ae_ (ρ:=((List ps_)×Unit)) (fun (v32:(Int×((List ps_)×Unit))) =>
 (cond (decide (v32.1<(v32.2.1.length:Int)))
 ((at? v32.2.1 v32.1).bind fun v33 =>
 ((at? v32.2.1 v32.1).bind fun v34 =>
 ((cm_ v34.1).bind fun v35 =>
 ((at? v32.2.1 v32.1).bind fun v36 =>
 ((at? v32.2.1 v32.1).bind fun v37 =>
 (some (Sum.inl ((w64 (v32.1+1)),((v32.2.1.set v32.1.toNat (v35.1,v37.2)),())))))))))
 (some (Sum.inr (v32.2.1,()))))) (0,(v5,()))).bind fun v38 =>
 (some ((v0,(v1,(v13.1,(v20.1,(v31.1,(v38.1,(a0.2.2.2.2.2.2.1,v6.1))))))),())))))))))))))
theorem x_30:au_ cx_30 an_30 30 [ao_] [ao_]=fun x=>lj_ x.1:=by kernel_rfl
noncomputable def c_30:Con Tryz.prog:=av_ _ _ 30 [ao_] [ao_] _ x_30
def an_6:An:=(.p .z (.p (.j0 [.v 27 .bool] .z .z) (.p (.p .z (.ls [.v 3 .int] [] [] 0 (.p .z (.p (.j0 [.v 50 .bool] .z .z) .z)))) (.p (.p .z (.ls [.v 4 .int] [] [] 2 .z)) (.p (.p .z (.ls [.v 5 .int] [] [] 4 (.p .z (.p (.p .z (.j0 [.v 93 .bool] .z .z)) .z)))) .z)))))
noncomputable def cs_6:List (Con Tryz.prog):=[c_28]
noncomputable def cl_6:List (Cpy Tryz.prog):=[]
noncomputable def cx_6:Cx Tryz.prog:=cxC cs_6 cl_6
noncomputable def kn_ (a0:ac_):Option (Bool×Unit) :=
 ((((na_ a0.1).bind fun v0 =>
 (cond v0.1
 (some (true,()))
 (cond (decide (10<(a0.2.1.length:Int)))
 (some (true,()))
 (cond (decide (10<(a0.2.2.1.length:Int)))
 (some (true,()))
 (some ((decide (20<(a0.2.2.2.1.length:Int))),()))))))).bind fun v1 =>
 (cond v1.1
 (some (true,()))
 ((ae_ (ρ:=(Unit⊕(Bool×Unit))) (fun (v2:(Int×Unit)) =>
 (cond (decide (v2.1<(a0.2.1.length:Int)))
 ((((at? a0.2.1 v2.1).bind fun v3 =>
 (cond (decide (3<v3.1))
 ((at? a0.2.1 v2.1).bind fun v4 =>
 (some ((decide (5<v4.2)),())))
 (some (false,()))))).bind fun v5 =>
 (cond v5.1
 (some (Sum.inr (Sum.inr (true,()))))
 (some (Sum.inl ((w64 (v2.1+1)),())))))
 (some (Sum.inr (Sum.inl ()))))) (0,())).bind fun v6 =>
 (bv_ v6 (fun v7=>((ae_ (ρ:=(Unit⊕(Bool×Unit))) (fun (v9:(Int×Unit)) =>
 (cond (decide (v9.1<(a0.2.2.1.length:Int)))
 ((at? a0.2.2.1 v9.1).bind fun v10 =>
 (cond (decide (10<(v10.length:Int)))
 (some (Sum.inr (Sum.inr (true,()))))
 (some (Sum.inl ((w64 (v9.1+1)),())))))
 (some (Sum.inr (Sum.inl ()))))) (0,())).bind fun v11 =>
 (bv_ v11 (fun v12=>((ae_ (ρ:=(Unit⊕(Bool×Unit))) (fun (v14:(Int×Unit)) =>
 (cond (decide (v14.1<(a0.2.2.2.1.length:Int)))
 ((at? a0.2.2.2.1 v14.1).bind fun v15 =>
 (((cond (decide (100<(v15.1.length:Int)))
 (some (true,()))
 (cond (decide (20<(v15.2.2.2.1.length:Int)))
 (some (true,()))
 (some ((decide (10<(v15.2.2.2.2.2.2.2.2.2.1.length:Int))),()))))).bind fun v16 =>
 (cond v16.1
 (some (Sum.inr (Sum.inr (true,()))))
 (some (Sum.inl ((w64 (v14.1+1)),()))))))
 (some (Sum.inr (Sum.inl ()))))) (0,())).bind fun v17 =>
 (bv_ v17 (fun v18=>(some (false,())))
 (fun v19=>(some v19)))))
 (fun v13=>(some v13)))))
 (fun v8=>(some v8))))))
theorem x_6:au_ cx_6 an_6 6 [am_] [.bool]=fun x=>kn_ x.1:=by kernel_rfl
noncomputable def c_6:Con Tryz.prog:=av_ _ _ 6 [am_] [.bool] _ x_6
def an_91:An:=.z
noncomputable def cs_91:List (Con Tryz.prog):=[c_93]
noncomputable def cl_91:List (Cpy Tryz.prog):=[]
noncomputable def cx_91:Cx Tryz.prog:=cxC cs_91 cl_91
noncomputable def gx_ (a0:ad_) (a1:Int) (a2:Int):Option (Bool×Unit) :=
 ((bq_ a1 0 (w64 ((a0.2.1.length:Int) - 1))).bind fun v0 =>
 (cond v0.1
 ((at? a0.2.1 a1).bind fun v1 =>
 ((bq_ a2 0 (w64 (v1.2.2.1 - 1))).bind fun v2 =>
 (some (v2.1,()))))
 (some (false,()))))
theorem x_91:au_ cx_91 an_91 91 [ao_,.int,.int] [.bool]=fun x=>gx_ x.1 x.2.1 x.2.2.1:=by kernel_rfl
noncomputable def c_91:Con Tryz.prog:=av_ _ _ 91 [ao_,.int,.int] [.bool] _ x_91
def an_92:An:=.z
noncomputable def cs_92:List (Con Tryz.prog):=[c_93]
noncomputable def cl_92:List (Cpy Tryz.prog):=[]
noncomputable def cx_92:Cx Tryz.prog:=cxC cs_92 cl_92
noncomputable def cs_ (a0:ad_) (a1:Int):Option (Bool×Unit) :=
 ((bq_ a1 0 (w64 ((a0.1.length:Int) - 1))).bind fun v0 =>
 (some (v0.1,())))
theorem x_92:au_ cx_92 an_92 92 [ao_,.int] [.bool]=fun x=>cs_ x.1 x.2.1:=by kernel_rfl
noncomputable def c_92:Con Tryz.prog:=av_ _ _ 92 [ao_,.int] [.bool] _ x_92
def an_228:An:=(.p .z (.p (.p .z (.ls [.v 3 .int] [] [] 0 (.p .z (.p (.j0 [.v 21 .bool] .z .z) .z)))) (.p .z (.p (.p .z (.ls [.v 5 .int] [] [] 2 .z)) .z))))
noncomputable def cs_228:List (Con Tryz.prog):=[c_269]
noncomputable def cl_228:List (Cpy Tryz.prog):=[]
noncomputable def cx_228:Cx Tryz.prog:=cxC cs_228 cl_228
noncomputable def hr_ (a0:(List UInt8)):Option (Bool×Unit) :=
 ((ae_ (ρ:=(Unit⊕(Bool×Unit))) (fun (v0:(Int×Unit)) =>
 (cond (decide (v0.1<(a0.length:Int)))
 ((((at? a0 v0.1).bind fun v1 =>
 (cond (decide (((UInt8.toNat v1):Int)<97))
 (some (true,()))
 ((at? a0 v0.1).bind fun v2 =>
 (some ((decide (122<((UInt8.toNat v2):Int))),())))))).bind fun v3 =>
 (cond v3.1
 (some (Sum.inr (Sum.inr (false,()))))
 (some (Sum.inl ((w64 (v0.1+1)),())))))
 (some (Sum.inr (Sum.inl ()))))) (0,())).bind fun v4 =>
 (bv_ v4 (fun v5=>((ae_ (ρ:=(Unit⊕(Bool×Unit))) (fun (v7:(Int×Unit)) =>
 (cond (decide (v7.1<(([[97,116],[115,116,97,116,101,115],[115,116,97,114,116],[103,111,110,101],[105,102],[108,111,99,107],[119,105,116,104],[115,101,116,115],[115,112,101,110,100,115],[98,114,105,110,103,115]]).length:Int)))
 ((at? [[97,116],[115,116,97,116,101,115],[115,116,97,114,116],[103,111,110,101],[105,102],[108,111,99,107],[119,105,116,104],[115,101,116,115],[115,112,101,110,100,115],[98,114,105,110,103,115]] v7.1).bind fun v8 =>
 (cond (v8==a0)
 (some (Sum.inr (Sum.inr (false,()))))
 (some (Sum.inl ((w64 (v7.1+1)),())))))
 (some (Sum.inr (Sum.inl ()))))) (0,())).bind fun v9 =>
 (bv_ v9 (fun v10=>(some ((!(a0==[])),())))
 (fun v11=>(some v11)))))
 (fun v6=>(some v6))))
theorem x_228:au_ cx_228 an_228 228 [.str] [.bool]=fun x=>hr_ x.1:=by kernel_rfl
noncomputable def c_228:Con Tryz.prog:=av_ _ _ 228 [.str] [.bool] _ x_228
def an_229:An:=(.p .z (.p (.p .z (.ls [.v 5 .int] [] [] 0 (.p .z (.p (.j0 [.v 37 .bool] (.q [] .z .z) .z) .z)))) .z))
noncomputable def cs_229:List (Con Tryz.prog):=[c_93]
noncomputable def cl_229:List (Cpy Tryz.prog):=[]
noncomputable def cx_229:Cx Tryz.prog:=cxC cs_229 cl_229
noncomputable def di_ (a0:ad_) (a1:(List Int)):Option (Bool×Unit) :=
 ((ae_ (ρ:=(Unit⊕(Bool×Unit))) (fun (v0:(Int×Unit)) =>
 (cond (decide (v0.1<(a1.length:Int)))
 ((((at? a1 v0.1).bind fun v1 =>
 ((bq_ v1 0 (w64 ((a0.2.2.1.length:Int) - 1))).bind fun v2 =>
 (cond (!v2.1)
 (some (true,()))
 (cond (decide (0<v0.1))
 ((at? a1 v0.1).bind fun v3 =>
 ((at? a1 (w64 (v0.1 - 1))).bind fun v4 =>
 (some ((decide (v3≤v4)),()))))
 (some (false,()))))))).bind fun v5 =>
 (cond v5.1
 (some (Sum.inr (Sum.inr (false,()))))
 (some (Sum.inl ((w64 (v0.1+1)),())))))
 (some (Sum.inr (Sum.inl ()))))) (0,())).bind fun v6 =>
 (bv_ v6 (fun v7=>(some (true,())))
 (fun v8=>(some v8))))
theorem x_229:au_ cx_229 an_229 229 [ao_,(.list .int)] [.bool]=fun x=>di_ x.1 x.2.1:=by kernel_rfl
noncomputable def c_229:Con Tryz.prog:=av_ _ _ 229 [ao_,(.list .int)] [.bool] _ x_229
def an_86:An:=(.p .z (.p (.j0 [.v 12 .bool] .z .z) .z))
noncomputable def cs_86:List (Con Tryz.prog):=[c_166]
noncomputable def cl_86:List (Cpy Tryz.prog):=[]
noncomputable def cx_86:Cx Tryz.prog:=cxC cs_86 cl_86
noncomputable def ek_ (a0:ab_):Option (Int×Unit) :=
 ((((bi_ a0.1 1 4).bind fun v0 =>
 (cond (!v0.1)
 (some (true,()))
 ((bi_ a0.2 2 10).bind fun v1 =>
 (some ((!v1.1),())))))).bind fun v2 =>
 (cond v2.1
 (some (10,()))
 (some (0,()))))
theorem x_86:au_ cx_86 an_86 86 [al_] [.int]=fun x=>ek_ x.1:=by kernel_rfl
noncomputable def c_86:Con Tryz.prog:=av_ _ _ 86 [al_] [.int] _ x_86
def an_167:An:=(.p .z (.p .z (.p (.p .z (.ls [.v 5 .int] [] [] 0 (.p .z (.p (.p (.q [] .z .z) .z) .z)))) .z)))
noncomputable def cs_167:List (Con Tryz.prog):=[c_166]
noncomputable def cl_167:List (Cpy Tryz.prog):=[]
noncomputable def cx_167:Cx Tryz.prog:=cxC cs_167 cl_167
noncomputable def go_ (a0:ab_) (a1:(List Int)):Option (Bool×Unit) :=
 (cond ((a1.length:Int) != a0.1)
 (some (false,()))
 ((ae_ (ρ:=(Unit⊕(Bool×Unit))) (fun (v0:(Int×Unit)) =>
 (cond (decide (v0.1<(a1.length:Int)))
 ((at? a1 v0.1).bind fun v1 =>
 ((bi_ v1 0 (w64 (a0.2 - 1))).bind fun v2 =>
 (cond (!v2.1)
 (some (Sum.inr (Sum.inr (false,()))))
 (some (Sum.inl ((w64 (v0.1+1)),()))))))
 (some (Sum.inr (Sum.inl ()))))) (0,())).bind fun v3 =>
 (bv_ v3 (fun v4=>(some (true,())))
 (fun v5=>(some v5)))))
theorem x_167:au_ cx_167 an_167 167 [al_,(.list .int)] [.bool]=fun x=>go_ x.1 x.2.1:=by kernel_rfl
noncomputable def c_167:Con Tryz.prog:=av_ _ _ 167 [al_,(.list .int)] [.bool] _ x_167
def an_55:An:=.z
noncomputable def cs_55:List (Con Tryz.prog):=[c_47]
noncomputable def cl_55:List (Cpy Tryz.prog):=[]
noncomputable def cx_55:Cx Tryz.prog:=cxC cs_55 cl_55
noncomputable def ja_ (a0:ak_) (a1:ak_):Option (Bool×Unit) :=
 (cond (a0.1==a1.1)
 (cond (a0.2.1==a1.2.1)
 (cond (a0.2.2.1==a1.2.2.1)
 (cond (a0.2.2.2.1==a1.2.2.2.1)
 (cond (a0.2.2.2.2.1==a1.2.2.2.2.1)
 (cond (a0.2.2.2.2.2.2==a1.2.2.2.2.2.2)
 ((gv_ a0.2.2.2.2.2.1 a1.2.2.2.2.2.1).bind fun v0 =>
 (some (v0.1,())))
 (some (false,())))
 (some (false,())))
 (some (false,())))
 (some (false,())))
 (some (false,())))
 (some (false,())))
theorem x_55:au_ cx_55 an_55 55 [ap_,ap_] [.bool]=fun x=>ja_ x.1 x.2.1:=by kernel_rfl
noncomputable def c_55:Con Tryz.prog:=av_ _ _ 55 [ap_,ap_] [.bool] _ x_55
def an_233:An:=(.p .z (.p .z (.p (.p .z (.lp [.v 6 .int,.v 8 .int] [.v 6 .int] [] 0 (.p .z (.j0 [.v 6 .int] (.p (.q [] .z .z) .z) .z)))) (.p (.p .z (.lp [.v 7 .int,.v 9 .int] [.v 7 .int] [] 2 .z)) .z))))
noncomputable def cs_233:List (Con Tryz.prog):=[c_232]
noncomputable def cl_233:List (Cpy Tryz.prog):=[]
noncomputable def cx_233:Cx Tryz.prog:=cxC cs_233 cl_233
noncomputable def ij_ (a0:(List Int)) (a1:(List Int)):Option (Int×Int×Unit) :=
 ((ae_ (ρ:=(Int×Unit)) (fun (v0:(Int×(Int×Unit))) =>
 (cond (decide (v0.2.1<(a0.length:Int)))
 ((((at? a0 v0.2.1).bind fun v1 =>
 ((at? a1 v0.2.1).bind fun v2 =>
 (cond (v1==v2)
 (some ((w64 (v0.1+1)),()))
 (some (v0.1,())))))).bind fun v3 =>
 (some (Sum.inl (v3.1,((w64 (v0.2.1+1)),())))))
 (some (Sum.inr (v0.1,()))))) (0,(0,()))).bind fun v4 =>
 ((ae_ (ρ:=(Int×Unit)) (fun (v5:(Int×(Int×Unit))) =>
 (cond (decide (v5.2.1<10))
 ((ej_ a0 v5.2.1).bind fun v6 =>
 ((ej_ a1 v5.2.1).bind fun v7 =>
 (some (Sum.inl ((w64 (v5.1+(minI v6.1 v7.1))),((w64 (v5.2.1+1)),()))))))
 (some (Sum.inr (v5.1,()))))) (0,(0,()))).bind fun v8 =>
 (some (v4.1,((w64 (v8.1 - v4.1)),())))))
theorem x_233:au_ cx_233 an_233 233 [(.list .int),(.list .int)] [.int,.int]=fun x=>ij_ x.1 x.2.1:=by kernel_rfl
noncomputable def c_233:Con Tryz.prog:=av_ _ _ 233 [(.list .int),(.list .int)] [.int,.int] _ x_233
def an_196:An:=(.p .z (.p .z (.p (.p .z (.ls [.v 7 .int] [] [.o (.c (.s 6) 0) .int,.b (.s 4) [.row .int 3,.row .int 3,.row .int 3]] 0 (.p .z (.p (.p .z (.p (.p .z (.lp [.v 8 .int,.v 9 .int] [.v 8 .int] [] 2 (.p (.j0 [.v 25 .bool] .z .z) (.j0 [.v 8 .int] (.p .z (.j0 [.v 49 .bool] .z .z)) .z)))) .z)) .z)))) .z)))
def at_196:FuncId→An:=fun k=>.z
noncomputable def cs_196:List (Con Tryz.prog):=[c_14]
noncomputable def cl_196:List (Cpy Tryz.prog):=[]
noncomputable def cx_196:Cx Tryz.prog:=cxI at_196 (fun k=>Nat.beq k 14||false) (cxC cs_196 cl_196) 2
noncomputable def gm_ (a0:ad_) (a1:ah_):Option (ah_×Bool×Unit) :=
 ((push? (α:=Int) [] a1.1).bind fun v0 =>
 ((push? (α:=Int) [] a1.2.1).bind fun v1 =>
 ((push? (α:=Int) [] a1.2.2).bind fun v2 =>
 ((ae_ (ρ:=(((List Int)×(((List Int)×((List Int)×((List Int)×Unit)))×Unit))⊕(ah_×(Bool×Unit)))) (fun (v3:(Int×((List Int)×(((List Int)×((List Int)×((List Int)×Unit)))×Unit)))) =>
 (cond (decide (v3.1≤100))
 ((ae_ (ρ:=(Int×Unit)) (fun (v4:(Int×(Int×Unit))) =>
 (((cond (decide (v4.2.1<(a0.2.2.2.2.2.1.length:Int)))
 (some ((decide (v4.1<0)),()))
 (some (false,())))).bind fun v5 =>
 (cond v5.1
 ((((at? a0.2.2.2.2.2.1 v4.2.1).bind fun v6 =>
 ((((bl_ (v3.2.1,(v1,v2)) v6.1).bind fun v7 =>
 (cond v7.1
 ((at? v3.2.1 v6.2.1).bind fun v8 =>
 ((at? v3.2.1 v6.2.1).bind fun v9 =>
 (some ((v9 != v6.2.2),()))))
 (some (false,()))))).bind fun v10 =>
 (cond v10.1
 (some (v4.2.1,()))
 (some (v4.1,())))))).bind fun v11 =>
 (some (Sum.inl (v11.1,((w64 (v4.2.1+1)),())))))
 (some (Sum.inr (v4.1,())))))) ((-1),(0,()))).bind fun v12 =>
 (cond (decide (v12.1<0))
 (some (Sum.inr (Sum.inr ((v3.2.1,(v1,v2)),(true,())))))
 ((at? a0.2.2.2.2.2.1 v12.1).bind fun v13 =>
 ((at? a0.2.2.2.2.2.1 v12.1).bind fun v14 =>
 ((at? v3.2.1 v13.2.1).bind fun v15 =>
 ((at? v3.2.1 v13.2.1).bind fun v16 =>
 (some (Sum.inl ((w64 (v3.1+1)),((v3.2.1.set v13.2.1.toNat v14.2.2),((v3.2.2.1.1,(v3.2.2.1.2.1,(v3.2.2.1.2.2.1,()))),())))))))))))
 (some (Sum.inr (Sum.inl (v3.2.1,((v3.2.2.1.1,(v3.2.2.1.2.1,(v3.2.2.1.2.2.1,()))),()))))))) (0,(v0,(([],([],([],()))),())))).bind fun v17 =>
 (bv_ v17 (fun v18=>(some (([],([],[])),(false,()))))
 (fun v19=>(some v19)))))))
theorem x_196:au_ cx_196 an_196 196 [ao_,aq_] [aq_,.bool]=fun x=>gm_ x.1 x.2.1:=by kernel_rfl
noncomputable def c_196:Con Tryz.prog:=av_ _ _ 196 [ao_,aq_] [aq_,.bool] _ x_196
def an_120:An:=(.p .z (.p .z (.p (.p .z (.lp [.v 6 .int] [] [.o (.c (.s 5) 3) .bool] 0 (.p .z (.p (.p .z (.p .z (.lp [.v 8 .int] [] [.o (.c (.s 5) 3) .bool] 2 (.p .z (.j0 [.o (.c (.s 5) 3) .bool] (.j0 [.v 46 .bool] .z .z) .z))))) .z)))) .z)))
def at_120:FuncId→An:=fun k=>.z
noncomputable def cs_120:List (Con Tryz.prog):=[c_13,c_14]
noncomputable def cl_120:List (Cpy Tryz.prog):=[]
noncomputable def cx_120:Cx Tryz.prog:=cxI at_120 (fun k=>Nat.beq k 13||Nat.beq k 14||false) (cxC cs_120 cl_120) 2
noncomputable def ip_ (a0:ac_) (a1:aa_):Option (aa_×Unit) :=
 ((fr_ a1.1).bind fun v0 =>
 ((push? (α:=Bool) [] a1.2).bind fun v1 =>
 ((ae_ (ρ:=((List Bool)×Unit)) (fun (v2:(Int×((List Bool)×Unit))) =>
 (cond (decide (v2.1<(a0.2.2.2.1.length:Int)))
 ((at? a0.2.2.2.1 v2.1).bind fun v3 =>
 ((ae_ (ρ:=((List Bool)×Unit)) (fun (v4:(Int×((List Bool)×Unit))) =>
 (cond (decide (v4.1<(v0.1.2.2.length:Int)))
 ((((((at? v0.1.2.2 v4.1).bind fun v5 =>
 (cond (v5==v3.2.1)
 ((bl_ v0.1 v3.2.2.2.1).bind fun v6 =>
 (some (v6.1,())))
 (some (false,()))))).bind fun v7 =>
 (cond v7.1
 ((at? v4.2.1 v2.1).bind fun v8 =>
 ((at? v4.2.1 v2.1).bind fun v9 =>
 (some ((v4.2.1.set v2.1.toNat true),()))))
 (some (v4.2.1,()))))).bind fun v10 =>
 (some (Sum.inl ((w64 (v4.1+1)),(v10.1,())))))
 (some (Sum.inr (v4.2.1,()))))) (0,(v2.2.1,()))).bind fun v11 =>
 (some (Sum.inl ((w64 (v2.1+1)),(v11.1,()))))))
 (some (Sum.inr (v2.2.1,()))))) (0,(v1,()))).bind fun v12 =>
 (some ((v0.1,v12.1),())))))
theorem x_120:au_ cx_120 an_120 120 [am_,aj_] [aj_]=fun x=>ip_ x.1 x.2.1:=by kernel_rfl
noncomputable def c_120:Con Tryz.prog:=av_ _ _ 120 [am_,aj_] [aj_] _ x_120
def an_60:An:=(.p .z (.p .z (.p (.p .z (.lp [.v 3 .str,.v 4 .int] [.v 3 .str] [] 0 .z)) (.p (.p .z (.lp [.v 3 .str,.v 5 .int] [.v 3 .str] [] 2 .z)) (.p (.p .z (.lp [.v 3 .str,.v 6 .int] [.v 3 .str] [] 4 .z)) (.p (.p .z (.lp [.v 3 .str,.v 7 .int] [.v 3 .str] [] 6 (.p .z (.j0 [.v 3 .str] .z .z)))) .z))))))
noncomputable def cs_60:List (Con Tryz.prog):=[c_121]
noncomputable def cl_60:List (Cpy Tryz.prog):=[]
noncomputable def cx_60:Cx Tryz.prog:=cxC cs_60 cl_60
noncomputable def id_ (a0:aa_):Option ((List UInt8)×Unit) :=
 ((ae_ (ρ:=((List UInt8)×Unit)) (fun (v0:((List UInt8)×(Int×Unit))) =>
 (cond (decide (v0.2.1<(a0.1.1.length:Int)))
 ((at? a0.1.1 v0.2.1).bind fun v1 =>
 ((cd_ v1).bind fun v2 =>
 ((cat? v0.1 v2.1).bind fun v3 =>
 ((cat? v3 [32]).bind fun v4 =>
 (some (Sum.inl (v4,((w64 (v0.2.1+1)),()))))))))
 (some (Sum.inr (v0.1,()))))) ([],(0,()))).bind fun v5 =>
 ((ae_ (ρ:=((List UInt8)×Unit)) (fun (v6:((List UInt8)×(Int×Unit))) =>
 (cond (decide (v6.2.1<(a0.1.2.1.length:Int)))
 ((at? a0.1.2.1 v6.2.1).bind fun v7 =>
 ((cd_ (w64 (v7+10))).bind fun v8 =>
 ((cat? v6.1 v8.1).bind fun v9 =>
 ((cat? v9 [32]).bind fun v10 =>
 (some (Sum.inl (v10,((w64 (v6.2.1+1)),()))))))))
 (some (Sum.inr (v6.1,()))))) (v5.1,(0,()))).bind fun v11 =>
 ((ae_ (ρ:=((List UInt8)×Unit)) (fun (v12:((List UInt8)×(Int×Unit))) =>
 (cond (decide (v12.2.1<(a0.1.2.2.length:Int)))
 ((at? a0.1.2.2 v12.2.1).bind fun v13 =>
 ((cd_ v13).bind fun v14 =>
 ((cat? v12.1 v14.1).bind fun v15 =>
 ((cat? v15 [32]).bind fun v16 =>
 (some (Sum.inl (v16,((w64 (v12.2.1+1)),()))))))))
 (some (Sum.inr (v12.1,()))))) (v11.1,(0,()))).bind fun v17 =>
 ((ae_ (ρ:=((List UInt8)×Unit)) (fun (v18:((List UInt8)×(Int×Unit))) =>
 (cond (decide (v18.2.1<(a0.2.length:Int)))
 ((((at? a0.2 v18.2.1).bind fun v19 =>
 (cond v19
 ((cd_ v18.2.1).bind fun v20 =>
 ((cat? v18.1 v20.1).bind fun v21 =>
 ((cat? v21 [32]).bind fun v22 =>
 (some (v22,())))))
 (some (v18.1,()))))).bind fun v23 =>
 (some (Sum.inl (v23.1,((w64 (v18.2.1+1)),())))))
 (some (Sum.inr (v18.1,()))))) (v17.1,(0,()))).bind fun v24 =>
 (some (v24.1,()))))))
theorem x_60:au_ cx_60 an_60 60 [aj_] [.str]=fun x=>id_ x.1:=by kernel_rfl
noncomputable def c_60:Con Tryz.prog:=av_ _ _ 60 [aj_] [.str] _ x_60
def an_194:An:=(.p .z (.p .z (.p (.q [] .z .z) (.p (.p .z (.p .z (.p (.p (.q [] .z .z) .z) (.p .z (.p (.p (.q [] .z .z) .z) (.p .z (.p .z (.p .z (.p (.p .z (.p .z (.p (.p .z (.ls [.v 10 .int] [] [] 1 .z)) (.p (.p .z (.ls [.v 11 .int] [] [] 3 .z)) .z)))) .z))))))))) .z))))
noncomputable def cs_194:List (Con Tryz.prog):=[c_14,c_93,c_251]
noncomputable def cl_194:List (Cpy Tryz.prog):=[]
noncomputable def cx_194:Cx Tryz.prog:=cxC cs_194 cl_194
noncomputable def jm_ (a0:ad_) (a1:ah_) (a2:af_):Option (Bool×Unit) :=
 ((bq_ a2.1 0 (w64 (a0.2.2.2.2.2.2.1 - 1))).bind fun v0 =>
 (cond (!v0.1)
 (some (false,()))
 ((at? a1.2.2 a2.1).bind fun v1 =>
 (cond (a2.2.1==1)
 ((bq_ a2.2.2 0 (w64 ((a0.2.2.2.1.length:Int) - 1))).bind fun v2 =>
 (cond v2.1
 ((at? a0.2.2.2.1 a2.2.2).bind fun v3 =>
 (cond (v3.1==v1)
 ((at? a0.2.2.2.1 a2.2.2).bind fun v4 =>
 ((bl_ a1 v4.2.2).bind fun v5 =>
 (some (v5.1,()))))
 ((at? a0.2.2.2.1 a2.2.2).bind fun v6 =>
 (cond (v6.2.1==v1)
 ((at? a0.2.2.2.1 a2.2.2).bind fun v7 =>
 ((bl_ a1 v7.2.2).bind fun v8 =>
 (some (v8.1,()))))
 (some (false,()))))))
 (some (false,()))))
 (cond (a2.2.1==2)
 ((bq_ a2.2.2 0 (w64 ((a0.2.2.1.length:Int) - 1))).bind fun v9 =>
 (cond v9.1
 ((at? a1.2.1 a2.2.2).bind fun v10 =>
 (cond (v10==v1)
 ((at? a0.2.2.1 a2.2.2).bind fun v11 =>
 ((bl_ a1 v11.2.2).bind fun v12 =>
 (cond v12.1
 ((he_ a1 a2.1).bind fun v13 =>
 (some ((decide (v13.1<3)),())))
 (some (false,())))))
 (some (false,()))))
 (some (false,()))))
 (cond (a2.2.1==3)
 ((bq_ a2.2.2 0 (w64 ((a0.2.2.1.length:Int) - 1))).bind fun v14 =>
 (cond v14.1
 ((at? a1.2.1 a2.2.2).bind fun v15 =>
 (some ((v15==(w64 ((-2) - a2.1))),())))
 (some (false,()))))
 (cond (a2.2.1==4)
 ((bq_ a2.2.2 0 (w64 ((a0.2.2.2.2.1.length:Int) - 1))).bind fun v16 =>
 (cond (!v16.1)
 (some (false,()))
 ((at? a0.2.2.2.2.1 a2.2.2).bind fun v17 =>
 ((ae_ (ρ:=(Unit⊕(Bool×Unit))) (fun (v18:(Int×Unit)) =>
 (cond (decide (v18.1<(v17.2.2.2.1.length:Int)))
 ((at? v17.2.2.2.1 v18.1).bind fun v19 =>
 ((at? a1.2.1 v19).bind fun v20 =>
 (cond (v20 != (w64 ((-2) - a2.1)))
 (some (Sum.inr (Sum.inr (false,()))))
 (some (Sum.inl ((w64 (v18.1+1)),()))))))
 (some (Sum.inr (Sum.inl ()))))) (0,())).bind fun v21 =>
 (bv_ v21 (fun v22=>((ae_ (ρ:=(Unit⊕(Bool×Unit))) (fun (v24:(Int×Unit)) =>
 (cond (decide (v24.1<(v17.2.2.2.2.2.2.2.length:Int)))
 ((at? v17.2.2.2.2.2.2.2 v24.1).bind fun v25 =>
 ((at? a1.2.1 v25).bind fun v26 =>
 (cond (v26 != (-1))
 (some (Sum.inr (Sum.inr (false,()))))
 (some (Sum.inl ((w64 (v24.1+1)),()))))))
 (some (Sum.inr (Sum.inl ()))))) (0,())).bind fun v27 =>
 (bv_ v27 (fun v28=>(cond (v17.2.1==v1)
 ((bl_ a1 v17.2.2.2.2.1).bind fun v30 =>
 (cond v30.1
 ((he_ a1 a2.1).bind fun v31 =>
 (some ((decide ((w64 ((w64 (v31.1 - (v17.2.2.2.2.2.2.1.length:Int)))+(v17.2.2.2.2.2.2.2.length:Int)))≤3)),())))
 (some (false,()))))
 (some (false,()))))
 (fun v29=>(some v29)))))
 (fun v23=>(some v23)))))))
 (some (false,())))))))))
theorem x_194:au_ cx_194 an_194 194 [ao_,aq_,ar_] [.bool]=fun x=>jm_ x.1 x.2.1 x.2.2.1:=by kernel_rfl
noncomputable def c_194:Con Tryz.prog:=av_ _ _ 194 [ao_,aq_,ar_] [.bool] _ x_194
def an_56:An:=.z
noncomputable def cs_56:List (Con Tryz.prog):=[c_115]
noncomputable def cl_56:List (Cpy Tryz.prog):=[]
noncomputable def cx_56:Cx Tryz.prog:=cxC cs_56 cl_56
noncomputable def wt_  : Option (ac_×Unit) :=
 (some ((([[104,97,108,108],[118,97,117,108,116]],([([98,111,120],(0,(2,0))),([100,111,111,114],(0,(2,0)))],([([107,101,121],(0,[(0,(1,false))]))],([(0,(1,[(1,(1,false))]))],([([111,112,101,110],(0,(0,([],([],([(0,1)],([],[]))))))),([116,117,114,110],(0,((-1),([0],([],([(1,1)],([0],[])))))))],([],(1,[]))))))),([(2,4)],([[3,1]],([([108,101,97,102],(0,(0,([],(2,(0,(1,(4,(0,([],false)))))))))),([98,97,99,107],(0,(0,([(0,(0,false))],(3,(1,(0,(0,(0,([],false)))))))))),([99,97,114,100],(1,((-1),([],(0,(0,(0,(0,(0,([],false))))))))))],1)))),()))
theorem x_56:au_ cx_56 an_56 56 [] [am_]=fun x=>wt_:=by kernel_rfl
noncomputable def c_56:Con Tryz.prog:=av_ _ _ 56 [] [am_] _ x_56
def an_258:An:=.z
noncomputable def cs_258:List (Con Tryz.prog):=[c_286]
noncomputable def cl_258:List (Cpy Tryz.prog):=[]
noncomputable def cx_258:Cx Tryz.prog:=cxC cs_258 cl_258
noncomputable def cv_ (a0:(List (List UInt8))) (a1:(List UInt8)):Option (Bool×Unit) :=
 ((ds_ a0 a1).bind fun v0 =>
 (some ((decide (0≤v0.1)),())))
theorem x_258:au_ cx_258 an_258 258 [(.list .str),.str] [.bool]=fun x=>cv_ x.1 x.2.1:=by kernel_rfl
noncomputable def c_258:Con Tryz.prog:=av_ _ _ 258 [(.list .str),.str] [.bool] _ x_258
def an_149:An:=.z
noncomputable def cs_149:List (Con Tryz.prog):=[c_140]
noncomputable def cl_149:List (Cpy Tryz.prog):=[]
noncomputable def cx_149:Cx Tryz.prog:=cxC cs_149 cl_149
noncomputable def fd_ (a0:ad_) (a1:Int) (a2:Int):Option (Bool×Unit) :=
 ((bc_ a1 0 (w64 ((a0.2.1.length:Int) - 1))).bind fun v0 =>
 (cond v0.1
 ((at? a0.2.1 a1).bind fun v1 =>
 ((bc_ a2 0 (w64 (v1.2.2.1 - 1))).bind fun v2 =>
 (some (v2.1,()))))
 (some (false,()))))
theorem x_149:au_ cx_149 an_149 149 [ao_,.int,.int] [.bool]=fun x=>fd_ x.1 x.2.1 x.2.2.1:=by kernel_rfl
noncomputable def c_149:Con Tryz.prog:=av_ _ _ 149 [ao_,.int,.int] [.bool] _ x_149
def an_83:An:=.z
noncomputable def cs_83:List (Con Tryz.prog):=[c_162]
noncomputable def cl_83:List (Cpy Tryz.prog):=[]
noncomputable def cx_83:Cx Tryz.prog:=cxC cs_83 cl_83
noncomputable def bh_ (a0:(List Int)) (a1:Int):Option (Bool×Unit) :=
 ((et_ a0 a1).bind fun v0 =>
 (some ((decide (0≤v0.1)),())))
theorem x_83:au_ cx_83 an_83 83 [(.list .int),.int] [.bool]=fun x=>bh_ x.1 x.2.1:=by kernel_rfl
noncomputable def c_83:Con Tryz.prog:=av_ _ _ 83 [(.list .int),.int] [.bool] _ x_83
def an_75:An:=(.p .z (.p (.j0 [.v 12 .bool] .z .z) .z))
noncomputable def cs_75:List (Con Tryz.prog):=[c_150]
noncomputable def cl_75:List (Cpy Tryz.prog):=[]
noncomputable def cx_75:Cx Tryz.prog:=cxC cs_75 cl_75
noncomputable def el_ (a0:ab_):Option (Int×Unit) :=
 ((((bx_ a0.1 1 4).bind fun v0 =>
 (cond (!v0.1)
 (some (true,()))
 ((bx_ a0.2 2 10).bind fun v1 =>
 (some ((!v1.1),())))))).bind fun v2 =>
 (cond v2.1
 (some (10,()))
 (some (0,()))))
theorem x_75:au_ cx_75 an_75 75 [al_] [.int]=fun x=>el_ x.1:=by kernel_rfl
noncomputable def c_75:Con Tryz.prog:=av_ _ _ 75 [al_] [.int] _ x_75
def an_200:An:=.z
noncomputable def cs_200:List (Con Tryz.prog):=[c_150]
noncomputable def cl_200:List (Cpy Tryz.prog):=[]
noncomputable def cx_200:Cx Tryz.prog:=cxC cs_200 cl_200
noncomputable def cp_ (a0:ab_) (a1:Int):Option (Bool×Unit) :=
 ((bx_ a1 0 (w64 (a0.2 - 1))).bind fun v0 =>
 (some (v0.1,())))
theorem x_200:au_ cx_200 an_200 200 [al_,.int] [.bool]=fun x=>cp_ x.1 x.2.1:=by kernel_rfl
noncomputable def c_200:Con Tryz.prog:=av_ _ _ 200 [al_,.int] [.bool] _ x_200
def an_199:An:=.z
noncomputable def cs_199:List (Con Tryz.prog):=[c_150]
noncomputable def cl_199:List (Cpy Tryz.prog):=[]
noncomputable def cx_199:Cx Tryz.prog:=cxC cs_199 cl_199
noncomputable def bs_ (a0:ab_) (a1:Int):Option (Bool×Unit) :=
 ((bx_ a1 0 (w64 (a0.1 - 1))).bind fun v0 =>
 (some (v0.1,())))
theorem x_199:au_ cx_199 an_199 199 [al_,.int] [.bool]=fun x=>bs_ x.1 x.2.1:=by kernel_rfl
noncomputable def c_199:Con Tryz.prog:=av_ _ _ 199 [al_,.int] [.bool] _ x_199
def an_268:An:=(.p .z (.p (.p .z (.p .z (.p (.p (.q [] .z .z) .z) (.p .z (.p (.p .z (.p (.p .z (.lp [.v 5 .int,.v 35 .int] [.v 5 .int] [] 1 .z)) .z)) (.p .z (.p (.p (.q [] .z .z) .z) (.p .z (.p (.p (.q [] .z .z) .z) (.p .z (.p (.p .z (.p (.p .z (.lp [.v 8 .int,.v 77 .int] [.v 8 .int] [] 3 (.p .z (.p .z (.j0 [.v 8 .int] .z .z))))) .z)) .z))))))))))) (.p (.q [] .z .z) .z)))
noncomputable def cs_268:List (Con Tryz.prog):=[c_289]
noncomputable def cl_268:List (Cpy Tryz.prog):=[]
noncomputable def cx_268:Cx Tryz.prog:=cxC cs_268 cl_268
noncomputable def nb_ (a0:ak_) (a1:(List Int)):Option (Bool×Unit) :=
 (cond (a0.1==1)
 ((at? a1 a0.2.1).bind fun v0 =>
 (some ((v0==a0.2.2.2.1),())))
 (cond (a0.1==2)
 ((sub? a1 a0.2.1 (w64 (a0.2.2.1+1))).bind fun v1 =>
 ((ae_ (ρ:=(Int×Unit)) (fun (v2:(Int×(Int×Unit))) =>
 (cond (decide (v2.2.1<(v1.length:Int)))
 ((at? v1 v2.2.1).bind fun v3 =>
 (some (Sum.inl ((w64 (v2.1+v3)),((w64 (v2.2.1+1)),())))))
 (some (Sum.inr (v2.1,()))))) (0,(0,()))).bind fun v4 =>
 (some ((v4.1==a0.2.2.2.1),()))))
 (cond (a0.1==3)
 ((at? a1 a0.2.1).bind fun v5 =>
 ((at? a1 a0.2.2.1).bind fun v6 =>
 (some ((decide (v5<v6)),()))))
 (cond (a0.1==4)
 ((at? a1 a0.2.1).bind fun v7 =>
 ((at? a1 a0.2.2.1).bind fun v8 =>
 (some ((v7==v8),()))))
 (cond (a0.1==5)
 ((ae_ (ρ:=(Int×Unit)) (fun (v9:(Int×(Int×Unit))) =>
 (cond (decide (v9.2.1<(a1.length:Int)))
 ((((at? a1 v9.2.1).bind fun v10 =>
 (cond (v10==a0.2.2.2.1)
 (some ((w64 (v9.1+1)),()))
 (some (v9.1,()))))).bind fun v11 =>
 (some (Sum.inl (v11.1,((w64 (v9.2.1+1)),())))))
 (some (Sum.inr (v9.1,()))))) (0,(0,()))).bind fun v12 =>
 (some ((v12.1==a0.2.2.2.2.1),())))
 (cond (a0.1==6)
 ((ik_ a1 a0.2.2.2.2.2.1).bind fun v13 =>
 (cond (v13.1==a0.2.2.2.1)
 (some ((v13.2.1==a0.2.2.2.2.1),()))
 (some (false,()))))
 ((at? a1 a0.2.1).bind fun v14 =>
 ((md v14 a0.2.2.2.1).bind fun v15 =>
 (some ((v15==a0.2.2.2.2.1),()))))))))))
theorem x_268:au_ cx_268 an_268 268 [ap_,(.list .int)] [.bool]=fun x=>nb_ x.1 x.2.1:=by kernel_rfl
noncomputable def c_268:Con Tryz.prog:=av_ _ _ 268 [ap_,(.list .int)] [.bool] _ x_268
def an_78:An:=.z
def at_78:FuncId→An:=fun k=>cond (Nat.beq k 157) (.p .z (.j0 [.v 4 .bool] .z .z)) (cond (Nat.beq k 158) (.p .z (.j0 [.v 3 .bool] (.q [] .z .z) .z)) (cond (Nat.beq k 224) (.p .z (.p (.p .z (.ls [.v 8 .int] [] [] 0 .z)) .z)) (.z)))
noncomputable def cs_78:List (Con Tryz.prog):=[c_79]
noncomputable def cl_78:List (Cpy Tryz.prog):=[]
noncomputable def cx_78:Cx Tryz.prog:=cxI at_78 (fun k=>Nat.beq k 79||false) (cxC cs_78 cl_78) 4
noncomputable def ll_ (a0:ad_) (a1:(List bd_)):Option (Bool×Unit) :=
 (cond (decide ((a1.length:Int)≤8))
 ((((ae_ (ρ:=(Unit⊕(Bool×Unit))) (fun (v0:(Int×Unit)) =>
 (cond (decide (v0.1<(a1.length:Int)))
 ((at? a1 v0.1).bind fun v1 =>
 ((((ca_ v1.1 0 (w64 ((a0.2.1.length:Int) - 1))).bind fun v2 =>
 (cond (!v2.1)
 (some (true,()))
 ((at? a0.2.1 v1.1).bind fun v3 =>
 ((ca_ v1.2.1 0 (w64 (v3.2.2.1 - 1))).bind fun v4 =>
 (some ((!v4.1),()))))))).bind fun v5 =>
 (cond v5.1
 (some (Sum.inr (Sum.inr ((decide (0≤v0.1)),()))))
 (some (Sum.inl ((w64 (v0.1+1)),()))))))
 (some (Sum.inr (Sum.inl ()))))) (0,())).bind fun v6 =>
 (bv_ v6 (fun v7=>(some ((decide (0≤(-1))),())))
 (fun v8=>(some v8))))).bind fun v9 =>
 (some ((!v9.1),())))
 (some (false,())))
theorem x_78:au_ cx_78 an_78 78 [ao_,(.list br_)] [.bool]=fun x=>ll_ x.1 x.2.1:=by kernel_rfl
noncomputable def c_78:Con Tryz.prog:=av_ _ _ 78 [ao_,(.list br_)] [.bool] _ x_78
def an_250:An:=(.p .z (.p (.p (.q [] .z .z) .z) (.p (.q [] .z .z) (.p .z (.p .z (.p .z (.p (.p .z (.p .z (.p (.p (.p (.q [] .z .z) .z) .z) (.p .z (.p (.p (.q [] .z .z) .z) (.p .z (.p (.p (.q [] .z .z) .z) (.p .z (.p (.p (.p (.q [] .z .z) .z) .z) .z))))))))) .z)))))))
def at_250:FuncId→An:=fun k=>cond (Nat.beq k 183) (.p .z (.p (.p .z (.ls [.v 8 .int] [] [] 0 .z)) .z)) (cond (Nat.beq k 216) (.p .z (.j0 [.v 4 .bool] .z .z)) (cond (Nat.beq k 278) (.p .z (.p (.q [] .z .z) .z)) (.z)))
noncomputable def cs_250:List (Con Tryz.prog):=[c_140,c_161,c_281]
noncomputable def cl_250:List (Cpy Tryz.prog):=[]
noncomputable def cx_250:Cx Tryz.prog:=cxI at_250 (fun k=>Nat.beq k 140||Nat.beq k 161||Nat.beq k 281||false) (cxC cs_250 cl_250) 7
noncomputable def cw_ (a0:hj_) (a1:af_):Option (Bool×Unit) :=
 ((bc_ a1.1 0 (w64 ((a0.2.2.2.length:Int) - 1))).bind fun v0 =>
 (cond (!v0.1)
 (some (false,()))
 ((at? a0.2.2.2 a1.1).bind fun v1 =>
 (cond (a1.2.1==1)
 ((bc_ a1.2.2 0 (w64 ((a0.1.2.2.2.1.length:Int) - 1))).bind fun v2 =>
 (cond (!v2.1)
 (some (false,()))
 ((at? a0.1.2.2.2.1 a1.2.2).bind fun v3 =>
 (cond (v3.1==v1)
 ((bb_ a0 v3.2.2).bind fun v4 =>
 (some (v4.1,())))
 (cond (v3.2.1==v1)
 ((bb_ a0 v3.2.2).bind fun v5 =>
 (some (v5.1,())))
 (some (false,())))))))
 (cond (a1.2.1==2)
 ((bc_ a1.2.2 0 (w64 ((a0.2.2.1.length:Int) - 1))).bind fun v6 =>
 (cond v6.1
 ((at? a0.2.2.1 a1.2.2).bind fun v7 =>
 (cond (v7==v1)
 ((at? a0.1.2.2.1 a1.2.2).bind fun v8 =>
 ((bb_ a0 v8.2.2).bind fun v9 =>
 (cond v9.1
 ((dh_ a0 a1.1).bind fun v10 =>
 (some ((decide (v10.1<3)),())))
 (some (false,())))))
 (some (false,()))))
 (some (false,()))))
 (cond (a1.2.1==3)
 ((bc_ a1.2.2 0 (w64 ((a0.2.2.1.length:Int) - 1))).bind fun v11 =>
 (cond v11.1
 ((at? a0.2.2.1 a1.2.2).bind fun v12 =>
 (some ((v12==(w64 ((-2) - a1.1))),())))
 (some (false,()))))
 (cond (a1.2.1==4)
 ((bc_ a1.2.2 0 (w64 ((a0.1.2.2.2.2.1.length:Int) - 1))).bind fun v13 =>
 (cond (!v13.1)
 (some (false,()))
 ((at? a0.1.2.2.2.2.1 a1.2.2).bind fun v14 =>
 (cond (v14.2.1==v1)
 ((((ae_ (ρ:=(Unit⊕(Bool×Unit))) (fun (v15:(Int×Unit)) =>
 (cond (decide (v15.1<(v14.2.2.2.1.length:Int)))
 ((at? v14.2.2.2.1 v15.1).bind fun v16 =>
 ((at? a0.2.2.1 v16).bind fun v17 =>
 (cond (!(v17==(w64 ((-2) - a1.1))))
 (some (Sum.inr (Sum.inr ((decide (0≤v15.1)),()))))
 (some (Sum.inl ((w64 (v15.1+1)),()))))))
 (some (Sum.inr (Sum.inl ()))))) (0,())).bind fun v18 =>
 (bv_ v18 (fun v19=>(some ((decide (0≤(-1))),())))
 (fun v20=>(some v20))))).bind fun v21 =>
 (cond (!v21.1)
 ((bb_ a0 v14.2.2.2.2.1).bind fun v22 =>
 (cond v22.1
 ((((ae_ (ρ:=(Unit⊕(Bool×Unit))) (fun (v23:(Int×Unit)) =>
 (cond (decide (v23.1<(v14.2.2.2.2.2.2.2.length:Int)))
 ((at? v14.2.2.2.2.2.2.2 v23.1).bind fun v24 =>
 ((at? a0.2.2.1 v24).bind fun v25 =>
 (cond (!(v25==(-1)))
 (some (Sum.inr (Sum.inr ((decide (0≤v23.1)),()))))
 (some (Sum.inl ((w64 (v23.1+1)),()))))))
 (some (Sum.inr (Sum.inl ()))))) (0,())).bind fun v26 =>
 (bv_ v26 (fun v27=>(some ((decide (0≤(-1))),())))
 (fun v28=>(some v28))))).bind fun v29 =>
 (cond (!v29.1)
 ((dh_ a0 a1.1).bind fun v30 =>
 (some ((decide ((w64 ((w64 (v30.1 - (v14.2.2.2.2.2.2.1.length:Int)))+(v14.2.2.2.2.2.2.2.length:Int)))≤3)),())))
 (some (false,()))))
 (some (false,()))))
 (some (false,()))))
 (some (false,()))))))
 (some (false,())))))))))
theorem x_250:au_ cx_250 an_250 250 [(.ref fa_),ar_] [.bool]=fun x=>cw_ x.1 x.2.1:=by kernel_rfl
noncomputable def c_250:Con Tryz.prog:=av_ _ _ 250 [(.ref fa_),ar_] [.bool] _ x_250
def an_189:An:=.z
noncomputable def cs_189:List (Con Tryz.prog):=[c_247,c_248]
noncomputable def cl_189:List (Cpy Tryz.prog):=[]
noncomputable def cx_189:Cx Tryz.prog:=cxC cs_189 cl_189
noncomputable def kk_ (a0:aa_):Option ((List UInt8)×Unit) :=
 ((fj_ [a0.1.1,a0.1.2.1,a0.1.2.2]).bind fun v0 =>
 ((lk_ a0).bind fun v1 =>
 ((cat? v0.1 v1.1).bind fun v2 =>
 (some (v2,())))))
theorem x_189:au_ cx_189 an_189 189 [aj_] [.str]=fun x=>kk_ x.1:=by kernel_rfl
noncomputable def c_189:Con Tryz.prog:=av_ _ _ 189 [aj_] [.str] _ x_189
def an_127:An:=.z
noncomputable def cs_127:List (Con Tryz.prog):=[c_14]
noncomputable def cl_127:List (Cpy Tryz.prog):=[]
noncomputable def cx_127:Cx Tryz.prog:=cxC cs_127 cl_127
noncomputable def gq_ (a0:ac_) (a1:aa_):Option (Bool×Unit) :=
 ((bl_ a1.1 a0.1.2.2.2.2.2.2.2).bind fun v0 =>
 (some (v0.1,())))
theorem x_127:au_ cx_127 an_127 127 [am_,aj_] [.bool]=fun x=>gq_ x.1 x.2.1:=by kernel_rfl
noncomputable def c_127:Con Tryz.prog:=av_ _ _ 127 [am_,aj_] [.bool] _ x_127
def an_129:An:=.z
noncomputable def cs_129:List (Con Tryz.prog):=[c_26]
noncomputable def cl_129:List (Cpy Tryz.prog):=[]
noncomputable def cx_129:Cx Tryz.prog:=cxC cs_129 cl_129
noncomputable def ie_ (a0:ah_) (a1:ah_):Option (Bool×Unit) :=
 ((bk_ a0.1 a1.1).bind fun v0 =>
 (cond v0.1
 ((bk_ a0.2.1 a1.2.1).bind fun v1 =>
 (cond v1.1
 ((bk_ a0.2.2 a1.2.2).bind fun v2 =>
 (some (v2.1,())))
 (some (false,()))))
 (some (false,()))))
theorem x_129:au_ cx_129 an_129 129 [aq_,aq_] [.bool]=fun x=>ie_ x.1 x.2.1:=by kernel_rfl
noncomputable def c_129:Con Tryz.prog:=av_ _ _ 129 [aq_,aq_] [.bool] _ x_129
def an_131:An:=(.p .z (.p .z (.p (.p .z (.ls [.v 5 .int] [] [] 0 (.p .z (.p (.p (.q [] .z .z) .z) .z)))) .z)))
noncomputable def cs_131:List (Con Tryz.prog):=[c_26,c_130]
noncomputable def cl_131:List (Cpy Tryz.prog):=[]
noncomputable def cx_131:Cx Tryz.prog:=cxC cs_131 cl_131
noncomputable def hq_ (a0:cg_) (a1:cg_):Option (Bool×Unit) :=
 (cond ((a0.2.2.2.2.2.1.length:Int) != (a1.2.2.2.2.2.1.length:Int))
 (some (false,()))
 ((ae_ (ρ:=(Unit⊕(Bool×Unit))) (fun (v0:(Int×Unit)) =>
 (cond (decide (v0.1<(a0.2.2.2.2.2.1.length:Int)))
 ((at? a0.2.2.2.2.2.1 v0.1).bind fun v1 =>
 ((at? a1.2.2.2.2.2.1 v0.1).bind fun v2 =>
 (cond (!((v1.1==v2.1)&&(v1.2==v2.2)))
 (some (Sum.inr (Sum.inr (false,()))))
 (some (Sum.inl ((w64 (v0.1+1)),()))))))
 (some (Sum.inr (Sum.inl ()))))) (0,())).bind fun v3 =>
 (bv_ v3 (fun v4=>(cond (a0.1==a1.1)
 (cond (a0.2.1==a1.2.1)
 (cond (a0.2.2.1==a1.2.2.1)
 ((bk_ a0.2.2.2.1 a1.2.2.2.1).bind fun v6 =>
 (cond v6.1
 ((cl_ a0.2.2.2.2.1 a1.2.2.2.2.1).bind fun v7 =>
 (cond v7.1
 ((bk_ a0.2.2.2.2.2.2.1 a1.2.2.2.2.2.2.1).bind fun v8 =>
 (cond v8.1
 ((bk_ a0.2.2.2.2.2.2.2 a1.2.2.2.2.2.2.2).bind fun v9 =>
 (some (v9.1,())))
 (some (false,()))))
 (some (false,()))))
 (some (false,()))))
 (some (false,())))
 (some (false,())))
 (some (false,()))))
 (fun v5=>(some v5)))))
theorem x_131:au_ cx_131 an_131 131 [gi_,gi_] [.bool]=fun x=>hq_ x.1 x.2.1:=by kernel_rfl
noncomputable def c_131:Con Tryz.prog:=av_ _ _ 131 [gi_,gi_] [.bool] _ x_131
def an_132:An:=.z
noncomputable def cs_132:List (Con Tryz.prog):=[c_26]
noncomputable def cl_132:List (Cpy Tryz.prog):=[]
noncomputable def cx_132:Cx Tryz.prog:=cxC cs_132 cl_132
noncomputable def gs_ (a0:ak_) (a1:ak_):Option (Bool×Unit) :=
 (cond (a0.1==a1.1)
 (cond (a0.2.1==a1.2.1)
 (cond (a0.2.2.1==a1.2.2.1)
 (cond (a0.2.2.2.1==a1.2.2.2.1)
 (cond (a0.2.2.2.2.1==a1.2.2.2.2.1)
 (cond (a0.2.2.2.2.2.2==a1.2.2.2.2.2.2)
 ((bk_ a0.2.2.2.2.2.1 a1.2.2.2.2.2.1).bind fun v0 =>
 (some (v0.1,())))
 (some (false,())))
 (some (false,())))
 (some (false,())))
 (some (false,())))
 (some (false,())))
 (some (false,())))
theorem x_132:au_ cx_132 an_132 132 [ap_,ap_] [.bool]=fun x=>gs_ x.1 x.2.1:=by kernel_rfl
noncomputable def c_132:Con Tryz.prog:=av_ _ _ 132 [ap_,ap_] [.bool] _ x_132
end
section
set_option maxRecDepth 100000
set_option maxHeartbeats 0
def an_8:An:=(.p .z (.p .z (.p (.p .z (.lp [.v 4 .int] [] [.b (.s 3) [.keep,.keep,.keep,.keep,.keep,.keep,.keep,.keep,.keep,.row (.list .int) 45,.keep,.keep]] 0 .z)) (.p (.p .z (.lp [.v 5 .int] [] [.o (.s 16) ha_] 2 .z)) .z))))
noncomputable def cs_8:List (Con Tryz.prog):=[c_30,c_31]
noncomputable def cl_8:List (Cpy Tryz.prog):=[]
noncomputable def cx_8:Cx Tryz.prog:=cxC cs_8 cl_8
noncomputable def lh_ (a0:ac_):Option (ac_×Unit) :=
 ((lj_ a0.1).bind fun v0 =>
 ((push? (α:=ab_) [] a0.2.1).bind fun v1 =>
 ((push? (α:=cc_) [] a0.2.2.2.1).bind fun v2 =>
 ((ae_ (ρ:=(((List (List Int))×Unit)×Unit)) (fun (v3:(Int×(((List (List Int))×Unit)×Unit))) =>
 (cond (decide (v3.1<(a0.2.2.1.length:Int)))
 ((at? a0.2.2.1 v3.1).bind fun v4 =>
 ((push? (α:=Int) [] v4).bind fun v5 =>
 ((push? (α:=(List Int)) v3.2.1.1 [v5]).bind fun v6 =>
 (some (Sum.inl ((w64 (v3.1+1)),((v6,()),())))))))
 (some (Sum.inr ((v3.2.1.1,()),()))))) (0,(([],()),()))).bind fun v7 =>
 ((ae_ (ρ:=((List cc_)×Unit)) (fun (v8:(Int×((List cc_)×Unit))) =>
 (cond (decide (v8.1<(v8.2.1.length:Int)))
 ((at? v8.2.1 v8.1).bind fun v9 =>
 ((at? v8.2.1 v8.1).bind fun v10 =>
 ((push? (α:=bd_) [] v10.2.2.2.1).bind fun v11 =>
 ((at? v8.2.1 v8.1).bind fun v12 =>
 ((at? v8.2.1 v8.1).bind fun v13 =>
 ((at? (v8.2.1.set v8.1.toNat (v13.1,(v13.2.1,(v13.2.2.1,(v11,v13.2.2.2.2))))) v8.1).bind fun v14 =>
 ((at? (v8.2.1.set v8.1.toNat (v13.1,(v13.2.1,(v13.2.2.1,(v11,v13.2.2.2.2))))) v8.1).bind fun v15 =>
 ((gu_ v15.2.2.2.2).bind fun v16 =>
 ((at? (v8.2.1.set v8.1.toNat (v13.1,(v13.2.1,(v13.2.2.1,(v11,v13.2.2.2.2))))) v8.1).bind fun v17 =>
 ((at? (v8.2.1.set v8.1.toNat (v13.1,(v13.2.1,(v13.2.2.1,(v11,v13.2.2.2.2))))) v8.1).bind fun v18 =>
 (some (Sum.inl ((w64 (v8.1+1)),(((v8.2.1.set v8.1.toNat (v13.1,(v13.2.1,(v13.2.2.1,(v11,v13.2.2.2.2))))).set v8.1.toNat (v18.1,(v18.2.1,(v18.2.2.1,(v18.2.2.2.1,v16.1))))),()))))))))))))))
 (some (Sum.inr (v8.2.1,()))))) (0,(v2,()))).bind fun v19 =>
 (some ((v0.1,(v1,(v7.1.1,(v19.1,a0.2.2.2.2)))),())))))))
theorem x_8:au_ cx_8 an_8 8 [am_] [am_]=fun x=>lh_ x.1:=by kernel_rfl
noncomputable def c_8:Con Tryz.prog:=av_ _ _ 8 [am_] [am_] _ x_8
def an_89:An:=(.p .z (.p (.p .z (.ls [.v 5 .int] [] [] 0 (.p .z (.p (.p (.q [] .z .z) .z) .z)))) .z))
noncomputable def cs_89:List (Con Tryz.prog):=[c_91]
noncomputable def cl_89:List (Cpy Tryz.prog):=[]
noncomputable def cx_89:Cx Tryz.prog:=cxC cs_89 cl_89
noncomputable def ct_ (a0:ad_) (a1:(List bd_)):Option (Bool×Unit) :=
 ((ae_ (ρ:=(Unit⊕(Bool×Unit))) (fun (v0:(Int×Unit)) =>
 (cond (decide (v0.1<(a1.length:Int)))
 ((at? a1 v0.1).bind fun v1 =>
 ((at? a1 v0.1).bind fun v2 =>
 ((gx_ a0 v1.1 v2.2.1).bind fun v3 =>
 (cond (!v3.1)
 (some (Sum.inr (Sum.inr (false,()))))
 (some (Sum.inl ((w64 (v0.1+1)),())))))))
 (some (Sum.inr (Sum.inl ()))))) (0,())).bind fun v4 =>
 (bv_ v4 (fun v5=>(some ((decide ((a1.length:Int)≤8)),())))
 (fun v6=>(some v6))))
theorem x_89:au_ cx_89 an_89 89 [ao_,(.list br_)] [.bool]=fun x=>ct_ x.1 x.2.1:=by kernel_rfl
noncomputable def c_89:Con Tryz.prog:=av_ _ _ 89 [ao_,(.list br_)] [.bool] _ x_89
def an_163:An:=.z
noncomputable def cs_163:List (Con Tryz.prog):=[c_228]
noncomputable def cl_163:List (Cpy Tryz.prog):=[]
noncomputable def cx_163:Cx Tryz.prog:=cxC cs_163 cl_163
noncomputable def du_ (a0:(List UInt8)):Option (Bool×Unit) :=
 (cond (decide ((a0.length:Int)≤12))
 ((hr_ a0).bind fun v0 =>
 (some (v0.1,())))
 (some (false,())))
theorem x_163:au_ cx_163 an_163 163 [.str] [.bool]=fun x=>du_ x.1:=by kernel_rfl
noncomputable def c_163:Con Tryz.prog:=av_ _ _ 163 [.str] [.bool] _ x_163
def an_87:An:=.z
noncomputable def cs_87:List (Con Tryz.prog):=[c_86,c_167]
noncomputable def cl_87:List (Cpy Tryz.prog):=[]
noncomputable def cx_87:Cx Tryz.prog:=cxC cs_87 cl_87
noncomputable def ft_ (a0:ab_) (a1:(List Int)):Option (Int×Unit) :=
 ((ek_ a0).bind fun v0 =>
 (cond (v0.1 != 0)
 (some (v0.1,()))
 ((go_ a0 a1).bind fun v1 =>
 (cond (!v1.1)
 (some (12,()))
 (some (0,()))))))
theorem x_87:au_ cx_87 an_87 87 [al_,(.list .int)] [.int]=fun x=>ft_ x.1 x.2.1:=by kernel_rfl
noncomputable def c_87:Con Tryz.prog:=av_ _ _ 87 [al_,(.list .int)] [.int] _ x_87
def an_231:An:=(.p .z (.p (.q [] .z .z) (.p .z (.p .z (.j0 [.v 8 .bool,.b (.s 7) [.keep,.val .int,.val .int,.val .int,.val .int,.val (.list .int),.keep]] (.p .z (.p .z (.p (.j0 [.v 8 .bool] .z .z) (.p .z (.p (.j0 [.v 8 .bool] .z .z) (.j0 [.v 72 .bool] .z (.p (.j0 [.v 8 .bool] .z .z) (.p .z (.p (.j0 [.v 8 .bool] .z .z) (.p .z (.p (.j0 [.v 8 .bool] .z .z) (.p .z (.p (.j0 [.v 8 .bool] .z .z) .z))))))))))))) .z)))))
noncomputable def cs_231:List (Con Tryz.prog):=[c_55,c_166,c_167]
noncomputable def cl_231:List (Cpy Tryz.prog):=[]
noncomputable def cx_231:Cx Tryz.prog:=cxC cs_231 cl_231
noncomputable def gp_ (a0:ab_) (a1:ak_):Option (Bool×Unit) :=
 ((bi_ a1.2.1 0 (w64 (a0.1 - 1))).bind fun v0 =>
 ((bi_ a1.2.2.1 0 (w64 (a0.1 - 1))).bind fun v1 =>
 (((cond (a1.1==1)
 (((cond v0.1
 ((bi_ a1.2.2.2.1 0 (w64 (a0.2 - 1))).bind fun v2 =>
 (some (v2.1,())))
 (some (false,())))).bind fun v3 =>
 (some (v3.1,((a1.2.1,(0,(a1.2.2.2.1,(0,([],()))))),()))))
 (cond (a1.1==2)
 (((cond v0.1
 (cond v1.1
 (cond (decide (a1.2.1≤a1.2.2.1))
 ((bi_ a1.2.2.2.1 0 100).bind fun v4 =>
 (some (v4.1,())))
 (some (false,())))
 (some (false,())))
 (some (false,())))).bind fun v5 =>
 (some (v5.1,((a1.2.1,(a1.2.2.1,(a1.2.2.2.1,(0,([],()))))),()))))
 (((cond (a1.1==3)
 (some ((a1.1==3),()))
 (some ((a1.1==4),())))).bind fun v6 =>
 (cond v6.1
 (((cond v0.1
 (cond v1.1
 (some ((a1.2.1 != a1.2.2.1),()))
 (some (false,())))
 (some (false,())))).bind fun v7 =>
 (some (v7.1,((a1.2.1,(a1.2.2.1,(0,(0,([],()))))),()))))
 (cond (a1.1==5)
 ((((bi_ a1.2.2.2.1 0 (w64 (a0.2 - 1))).bind fun v8 =>
 (cond v8.1
 ((bi_ a1.2.2.2.2.1 0 a0.1).bind fun v9 =>
 (some (v9.1,())))
 (some (false,()))))).bind fun v10 =>
 (some (v10.1,((0,(0,(a1.2.2.2.1,(a1.2.2.2.2.1,([],()))))),()))))
 (cond (a1.1==6)
 ((((go_ a0 a1.2.2.2.2.2.1).bind fun v11 =>
 (cond v11.1
 ((bi_ a1.2.2.2.1 0 a0.1).bind fun v12 =>
 (cond v12.1
 ((bi_ a1.2.2.2.2.1 0 a0.1).bind fun v13 =>
 (some (v13.1,())))
 (some (false,()))))
 (some (false,()))))).bind fun v14 =>
 (some (v14.1,((0,(0,(a1.2.2.2.1,(a1.2.2.2.2.1,(a1.2.2.2.2.2.1,()))))),()))))
 (cond (a1.1==7)
 (((cond v0.1
 ((bi_ a1.2.2.2.1 2 10).bind fun v15 =>
 (cond v15.1
 ((bi_ a1.2.2.2.2.1 0 (w64 (a1.2.2.2.1 - 1))).bind fun v16 =>
 (some (v16.1,())))
 (some (false,()))))
 (some (false,())))).bind fun v17 =>
 (some (v17.1,((a1.2.1,(0,(a1.2.2.2.1,(a1.2.2.2.2.1,([],()))))),()))))
 (some (false,((0,(0,(0,(0,([],()))))),()))))))))))).bind fun v18 =>
 (cond v18.1
 ((ja_ a1 (a1.1,(v18.2.1.1,(v18.2.1.2.1,(v18.2.1.2.2.1,(v18.2.1.2.2.2.1,(v18.2.1.2.2.2.2.1,a1.2.2.2.2.2.2))))))).bind fun v19 =>
 (some (v19.1,())))
 (some (false,()))))))
theorem x_231:au_ cx_231 an_231 231 [al_,ap_] [.bool]=fun x=>gp_ x.1 x.2.1:=by kernel_rfl
noncomputable def c_231:Con Tryz.prog:=av_ _ _ 231 [al_,ap_] [.bool] _ x_231
def an_170:An:=(.p .z (.p .z (.j0 [.v 5 .bool] (.p .z (.p .z (.p (.q [] .z .z) (.p .z (.p (.p .z (.p (.p .z (.lp [.v 6 .int,.v 7 .int] [.v 6 .int] [] 1 .z)) .z)) (.p .z (.p (.q [] .z .z) (.p .z (.p (.q [] .z .z) (.p .z (.p (.q [] .z .z) (.p .z (.p .z (.p .z (.p (.q [] .z .z) .z))))))))))))))) .z)))
noncomputable def cs_170:List (Con Tryz.prog):=[c_232,c_233]
noncomputable def cl_170:List (Cpy Tryz.prog):=[]
noncomputable def cx_170:Cx Tryz.prog:=cxC cs_170 cl_170
noncomputable def fi_ (a0:ak_) (a1:(List Int)):Option (Bool×Unit) :=
 (((cond (a0.1==1)
 ((at? a1 a0.2.1).bind fun v0 =>
 (some ((v0==a0.2.2.2.1),())))
 (cond (a0.1==2)
 ((ae_ (ρ:=(Int×Unit)) (fun (v1:(Int×(Int×Unit))) =>
 (cond (decide (v1.2.1≤a0.2.2.1))
 ((at? a1 v1.2.1).bind fun v2 =>
 (some (Sum.inl ((w64 (v1.1+v2)),((w64 (v1.2.1+1)),())))))
 (some (Sum.inr (v1.1,()))))) (0,(a0.2.1,()))).bind fun v3 =>
 (some ((v3.1==a0.2.2.2.1),())))
 (cond (a0.1==3)
 ((at? a1 a0.2.1).bind fun v4 =>
 ((at? a1 a0.2.2.1).bind fun v5 =>
 (some ((decide (v4<v5)),()))))
 (cond (a0.1==4)
 ((at? a1 a0.2.1).bind fun v6 =>
 ((at? a1 a0.2.2.1).bind fun v7 =>
 (some ((v6==v7),()))))
 (cond (a0.1==5)
 ((ej_ a1 a0.2.2.2.1).bind fun v8 =>
 (some ((v8.1==a0.2.2.2.2.1),())))
 (cond (a0.1==6)
 ((ij_ a1 a0.2.2.2.2.2.1).bind fun v9 =>
 (cond (v9.1==a0.2.2.2.1)
 (some ((v9.2.1==a0.2.2.2.2.1),()))
 (some (false,()))))
 (cond (a0.1==7)
 ((at? a1 a0.2.1).bind fun v10 =>
 ((md v10 a0.2.2.2.1).bind fun v11 =>
 (some ((v11==a0.2.2.2.2.1),()))))
 (some (false,())))))))))).bind fun v12 =>
 (some ((v12.1 != a0.2.2.2.2.2.2),())))
theorem x_170:au_ cx_170 an_170 170 [ap_,(.list .int)] [.bool]=fun x=>fi_ x.1 x.2.1:=by kernel_rfl
noncomputable def c_170:Con Tryz.prog:=av_ _ _ 170 [ap_,(.list .int)] [.bool] _ x_170
def an_122:An:=(.p .z (.p .z (.p (.p .z (.lp [.r 5 ar_ 68,.v 6 .int] [.r 5 ar_ 68] [] 0 (.p .z (.p (.p .z (.lp [.r 5 ar_ 68,.v 7 .int] [.r 5 ar_ 68] [] 2 (.p .z (.p (.p .z (.lp [.r 5 ar_ 68,.v 8 .int] [.r 5 ar_ 68] [] 4 (.p .z (.j0 [.r 5 ar_ 68] .z .z)))) .z)))) .z)))) .z)))
noncomputable def cs_122:List (Con Tryz.prog):=[c_194]
noncomputable def cl_122:List (Cpy Tryz.prog):=[]
noncomputable def cx_122:Cx Tryz.prog:=cxC cs_122 cl_122
noncomputable def eu_ (a0:ad_) (a1:ah_):Option ((List af_)×Unit) :=
 ((ae_ (ρ:=((List af_)×Unit)) (fun (v0:((List af_)×(Int×Unit))) =>
 (cond (decide (v0.2.1<a0.2.2.2.2.2.2.1))
 ((ae_ (ρ:=((List af_)×Unit)) (fun (v1:((List af_)×(Int×Unit))) =>
 (cond (decide (v1.2.1≤4))
 ((ae_ (ρ:=((List af_)×Unit)) (fun (v2:((List af_)×(Int×Unit))) =>
 (cond (decide (v2.2.1<24))
 ((((jm_ a0 a1 (v0.2.1,(v1.2.1,v2.2.1))).bind fun v3 =>
 (cond v3.1
 ((push? (α:=af_) v2.1 [(v0.2.1,(v1.2.1,v2.2.1))]).bind fun v4 =>
 (some (v4,())))
 (some (v2.1,()))))).bind fun v5 =>
 (some (Sum.inl (v5.1,((w64 (v2.2.1+1)),())))))
 (some (Sum.inr (v2.1,()))))) (v1.1,(0,()))).bind fun v6 =>
 (some (Sum.inl (v6.1,((w64 (v1.2.1+1)),())))))
 (some (Sum.inr (v1.1,()))))) (v0.1,(1,()))).bind fun v7 =>
 (some (Sum.inl (v7.1,((w64 (v0.2.1+1)),())))))
 (some (Sum.inr (v0.1,()))))) ([],(0,()))).bind fun v8 =>
 (some (v8.1,())))
theorem x_122:au_ cx_122 an_122 122 [ao_,aq_] [(.list ar_)]=fun x=>eu_ x.1 x.2.1:=by kernel_rfl
noncomputable def c_122:Con Tryz.prog:=av_ _ _ 122 [ao_,aq_] [(.list ar_)] _ x_122
def an_124:An:=(.p .z (.p .z (.p (.q [] .z .z) (.j0 [.o (.c (.s 8) 0) .int,.o (.c (.s 8) 1) .int,.o (.c (.s 8) 2) .int] (.p .z (.p .z (.p .z (.p .z (.p .z (.p .z (.p .z (.p .z (.p (.p .z (.p (.p .z (.lp [.v 12 .int] [] [.o (.c (.s 8) 1) .int] 1 .z)) (.p (.p .z (.lp [.v 13 .int] [] [.o (.c (.s 8) 1) .int] 3 .z)) (.p .z (.lp [.v 14 .int] [] [.o (.c (.s 8) 0) .int] 5 .z))))) .z))))))))) .z))))
def at_124:FuncId→An:=fun k=>.z
noncomputable def cs_124:List (Con Tryz.prog):=[c_196]
noncomputable def cl_124:List (Cpy Tryz.prog):=[]
noncomputable def cx_124:Cx Tryz.prog:=cxI at_124 (fun k=>Nat.beq k 196||false) (cxC cs_124 cl_124) 2
noncomputable def gn_ (a0:ad_) (a1:ah_) (a2:af_):Option (ah_×Bool×Unit) :=
 ((push? (α:=Int) [] a1.1).bind fun v0 =>
 ((push? (α:=Int) [] a1.2.1).bind fun v1 =>
 ((push? (α:=Int) [] a1.2.2).bind fun v2 =>
 ((at? a1.2.2 a2.1).bind fun v3 =>
 (((cond (a2.2.1==1)
 ((at? a0.2.2.2.1 a2.2.2).bind fun v4 =>
 ((at? a0.2.2.2.1 a2.2.2).bind fun v5 =>
 ((at? v2 a2.1).bind fun v6 =>
 ((at? v2 a2.1).bind fun v7 =>
 (some (v0,(v1,((v2.set a2.1.toNat (w64 ((w64 (v4.1+v5.2.1)) - v3))),()))))))))
 (cond (a2.2.1==2)
 ((at? v1 a2.2.2).bind fun v8 =>
 ((at? v1 a2.2.2).bind fun v9 =>
 (some (v0,((v1.set a2.2.2.toNat (w64 ((-2) - a2.1))),(v2,()))))))
 (cond (a2.2.1==3)
 ((at? v1 a2.2.2).bind fun v10 =>
 ((at? v1 a2.2.2).bind fun v11 =>
 (some (v0,((v1.set a2.2.2.toNat v3),(v2,()))))))
 (cond (a2.2.1==4)
 ((at? a0.2.2.2.2.1 a2.2.2).bind fun v12 =>
 ((ae_ (ρ:=((List Int)×Unit)) (fun (v13:(Int×((List Int)×Unit))) =>
 (cond (decide (v13.1<(v12.2.2.2.2.2.2.1.length:Int)))
 ((at? v12.2.2.2.2.2.2.1 v13.1).bind fun v14 =>
 ((at? v13.2.1 v14).bind fun v15 =>
 ((at? v13.2.1 v14).bind fun v16 =>
 (some (Sum.inl ((w64 (v13.1+1)),((v13.2.1.set v14.toNat (-1)),())))))))
 (some (Sum.inr (v13.2.1,()))))) (0,(v1,()))).bind fun v17 =>
 ((ae_ (ρ:=((List Int)×Unit)) (fun (v18:(Int×((List Int)×Unit))) =>
 (cond (decide (v18.1<(v12.2.2.2.2.2.2.2.length:Int)))
 ((at? v12.2.2.2.2.2.2.2 v18.1).bind fun v19 =>
 ((at? v18.2.1 v19).bind fun v20 =>
 ((at? v18.2.1 v19).bind fun v21 =>
 (some (Sum.inl ((w64 (v18.1+1)),((v18.2.1.set v19.toNat (w64 ((-2) - a2.1))),())))))))
 (some (Sum.inr (v18.2.1,()))))) (0,(v17.1,()))).bind fun v22 =>
 ((ae_ (ρ:=((List Int)×Unit)) (fun (v23:(Int×((List Int)×Unit))) =>
 (cond (decide (v23.1<(v12.2.2.2.2.2.1.length:Int)))
 ((at? v12.2.2.2.2.2.1 v23.1).bind fun v24 =>
 ((at? v12.2.2.2.2.2.1 v23.1).bind fun v25 =>
 ((at? v23.2.1 v24.1).bind fun v26 =>
 ((at? v23.2.1 v24.1).bind fun v27 =>
 (some (Sum.inl ((w64 (v23.1+1)),((v23.2.1.set v24.1.toNat v25.2),()))))))))
 (some (Sum.inr (v23.2.1,()))))) (0,(v0,()))).bind fun v28 =>
 (some (v28.1,(v22.1,(v2,()))))))))
 (some (v0,(v1,(v2,()))))))))).bind fun v29 =>
 ((gm_ a0 (v29.1,(v29.2.1,v29.2.2.1))).bind fun v30 =>
 (some (v30.1,(v30.2.1,())))))))))
theorem x_124:au_ cx_124 an_124 124 [ao_,aq_,ar_] [aq_,.bool]=fun x=>gn_ x.1 x.2.1 x.2.2.1:=by kernel_rfl
noncomputable def c_124:Con Tryz.prog:=av_ _ _ 124 [ao_,aq_,ar_] [aq_,.bool] _ x_124
def an_206:An:=(.p .z (.p (.p .z (.ls [.v 6 .int] [] [] 0 (.p .z (.p .z (.p (.p .z (.j0 [.v 18 .bool] .z .z)) .z))))) .z))
noncomputable def cs_206:List (Con Tryz.prog):=[c_258]
noncomputable def cl_206:List (Cpy Tryz.prog):=[]
noncomputable def cx_206:Cx Tryz.prog:=cxC cs_206 cl_206
noncomputable def fc_ (a0:(List UInt8)):Option (Bool×Unit) :=
 ((ae_ (ρ:=(Unit⊕(Bool×Unit))) (fun (v0:(Int×Unit)) =>
 (cond (decide (v0.1<(a0.length:Int)))
 ((((at? a0 v0.1).bind fun v1 =>
 (cond (decide (((UInt8.toNat v1):Int)<97))
 (some (true,()))
 ((at? a0 v0.1).bind fun v2 =>
 (some ((decide (122<((UInt8.toNat v2):Int))),())))))).bind fun v3 =>
 (cond v3.1
 (some (Sum.inr (Sum.inr (false,()))))
 (some (Sum.inl ((w64 (v0.1+1)),())))))
 (some (Sum.inr (Sum.inl ()))))) (0,())).bind fun v4 =>
 (bv_ v4 (fun v5=>(cond (!(a0==[]))
 ((cv_ [[97,116],[115,116,97,116,101,115],[115,116,97,114,116],[103,111,110,101],[105,102],[108,111,99,107],[119,105,116,104],[115,101,116,115],[115,112,101,110,100,115],[98,114,105,110,103,115]] a0).bind fun v7 =>
 (some ((!v7.1),())))
 (some (false,()))))
 (fun v6=>(some v6))))
theorem x_206:au_ cx_206 an_206 206 [.str] [.bool]=fun x=>fc_ x.1:=by kernel_rfl
noncomputable def c_206:Con Tryz.prog:=av_ _ _ 206 [.str] [.bool] _ x_206
def an_147:An:=.z
def at_147:FuncId→An:=fun k=>cond (Nat.beq k 157) (.p .z (.j0 [.v 4 .bool] .z .z)) (cond (Nat.beq k 224) (.p .z (.p (.p .z (.ls [.v 8 .int] [] [] 0 .z)) .z)) (.z))
noncomputable def cs_147:List (Con Tryz.prog):=[c_149]
noncomputable def cl_147:List (Cpy Tryz.prog):=[]
noncomputable def cx_147:Cx Tryz.prog:=cxI at_147 (fun k=>Nat.beq k 149||false) (cxC cs_147 cl_147) 4
noncomputable def dt_ (a0:ad_) (a1:(List bd_)):Option (Bool×Unit) :=
 (cond (decide ((a1.length:Int)≤8))
 ((((ae_ (ρ:=(Unit⊕(Bool×Unit))) (fun (v0:(Int×Unit)) =>
 (cond (decide (v0.1<(a1.length:Int)))
 ((at? a1 v0.1).bind fun v1 =>
 ((fd_ a0 v1.1 v1.2.1).bind fun v2 =>
 (cond (!v2.1)
 (some (Sum.inr (Sum.inr ((decide (0≤v0.1)),()))))
 (some (Sum.inl ((w64 (v0.1+1)),()))))))
 (some (Sum.inr (Sum.inl ()))))) (0,())).bind fun v3 =>
 (bv_ v3 (fun v4=>(some ((decide (0≤(-1))),())))
 (fun v5=>(some v5))))).bind fun v6 =>
 (some ((!v6.1),())))
 (some (false,())))
theorem x_147:au_ cx_147 an_147 147 [ao_,(.list br_)] [.bool]=fun x=>dt_ x.1 x.2.1:=by kernel_rfl
noncomputable def c_147:Con Tryz.prog:=av_ _ _ 147 [ao_,(.list br_)] [.bool] _ x_147
def an_201:An:=.z
def at_201:FuncId→An:=fun k=>cond (Nat.beq k 183) (.p .z (.p (.p .z (.ls [.v 8 .int] [] [] 0 .z)) .z)) (cond (Nat.beq k 216) (.p .z (.j0 [.v 4 .bool] .z .z)) (.z))
noncomputable def cs_201:List (Con Tryz.prog):=[c_200]
noncomputable def cl_201:List (Cpy Tryz.prog):=[]
noncomputable def cx_201:Cx Tryz.prog:=cxI at_201 (fun k=>Nat.beq k 200||false) (cxC cs_201 cl_201) 4
noncomputable def dj_ (a0:ab_) (a1:(List Int)):Option (Bool×Unit) :=
 (cond ((a1.length:Int)==a0.1)
 ((((ae_ (ρ:=(Unit⊕(Bool×Unit))) (fun (v0:(Int×Unit)) =>
 (cond (decide (v0.1<(a1.length:Int)))
 ((at? a1 v0.1).bind fun v1 =>
 ((cp_ a0 v1).bind fun v2 =>
 (cond (!v2.1)
 (some (Sum.inr (Sum.inr ((decide (0≤v0.1)),()))))
 (some (Sum.inl ((w64 (v0.1+1)),()))))))
 (some (Sum.inr (Sum.inl ()))))) (0,())).bind fun v3 =>
 (bv_ v3 (fun v4=>(some ((decide (0≤(-1))),())))
 (fun v5=>(some v5))))).bind fun v6 =>
 (some ((!v6.1),())))
 (some (false,())))
theorem x_201:au_ cx_201 an_201 201 [al_,(.list .int)] [.bool]=fun x=>dj_ x.1 x.2.1:=by kernel_rfl
noncomputable def c_201:Con Tryz.prog:=av_ _ _ 201 [al_,(.list .int)] [.bool] _ x_201
def an_223:An:=(.p .z (.p (.q [] .z .z) .z))
noncomputable def cs_223:List (Con Tryz.prog):=[c_268]
noncomputable def cl_223:List (Cpy Tryz.prog):=[]
noncomputable def cx_223:Cx Tryz.prog:=cxC cs_223 cl_223
noncomputable def fx_ (a0:ak_) (a1:(List Int)):Option (Bool×Unit) :=
 ((nb_ a0 a1).bind fun v0 =>
 (some ((v0.1 != a0.2.2.2.2.2.2),())))
theorem x_223:au_ cx_223 an_223 223 [ap_,(.list .int)] [.bool]=fun x=>fx_ x.1 x.2.1:=by kernel_rfl
noncomputable def c_223:Con Tryz.prog:=av_ _ _ 223 [ap_,(.list .int)] [.bool] _ x_223
def an_64:An:=(.p .z (.p .z (.p (.p .z (.lp [.v 8 .int] [] [.o (.s 7) .int] 0 (.p .z (.j0 [.o (.s 7) .int] (.p .z (.p (.q [] .z .z) .z)) .z)))) (.p (.p .z (.lp [.v 9 .int,.v 10 .bool] [] [.o (.s 7) .int] 2 (.p .z (.p (.p .z (.p .z (.lp [.v 10 .bool,.v 11 .int] [.v 10 .bool] [.o (.s 7) .int] 4 (.p .z (.p (.p .z (.lp [.v 10 .bool,.v 12 .int] [.v 10 .bool] [.o (.s 7) .int] 6 (.p (.j0 [.v 60 .bool] .z .z) (.j0 [.v 10 .bool,.o (.s 7) .int] (.p .z (.j0 [.v 84 .bool] .z .z)) .z)))) .z))))) .z)))) .z))))
noncomputable def cs_64:List (Con Tryz.prog):=[c_127,c_128]
noncomputable def cl_64:List (Cpy Tryz.prog):=[]
noncomputable def cx_64:Cx Tryz.prog:=cxC cs_64 cl_64
noncomputable def eb_ (a0:ac_) (a1:cb_) (a2:Int):Option ((List Int)×Unit) :=
 ((mk? (α:=Int) (a1.1.length:Int) 0).bind fun v0 =>
 ((ae_ (ρ:=((List Int)×Unit)) (fun (v1:(Int×((List Int)×Unit))) =>
 (cond (decide (v1.1<(v1.2.1.length:Int)))
 ((((at? v1.2.1 v1.1).bind fun v2 =>
 ((at? v1.2.1 v1.1).bind fun v3 =>
 ((at? a1.1 v1.1).bind fun v4 =>
 ((gq_ a0 v4).bind fun v5 =>
 (cond v5.1
 ((at? (v1.2.1.set v1.1.toNat (-1)) v1.1).bind fun v6 =>
 ((at? (v1.2.1.set v1.1.toNat (-1)) v1.1).bind fun v7 =>
 (some (((v1.2.1.set v1.1.toNat (-1)).set v1.1.toNat 0),()))))
 (some ((v1.2.1.set v1.1.toNat (-1)),())))))))).bind fun v8 =>
 (some (Sum.inl ((w64 (v1.1+1)),(v8.1,())))))
 (some (Sum.inr (v1.2.1,()))))) (0,(v0,()))).bind fun v9 =>
 ((ae_ (ρ:=((List Int)×Unit)) (fun (v10:(Int×(Bool×((List Int)×Unit)))) =>
 (cond v10.2.1
 ((ae_ (ρ:=(Bool×((List Int)×Unit))) (fun (v11:(Bool×(Int×((List Int)×Unit)))) =>
 (cond (decide (v11.2.1<(v11.2.2.1.length:Int)))
 ((ae_ (ρ:=(Bool×((List Int)×Unit))) (fun (v12:(Bool×(Int×((List Int)×Unit)))) =>
 ((((at? a1.2 v11.2.1).bind fun v13 =>
 (cond (decide (v12.2.1<(v13.length:Int)))
 ((at? v12.2.2.1 v11.2.1).bind fun v14 =>
 ((at? v12.2.2.1 v11.2.1).bind fun v15 =>
 (some ((decide (v15<0)),()))))
 (some (false,()))))).bind fun v16 =>
 (cond v16.1
 ((((at? a1.2 v11.2.1).bind fun v17 =>
 ((at? v17 v12.2.1).bind fun v18 =>
 ((((at? v12.2.2.1 v18.2).bind fun v19 =>
 ((at? v12.2.2.1 v18.2).bind fun v20 =>
 (cond (v20==(w64 (v10.1 - 1)))
 ((lc_ v18 a2).bind fun v21 =>
 (some ((!v21.1),())))
 (some (false,())))))).bind fun v22 =>
 (cond v22.1
 ((at? v12.2.2.1 v11.2.1).bind fun v23 =>
 ((at? v12.2.2.1 v11.2.1).bind fun v24 =>
 (some (true,((v12.2.2.1.set v11.2.1.toNat v10.1),())))))
 (some (v12.1,(v12.2.2.1,())))))))).bind fun v25 =>
 (some (Sum.inl (v25.1,((w64 (v12.2.1+1)),(v25.2.1,()))))))
 (some (Sum.inr (v12.1,(v12.2.2.1,()))))))) (v11.1,(0,(v11.2.2.1,())))).bind fun v26 =>
 (some (Sum.inl (v26.1,((w64 (v11.2.1+1)),(v26.2.1,()))))))
 (some (Sum.inr (v11.1,(v11.2.2.1,())))))) (false,(0,(v10.2.2.1,())))).bind fun v27 =>
 (some (Sum.inl ((w64 (v10.1+1)),(v27.1,(v27.2.1,()))))))
 (some (Sum.inr (v10.2.2.1,()))))) (1,(true,(v9.1,())))).bind fun v28 =>
 (some (v28.1,())))))
theorem x_64:au_ cx_64 an_64 64 [am_,cy_,.int] [(.list .int)]=fun x=>eb_ x.1 x.2.1 x.2.2.1:=by kernel_rfl
noncomputable def c_64:Con Tryz.prog:=av_ _ _ 64 [am_,cy_,.int] [(.list .int)] _ x_64
def an_65:An:=(.p .z (.p (.j0 [.v 20 .bool] .z .z) (.p (.p .z (.ls [.v 5 .int] [] [] 0 (.p .z (.p (.p (.q [] .z .z) .z) .z)))) .z)))
noncomputable def cs_65:List (Con Tryz.prog):=[c_129]
noncomputable def cl_65:List (Cpy Tryz.prog):=[]
noncomputable def cx_65:Cx Tryz.prog:=cxC cs_65 cl_65
noncomputable def dz_ (a0:aa_) (a1:aa_):Option (Bool×Unit) :=
 ((((ie_ a0.1 a1.1).bind fun v0 =>
 (cond (!v0.1)
 (some (true,()))
 (some (((a0.2.length:Int) != (a1.2.length:Int)),()))))).bind fun v1 =>
 (cond v1.1
 (some (false,()))
 ((ae_ (ρ:=(Unit⊕(Bool×Unit))) (fun (v2:(Int×Unit)) =>
 (cond (decide (v2.1<(a0.2.length:Int)))
 ((at? a0.2 v2.1).bind fun v3 =>
 ((at? a1.2 v2.1).bind fun v4 =>
 (cond (v3 != v4)
 (some (Sum.inr (Sum.inr (false,()))))
 (some (Sum.inl ((w64 (v2.1+1)),()))))))
 (some (Sum.inr (Sum.inl ()))))) (0,())).bind fun v5 =>
 (bv_ v5 (fun v6=>(some (true,())))
 (fun v7=>(some v7))))))
theorem x_65:au_ cx_65 an_65 65 [aj_,aj_] [.bool]=fun x=>dz_ x.1 x.2.1:=by kernel_rfl
noncomputable def c_65:Con Tryz.prog:=av_ _ _ 65 [aj_,aj_] [.bool] _ x_65
def an_66:An:=(.p .z (.p (.j0 [.v 81 .bool] .z .z) (.p (.p .z (.ls [.v 5 .int] [] [] 0 (.p .z (.p (.p (.q [] .z .z) .z) .z)))) (.p (.p .z (.ls [.v 6 .int] [] [] 2 (.p .z (.p (.p (.q [] .z .z) .z) .z)))) (.p (.p .z (.ls [.v 7 .int] [] [] 4 (.p .z (.p (.p .z (.j0 [.v 154 .bool] .z .z)) .z)))) (.p (.p .z (.ls [.v 10 .int] [] [] 6 (.p .z (.p (.p .z (.j0 [.v 191 .bool] .z .z)) .z)))) (.p (.p .z (.ls [.v 13 .int] [] [] 8 (.p .z (.p (.p (.q [] .z .z) .z) .z)))) (.p (.p .z (.ls [.v 14 .int] [] [] 10 (.p .z (.p (.j0 [.v 246 .bool] (.q [] .z .z) .z) .z)))) .z))))))))
noncomputable def cs_66:List (Con Tryz.prog):=[c_130,c_131]
noncomputable def cl_66:List (Cpy Tryz.prog):=[]
noncomputable def cx_66:Cx Tryz.prog:=cxC cs_66 cl_66
noncomputable def li_ (a0:ad_) (a1:ad_):Option (Bool×Unit) :=
 (((cond ((a0.1.length:Int) != (a1.1.length:Int))
 (some (true,()))
 (cond ((a0.2.1.length:Int) != (a1.2.1.length:Int))
 (some (true,()))
 (cond ((a0.2.2.1.length:Int) != (a1.2.2.1.length:Int))
 (some (true,()))
 (cond ((a0.2.2.2.1.length:Int) != (a1.2.2.2.1.length:Int))
 (some (true,()))
 (cond ((a0.2.2.2.2.1.length:Int) != (a1.2.2.2.2.1.length:Int))
 (some (true,()))
 (cond ((a0.2.2.2.2.2.1.length:Int) != (a1.2.2.2.2.2.1.length:Int))
 (some (true,()))
 (cond (a0.2.2.2.2.2.2.1 != a1.2.2.2.2.2.2.1)
 (some (true,()))
 ((cl_ a0.2.2.2.2.2.2.2 a1.2.2.2.2.2.2.2).bind fun v0 =>
 (some ((!v0.1),()))))))))))).bind fun v1 =>
 (cond v1.1
 (some (false,()))
 ((ae_ (ρ:=(Unit⊕(Bool×Unit))) (fun (v2:(Int×Unit)) =>
 (cond (decide (v2.1<(a0.1.length:Int)))
 ((at? a0.1 v2.1).bind fun v3 =>
 ((at? a1.1 v2.1).bind fun v4 =>
 (cond (!(v3==v4))
 (some (Sum.inr (Sum.inr (false,()))))
 (some (Sum.inl ((w64 (v2.1+1)),()))))))
 (some (Sum.inr (Sum.inl ()))))) (0,())).bind fun v5 =>
 (bv_ v5 (fun v6=>((ae_ (ρ:=(Unit⊕(Bool×Unit))) (fun (v8:(Int×Unit)) =>
 (cond (decide (v8.1<(a0.2.1.length:Int)))
 ((at? a0.2.1 v8.1).bind fun v9 =>
 ((at? a1.2.1 v8.1).bind fun v10 =>
 (cond (!((v9.1==v10.1)&&((v9.2.1==v10.2.1)&&((v9.2.2.1==v10.2.2.1)&&(v9.2.2.2==v10.2.2.2)))))
 (some (Sum.inr (Sum.inr (false,()))))
 (some (Sum.inl ((w64 (v8.1+1)),()))))))
 (some (Sum.inr (Sum.inl ()))))) (0,())).bind fun v11 =>
 (bv_ v11 (fun v12=>((ae_ (ρ:=(Unit⊕(Bool×Unit))) (fun (v14:(Int×Unit)) =>
 (cond (decide (v14.1<(a0.2.2.1.length:Int)))
 ((at? a0.2.2.1 v14.1).bind fun v15 =>
 ((at? a1.2.2.1 v14.1).bind fun v16 =>
 (((cond (!(v15.1==v16.1))
 (some (true,()))
 (cond (v15.2.1 != v16.2.1)
 (some (true,()))
 ((cl_ v15.2.2 v16.2.2).bind fun v17 =>
 (some ((!v17.1),())))))).bind fun v18 =>
 (cond v18.1
 (some (Sum.inr (Sum.inr (false,()))))
 (some (Sum.inl ((w64 (v14.1+1)),())))))))
 (some (Sum.inr (Sum.inl ()))))) (0,())).bind fun v19 =>
 (bv_ v19 (fun v20=>((ae_ (ρ:=(Unit⊕(Bool×Unit))) (fun (v22:(Int×Unit)) =>
 (cond (decide (v22.1<(a0.2.2.2.1.length:Int)))
 ((at? a0.2.2.2.1 v22.1).bind fun v23 =>
 ((at? a1.2.2.2.1 v22.1).bind fun v24 =>
 (((cond (v23.1 != v24.1)
 (some (true,()))
 (cond (v23.2.1 != v24.2.1)
 (some (true,()))
 ((cl_ v23.2.2 v24.2.2).bind fun v25 =>
 (some ((!v25.1),())))))).bind fun v26 =>
 (cond v26.1
 (some (Sum.inr (Sum.inr (false,()))))
 (some (Sum.inl ((w64 (v22.1+1)),())))))))
 (some (Sum.inr (Sum.inl ()))))) (0,())).bind fun v27 =>
 (bv_ v27 (fun v28=>((ae_ (ρ:=(Unit⊕(Bool×Unit))) (fun (v30:(Int×Unit)) =>
 (cond (decide (v30.1<(a0.2.2.2.2.1.length:Int)))
 ((at? a0.2.2.2.2.1 v30.1).bind fun v31 =>
 ((at? a1.2.2.2.2.1 v30.1).bind fun v32 =>
 ((hq_ v31 v32).bind fun v33 =>
 (cond (!v33.1)
 (some (Sum.inr (Sum.inr (false,()))))
 (some (Sum.inl ((w64 (v30.1+1)),())))))))
 (some (Sum.inr (Sum.inl ()))))) (0,())).bind fun v34 =>
 (bv_ v34 (fun v35=>((ae_ (ρ:=(Unit⊕(Bool×Unit))) (fun (v37:(Int×Unit)) =>
 (cond (decide (v37.1<(a0.2.2.2.2.2.1.length:Int)))
 ((((at? a0.2.2.2.2.2.1 v37.1).bind fun v38 =>
 ((at? a1.2.2.2.2.2.1 v37.1).bind fun v39 =>
 (cond (!((v38.2.1==v39.2.1)&&(v38.2.2==v39.2.2)))
 (some (true,()))
 ((at? a0.2.2.2.2.2.1 v37.1).bind fun v40 =>
 ((at? a1.2.2.2.2.2.1 v37.1).bind fun v41 =>
 ((cl_ v40.1 v41.1).bind fun v42 =>
 (some ((!v42.1),()))))))))).bind fun v43 =>
 (cond v43.1
 (some (Sum.inr (Sum.inr (false,()))))
 (some (Sum.inl ((w64 (v37.1+1)),())))))
 (some (Sum.inr (Sum.inl ()))))) (0,())).bind fun v44 =>
 (bv_ v44 (fun v45=>(some (true,())))
 (fun v46=>(some v46)))))
 (fun v36=>(some v36)))))
 (fun v29=>(some v29)))))
 (fun v21=>(some v21)))))
 (fun v13=>(some v13)))))
 (fun v7=>(some v7))))))
theorem x_66:au_ cx_66 an_66 66 [ao_,ao_] [.bool]=fun x=>li_ x.1 x.2.1:=by kernel_rfl
noncomputable def c_66:Con Tryz.prog:=av_ _ _ 66 [ao_,ao_] [.bool] _ x_66
def an_67:An:=(.p .z (.p (.j0 [.v 41 .bool] .z .z) (.p (.p .z (.ls [.v 5 .int] [] [] 0 (.p .z (.p (.p (.q [] .z .z) .z) .z)))) .z)))
noncomputable def cs_67:List (Con Tryz.prog):=[c_132]
noncomputable def cl_67:List (Cpy Tryz.prog):=[]
noncomputable def cx_67:Cx Tryz.prog:=cxC cs_67 cl_67
noncomputable def gr_ (a0:cc_) (a1:cc_):Option (Bool×Unit) :=
 (((cond (!(a0.1==a1.1))
 (some (true,()))
 (cond (a0.2.1 != a1.2.1)
 (some (true,()))
 (cond (a0.2.2.1 != a1.2.2.1)
 (some (true,()))
 ((gs_ a0.2.2.2.2 a1.2.2.2.2).bind fun v0 =>
 (cond (!v0.1)
 (some (true,()))
 (some (((a0.2.2.2.1.length:Int) != (a1.2.2.2.1.length:Int)),())))))))).bind fun v1 =>
 (cond v1.1
 (some (false,()))
 ((ae_ (ρ:=(Unit⊕(Bool×Unit))) (fun (v2:(Int×Unit)) =>
 (cond (decide (v2.1<(a0.2.2.2.1.length:Int)))
 ((at? a0.2.2.2.1 v2.1).bind fun v3 =>
 ((at? a1.2.2.2.1 v2.1).bind fun v4 =>
 (cond (!((v3.1==v4.1)&&((v3.2.1==v4.2.1)&&(v3.2.2==v4.2.2))))
 (some (Sum.inr (Sum.inr (false,()))))
 (some (Sum.inl ((w64 (v2.1+1)),()))))))
 (some (Sum.inr (Sum.inl ()))))) (0,())).bind fun v5 =>
 (bv_ v5 (fun v6=>(some (true,())))
 (fun v7=>(some v7))))))
theorem x_67:au_ cx_67 an_67 67 [ha_,ha_] [.bool]=fun x=>gr_ x.1 x.2.1:=by kernel_rfl
noncomputable def c_67:Con Tryz.prog:=av_ _ _ 67 [ha_,ha_] [.bool] _ x_67
end
section
set_option maxRecDepth 100000
set_option maxHeartbeats 0
def an_165:An:=(.p .z (.p .z (.p (.p .z (.ls [.v 6 .int] [] [] 0 .z)) (.p (.j0 [.v 73 .bool] .z .z) (.p (.p .z (.ls [.v 7 .int] [] [] 2 .z)) (.p (.p .z (.ls [.v 8 .int] [] [] 4 .z)) (.p (.p .z (.ls [.v 9 .int] [] [] 6 (.p .z (.p (.p .z (.p .z (.ls [.v 10 .int] [] [] 8 .z))) .z)))) .z)))))))
noncomputable def cs_165:List (Con Tryz.prog):=[c_91,c_92,c_93,c_163,c_229,c_230]
noncomputable def cl_165:List (Cpy Tryz.prog):=[]
noncomputable def cx_165:Cx Tryz.prog:=cxC cs_165 cl_165
noncomputable def mx_ (a0:ad_) (a1:Int):Option (Bool×Unit) :=
 ((at? a0.2.2.2.2.1 a1).bind fun v0 =>
 ((ae_ (ρ:=(Unit⊕(Bool×Unit))) (fun (v1:(Int×Unit)) =>
 (cond (decide (v1.1<a1))
 ((at? a0.2.2.2.2.1 v1.1).bind fun v2 =>
 (cond (v2.1==v0.1)
 (some (Sum.inr (Sum.inr (false,()))))
 (some (Sum.inl ((w64 (v1.1+1)),())))))
 (some (Sum.inr (Sum.inl ()))))) (0,())).bind fun v3 =>
 (bv_ v3 (fun v4=>((((du_ v0.1).bind fun v6 =>
 (cond (!v6.1)
 (some (true,()))
 ((cs_ a0 v0.2.1).bind fun v7 =>
 (cond (!v7.1)
 (some (true,()))
 ((bq_ v0.2.2.1 (-1) 7).bind fun v8 =>
 (cond (!v8.1)
 (some (true,()))
 ((di_ a0 v0.2.2.2.1).bind fun v9 =>
 (cond (!v9.1)
 (some (true,()))
 ((di_ a0 v0.2.2.2.2.2.2.1).bind fun v10 =>
 (cond (!v10.1)
 (some (true,()))
 ((di_ a0 v0.2.2.2.2.2.2.2).bind fun v11 =>
 (cond (!v11.1)
 (some (true,()))
 (some ((decide (6<(v0.2.2.2.2.2.1.length:Int))),()))))))))))))))).bind fun v12 =>
 (cond v12.1
 (some (false,()))
 ((ae_ (ρ:=(Unit⊕(Bool×Unit))) (fun (v13:(Int×Unit)) =>
 (cond (decide (v13.1<(v0.2.2.2.2.2.2.1.length:Int)))
 ((at? v0.2.2.2.2.2.2.1 v13.1).bind fun v14 =>
 ((mh_ v0.2.2.2.1 v14).bind fun v15 =>
 (cond (!v15.1)
 (some (Sum.inr (Sum.inr (false,()))))
 (some (Sum.inl ((w64 (v13.1+1)),()))))))
 (some (Sum.inr (Sum.inl ()))))) (0,())).bind fun v16 =>
 (bv_ v16 (fun v17=>((ae_ (ρ:=(Unit⊕(Bool×Unit))) (fun (v19:(Int×Unit)) =>
 (cond (decide (v19.1<(v0.2.2.2.2.2.2.2.length:Int)))
 ((at? v0.2.2.2.2.2.2.2 v19.1).bind fun v20 =>
 ((mh_ v0.2.2.2.1 v20).bind fun v21 =>
 (cond v21.1
 (some (Sum.inr (Sum.inr (false,()))))
 (some (Sum.inl ((w64 (v19.1+1)),()))))))
 (some (Sum.inr (Sum.inl ()))))) (0,())).bind fun v22 =>
 (bv_ v22 (fun v23=>((ae_ (ρ:=(Unit⊕(Bool×Unit))) (fun (v25:(Int×Unit)) =>
 (cond (decide (v25.1<(v0.2.2.2.2.2.1.length:Int)))
 ((at? v0.2.2.2.2.2.1 v25.1).bind fun v26 =>
 ((at? v0.2.2.2.2.2.1 v25.1).bind fun v27 =>
 ((gx_ a0 v26.1 v27.2).bind fun v28 =>
 (cond (!v28.1)
 (some (Sum.inr (Sum.inr (false,()))))
 ((ae_ (ρ:=(Unit⊕((Int×Unit)⊕(Unit⊕(Bool×Unit))))) (fun (v29:(Int×Unit)) =>
 (cond (decide (v29.1<v25.1))
 ((at? v0.2.2.2.2.2.1 v29.1).bind fun v30 =>
 ((at? v0.2.2.2.2.2.1 v25.1).bind fun v31 =>
 (cond (v30.1==v31.1)
 (some (Sum.inr (Sum.inr (Sum.inr (Sum.inr (false,()))))))
 (some (Sum.inl ((w64 (v29.1+1)),()))))))
 (some (Sum.inr (Sum.inl ()))))) (0,())).bind fun v32 =>
 (bv_ v32 (fun v33=>(some (Sum.inl ((w64 (v25.1+1)),()))))
 (fun v34=>(some v34))))))))
 (some (Sum.inr (Sum.inl ()))))) (0,())).bind fun v35 =>
 (bv_ v35 (fun v36=>(some (true,())))
 (fun v37=>(some v37)))))
 (fun v24=>(some v24)))))
 (fun v18=>(some v18)))))))
 (fun v5=>(some v5)))))
theorem x_165:au_ cx_165 an_165 165 [ao_,.int] [.bool]=fun x=>mx_ x.1 x.2.1:=by kernel_rfl
noncomputable def c_165:Con Tryz.prog:=av_ _ _ 165 [ao_,.int] [.bool] _ x_165
def an_169:An:=.z
noncomputable def cs_169:List (Con Tryz.prog):=[c_86,c_231]
noncomputable def cl_169:List (Cpy Tryz.prog):=[]
noncomputable def cx_169:Cx Tryz.prog:=cxC cs_169 cl_169
noncomputable def fu_ (a0:ab_) (a1:ak_):Option (Int×Unit) :=
 ((ek_ a0).bind fun v0 =>
 (cond (v0.1 != 0)
 (some (v0.1,()))
 ((gp_ a0 a1).bind fun v1 =>
 (cond (!v1.1)
 (some (11,()))
 (some (0,()))))))
theorem x_169:au_ cx_169 an_169 169 [al_,ap_] [.int]=fun x=>fu_ x.1 x.2.1:=by kernel_rfl
noncomputable def c_169:Con Tryz.prog:=av_ _ _ 169 [al_,ap_] [.int] _ x_169
def an_293:An:=(.p .z (.p .z (.p .z (.p (.p .z (.ls [.v 6 .int] [] [] 0 (.p .z (.p (.p (.q [] .z .z) .z) .z)))) .z))))
noncomputable def cs_293:List (Con Tryz.prog):=[c_86,c_231]
noncomputable def cl_293:List (Cpy Tryz.prog):=[]
noncomputable def cx_293:Cx Tryz.prog:=cxC cs_293 cl_293
noncomputable def ew_ (a0:ab_) (a1:(List ak_)):Option (Int×Unit) :=
 ((ek_ a0).bind fun v0 =>
 (cond (v0.1 != 0)
 (some (v0.1,()))
 (cond (decide (20<(a1.length:Int)))
 (some (2,()))
 ((ae_ (ρ:=(Unit⊕(Int×Unit))) (fun (v1:(Int×Unit)) =>
 (cond (decide (v1.1<(a1.length:Int)))
 ((at? a1 v1.1).bind fun v2 =>
 ((gp_ a0 v2).bind fun v3 =>
 (cond (!v3.1)
 (some (Sum.inr (Sum.inr (11,()))))
 (some (Sum.inl ((w64 (v1.1+1)),()))))))
 (some (Sum.inr (Sum.inl ()))))) (0,())).bind fun v4 =>
 (bv_ v4 (fun v5=>(some (0,())))
 (fun v6=>(some v6)))))))
theorem x_293:au_ cx_293 an_293 293 [al_,(.list ap_)] [.int]=fun x=>ew_ x.1 x.2.1:=by kernel_rfl
noncomputable def c_293:Con Tryz.prog:=av_ _ _ 293 [al_,(.list ap_)] [.int] _ x_293
def an_297:An:=(.p .z (.p (.p .z (.ls [.v 5 .int] [] [] 0 .z)) .z))
noncomputable def cs_297:List (Con Tryz.prog):=[c_170]
noncomputable def cl_297:List (Cpy Tryz.prog):=[]
noncomputable def cx_297:Cx Tryz.prog:=cxC cs_297 cl_297
noncomputable def jo_ (a0:(List ak_)) (a1:(List Int)):Option (Int×Unit) :=
 ((ae_ (ρ:=(Unit⊕(Int×Unit))) (fun (v0:(Int×Unit)) =>
 (cond (decide (v0.1<(a0.length:Int)))
 ((at? a0 v0.1).bind fun v1 =>
 ((fi_ v1 a1).bind fun v2 =>
 (cond (!v2.1)
 (some (Sum.inr (Sum.inr (v0.1,()))))
 (some (Sum.inl ((w64 (v0.1+1)),()))))))
 (some (Sum.inr (Sum.inl ()))))) (0,())).bind fun v3 =>
 (bv_ v3 (fun v4=>(some ((-1),())))
 (fun v5=>(some v5))))
theorem x_297:au_ cx_297 an_297 297 [(.list ap_),(.list .int)] [.int]=fun x=>jo_ x.1 x.2.1:=by kernel_rfl
noncomputable def c_297:Con Tryz.prog:=av_ _ _ 297 [(.list ap_),(.list .int)] [.int] _ x_297
def an_62:An:=.z
noncomputable def cs_62:List (Con Tryz.prog):=[c_120,c_124]
noncomputable def cl_62:List (Cpy Tryz.prog):=[]
noncomputable def cx_62:Cx Tryz.prog:=cxC cs_62 cl_62
noncomputable def lg_ (a0:ac_) (a1:aa_) (a2:af_):Option (aa_×Unit) :=
 ((gn_ a0.1 a1.1 a2).bind fun v0 =>
 ((ip_ a0 (v0.1,a1.2)).bind fun v1 =>
 (some (v1.1,()))))
theorem x_62:au_ cx_62 an_62 62 [am_,aj_,ar_] [aj_]=fun x=>lg_ x.1 x.2.1 x.2.2.1:=by kernel_rfl
noncomputable def c_62:Con Tryz.prog:=av_ _ _ 62 [am_,aj_,ar_] [aj_] _ x_62
def an_148:An:=(.p .z (.p (.j0 [.v 35 .bool] (.q [] .z .z) .z) (.p (.j0 [.v 60 .bool] .z .z) (.p .z (.p .z (.p (.j0 [.v 72 .bool] .z .z) (.p (.p .z (.ls [.v 76 .int] [] [] 0 (.p .z (.p .z (.p (.p .z (.p .z (.j0 [.v 96 .bool] .z .z))) .z))))) .z)))))))
def at_148:FuncId→An:=fun k=>cond (Nat.beq k 183) (.p .z (.p (.p .z (.ls [.v 8 .int] [] [] 0 .z)) .z)) (cond (Nat.beq k 211) (.p .z (.j0 [.v 6 .bool] .z .z)) (cond (Nat.beq k 216) (.p .z (.j0 [.v 4 .bool] .z .z)) (cond (Nat.beq k 217) (.p .z (.j0 [.v 4 .bool] .z .z)) (cond (Nat.beq k 265) (.p .z (.j0 [.v 6 .int] .z .z)) (cond (Nat.beq k 266) (.p .z (.p (.p .z (.ls [.v 8 .int] [] [] 0 .z)) .z)) (cond (Nat.beq k 287) (.p .z (.p (.p .z (.ls [.v 8 .int] [] [] 0 .z)) .z)) (cond (Nat.beq k 288) (.p .z (.p (.q [] .z .z) .z)) (.z))))))))
noncomputable def cs_148:List (Con Tryz.prog):=[c_83,c_140,c_149,c_206,c_212,c_213]
noncomputable def cl_148:List (Cpy Tryz.prog):=[]
noncomputable def cx_148:Cx Tryz.prog:=cxI at_148 (fun k=>Nat.beq k 83||Nat.beq k 140||Nat.beq k 149||Nat.beq k 206||Nat.beq k 212||Nat.beq k 213||false) (cxC cs_148 cl_148) 12
noncomputable def pk_ (a0:ad_) (a1:Int) (a2:cg_):Option (Bool×Unit) :=
 ((((sub? a0.2.2.2.2.1 0 a1).bind fun v0 =>
 ((((fc_ a2.1).bind fun v1 =>
 (cond v1.1
 (cond (decide ((a2.1.length:Int)≤12))
 ((((ae_ (ρ:=(Unit⊕(Int×Unit))) (fun (v2:(Int×Unit)) =>
 (cond (decide (v2.1<(v0.length:Int)))
 ((at? v0 v2.1).bind fun v3 =>
 (cond (v3.1==a2.1)
 (some (Sum.inr (Sum.inr (v2.1,()))))
 (some (Sum.inl ((w64 (v2.1+1)),())))))
 (some (Sum.inr (Sum.inl ()))))) (0,())).bind fun v4 =>
 (bv_ v4 (fun v5=>(some ((-1),())))
 (fun v6=>(some v6))))).bind fun v7 =>
 (some ((decide (v7.1<0)),())))
 (some (false,())))
 (some (false,()))))).bind fun v8 =>
 (cond (!v8.1)
 (some (true,()))
 ((bc_ a2.2.1 0 (w64 ((a0.1.length:Int) - 1))).bind fun v9 =>
 (cond (!v9.1)
 (some (true,()))
 ((bc_ a2.2.2.1 (-1) 7).bind fun v10 =>
 (some ((!v10.1),()))))))))).bind fun v11 =>
 (cond v11.1
 (some (false,()))
 ((((hd_ a0 a2.2.2.2.1).bind fun v12 =>
 (cond (!v12.1)
 (some (true,()))
 ((hd_ a0 a2.2.2.2.2.2.2.1).bind fun v13 =>
 (cond (!v13.1)
 (some (true,()))
 ((hd_ a0 a2.2.2.2.2.2.2.2).bind fun v14 =>
 (cond (!v14.1)
 (some (true,()))
 (some ((decide (6<(a2.2.2.2.2.2.1.length:Int))),()))))))))).bind fun v15 =>
 (cond v15.1
 (some (false,()))
 ((((((ae_ (ρ:=(Unit⊕(Bool×Unit))) (fun (v16:(Int×Unit)) =>
 (cond (decide (v16.1<(a2.2.2.2.2.2.2.1.length:Int)))
 ((at? a2.2.2.2.2.2.2.1 v16.1).bind fun v17 =>
 ((bh_ a2.2.2.2.1 v17).bind fun v18 =>
 (cond (!v18.1)
 (some (Sum.inr (Sum.inr ((decide (0≤v16.1)),()))))
 (some (Sum.inl ((w64 (v16.1+1)),()))))))
 (some (Sum.inr (Sum.inl ()))))) (0,())).bind fun v19 =>
 (bv_ v19 (fun v20=>(some ((decide (0≤(-1))),())))
 (fun v21=>(some v21))))).bind fun v22 =>
 (cond v22.1
 (some (true,()))
 ((((ae_ (ρ:=(Unit⊕(Bool×Unit))) (fun (v23:(Int×Unit)) =>
 (cond (decide (v23.1<(a2.2.2.2.2.2.2.2.length:Int)))
 ((at? a2.2.2.2.2.2.2.2 v23.1).bind fun v24 =>
 ((bh_ a2.2.2.2.1 v24).bind fun v25 =>
 (cond v25.1
 (some (Sum.inr (Sum.inr ((decide (0≤v23.1)),()))))
 (some (Sum.inl ((w64 (v23.1+1)),()))))))
 (some (Sum.inr (Sum.inl ()))))) (0,())).bind fun v26 =>
 (bv_ v26 (fun v27=>(some ((decide (0≤(-1))),())))
 (fun v28=>(some v28))))).bind fun v29 =>
 (some (v29.1,())))))).bind fun v30 =>
 (cond v30.1
 (some (false,()))
 ((ae_ (ρ:=(Unit⊕(Bool×Unit))) (fun (v31:(Int×Unit)) =>
 (cond (decide (v31.1<(a2.2.2.2.2.2.1.length:Int)))
 ((at? a2.2.2.2.2.2.1 v31.1).bind fun v32 =>
 ((sub? a2.2.2.2.2.2.1 0 v31.1).bind fun v33 =>
 ((((ae_ (ρ:=(Unit⊕(Bool×Unit))) (fun (v34:(Int×Unit)) =>
 (cond (decide (v34.1<(v33.length:Int)))
 ((at? v33 v34.1).bind fun v35 =>
 (cond (v35.1==v32.1)
 (some (Sum.inr (Sum.inr ((decide (0≤v34.1)),()))))
 (some (Sum.inl ((w64 (v34.1+1)),())))))
 (some (Sum.inr (Sum.inl ()))))) (0,())).bind fun v36 =>
 (bv_ v36 (fun v37=>(some ((decide (0≤(-1))),())))
 (fun v38=>(some v38))))).bind fun v39 =>
 ((((fd_ a0 v32.1 v32.2).bind fun v40 =>
 (cond (!v40.1)
 (some (true,()))
 (some (v39.1,()))))).bind fun v41 =>
 (cond v41.1
 (some (Sum.inr (Sum.inr (false,()))))
 (some (Sum.inl ((w64 (v31.1+1)),()))))))))
 (some (Sum.inr (Sum.inl ()))))) (0,())).bind fun v42 =>
 (bv_ v42 (fun v43=>(some (true,())))
 (fun v44=>(some v44))))))))))
theorem x_148:au_ cx_148 an_148 148 [ao_,.int,gi_] [.bool]=fun x=>pk_ x.1 x.2.1 x.2.2.1:=by kernel_rfl
noncomputable def c_148:Con Tryz.prog:=av_ _ _ 148 [ao_,.int,gi_] [.bool] _ x_148
def an_151:An:=.z
def at_151:FuncId→An:=fun k=>cond (Nat.beq k 219) (.p .z (.j0 [.v 4 .bool] .z .z)) (cond (Nat.beq k 267) (.p .z (.p (.p .z (.ls [.v 8 .int] [] [] 0 .z)) .z)) (.z))
noncomputable def cs_151:List (Con Tryz.prog):=[c_75,c_201]
noncomputable def cl_151:List (Cpy Tryz.prog):=[]
noncomputable def cx_151:Cx Tryz.prog:=cxI at_151 (fun k=>Nat.beq k 75||Nat.beq k 201||false) (cxC cs_151 cl_151) 4
noncomputable def ht_ (a0:ab_) (a1:(List (List Int))):Option (Int×Unit) :=
 ((el_ a0).bind fun v0 =>
 (cond (v0.1 != 0)
 (some (v0.1,()))
 ((((ae_ (ρ:=(Unit⊕(Bool×Unit))) (fun (v1:(Int×Unit)) =>
 (cond (decide (v1.1<(a1.length:Int)))
 ((at? a1 v1.1).bind fun v2 =>
 ((dj_ a0 v2).bind fun v3 =>
 (cond (!v3.1)
 (some (Sum.inr (Sum.inr ((decide (0≤v1.1)),()))))
 (some (Sum.inl ((w64 (v1.1+1)),()))))))
 (some (Sum.inr (Sum.inl ()))))) (0,())).bind fun v4 =>
 (bv_ v4 (fun v5=>(some ((decide (0≤(-1))),())))
 (fun v6=>(some v6))))).bind fun v7 =>
 (cond v7.1
 (some (12,()))
 (some (0,()))))))
theorem x_151:au_ cx_151 an_151 151 [al_,(.list (.list .int))] [.int]=fun x=>ht_ x.1 x.2.1:=by kernel_rfl
noncomputable def c_151:Con Tryz.prog:=av_ _ _ 151 [al_,(.list (.list .int))] [.int] _ x_151
def an_135:An:=(.p .z (.p .z (.p .z (.j0 [.v 6 .bool,.b (.s 5) [.keep,.val .int,.val .int,.val .int,.val .int,.val (.list .int),.keep]] (.p .z (.p .z (.p .z (.p .z (.p .z (.j0 [.v 65 .bool] .z .z)))))) .z))))
noncomputable def cs_135:List (Con Tryz.prog):=[c_150,c_199,c_200,c_201]
noncomputable def cl_135:List (Cpy Tryz.prog):=[]
noncomputable def cx_135:Cx Tryz.prog:=cxC cs_135 cl_135
noncomputable def dk_ (a0:ab_) (a1:ak_):Option (Bool×Unit) :=
 (((cond (a1.1==1)
 ((bs_ a0 a1.2.1).bind fun v0 =>
 (cond v0.1
 ((cp_ a0 a1.2.2.2.1).bind fun v1 =>
 (some (v1.1,((a1.2.1,(0,(a1.2.2.2.1,(0,([],()))))),()))))
 (some (false,((a1.2.1,(0,(a1.2.2.2.1,(0,([],()))))),())))))
 (cond (a1.1==2)
 ((bs_ a0 a1.2.1).bind fun v2 =>
 (cond v2.1
 ((bs_ a0 a1.2.2.1).bind fun v3 =>
 (cond v3.1
 (cond (decide (a1.2.1≤a1.2.2.1))
 ((bx_ a1.2.2.2.1 0 100).bind fun v4 =>
 (some (v4.1,((a1.2.1,(a1.2.2.1,(a1.2.2.2.1,(0,([],()))))),()))))
 (some (false,((a1.2.1,(a1.2.2.1,(a1.2.2.2.1,(0,([],()))))),()))))
 (some (false,((a1.2.1,(a1.2.2.1,(a1.2.2.2.1,(0,([],()))))),())))))
 (some (false,((a1.2.1,(a1.2.2.1,(a1.2.2.2.1,(0,([],()))))),())))))
 (((cond (a1.1==3)
 (some ((a1.1==3),()))
 (some ((a1.1==4),())))).bind fun v5 =>
 (cond v5.1
 ((bs_ a0 a1.2.1).bind fun v6 =>
 (cond v6.1
 ((bs_ a0 a1.2.2.1).bind fun v7 =>
 (cond v7.1
 (some ((a1.2.1 != a1.2.2.1),((a1.2.1,(a1.2.2.1,(0,(0,([],()))))),())))
 (some (false,((a1.2.1,(a1.2.2.1,(0,(0,([],()))))),())))))
 (some (false,((a1.2.1,(a1.2.2.1,(0,(0,([],()))))),())))))
 (cond (a1.1==5)
 ((cp_ a0 a1.2.2.2.1).bind fun v8 =>
 (cond v8.1
 ((bx_ a1.2.2.2.2.1 0 a0.1).bind fun v9 =>
 (some (v9.1,((0,(0,(a1.2.2.2.1,(a1.2.2.2.2.1,([],()))))),()))))
 (some (false,((0,(0,(a1.2.2.2.1,(a1.2.2.2.2.1,([],()))))),())))))
 (cond (a1.1==6)
 ((bx_ a1.2.2.2.1 0 a0.1).bind fun v10 =>
 (cond v10.1
 ((bx_ a1.2.2.2.2.1 0 a0.1).bind fun v11 =>
 (cond v11.1
 ((dj_ a0 a1.2.2.2.2.2.1).bind fun v12 =>
 (some (v12.1,((0,(0,(a1.2.2.2.1,(a1.2.2.2.2.1,(a1.2.2.2.2.2.1,()))))),()))))
 (some (false,((0,(0,(a1.2.2.2.1,(a1.2.2.2.2.1,(a1.2.2.2.2.2.1,()))))),())))))
 (some (false,((0,(0,(a1.2.2.2.1,(a1.2.2.2.2.1,(a1.2.2.2.2.2.1,()))))),())))))
 (cond (a1.1==7)
 ((bs_ a0 a1.2.1).bind fun v13 =>
 (cond v13.1
 ((bx_ a1.2.2.2.1 2 10).bind fun v14 =>
 (cond v14.1
 ((bx_ a1.2.2.2.2.1 0 (w64 (a1.2.2.2.1 - 1))).bind fun v15 =>
 (some (v15.1,((a1.2.1,(0,(a1.2.2.2.1,(a1.2.2.2.2.1,([],()))))),()))))
 (some (false,((a1.2.1,(0,(a1.2.2.2.1,(a1.2.2.2.2.1,([],()))))),())))))
 (some (false,((a1.2.1,(0,(a1.2.2.2.1,(a1.2.2.2.2.1,([],()))))),())))))
 (some (false,((0,(0,(0,(0,([],()))))),()))))))))))).bind fun v16 =>
 (cond v16.1
 (cond (a1.2.1==v16.2.1.1)
 (cond (a1.2.2.1==v16.2.1.2.1)
 (cond (a1.2.2.2.1==v16.2.1.2.2.1)
 (cond (a1.2.2.2.2.1==v16.2.1.2.2.2.1)
 (some (((a1.2.2.2.2.2.1.length:Int)==(v16.2.1.2.2.2.2.1.length:Int)),()))
 (some (false,())))
 (some (false,())))
 (some (false,())))
 (some (false,())))
 (some (false,()))))
theorem x_135:au_ cx_135 an_135 135 [al_,ap_] [.bool]=fun x=>dk_ x.1 x.2.1:=by kernel_rfl
noncomputable def c_135:Con Tryz.prog:=av_ _ _ 135 [al_,ap_] [.bool] _ x_135
def an_204:An:=.z
def at_204:FuncId→An:=fun k=>cond (Nat.beq k 198) (.p .z (.p (.p .z (.ls [.v 8 .int] [] [] 0 .z)) .z)) (.z)
noncomputable def cs_204:List (Con Tryz.prog):=[c_223]
noncomputable def cl_204:List (Cpy Tryz.prog):=[]
noncomputable def cx_204:Cx Tryz.prog:=cxI at_204 (fun k=>Nat.beq k 223||false) (cxC cs_204 cl_204) 3
noncomputable def fy_ (a0:(List ak_)) (a1:(List Int)):Option (Int×Unit) :=
 ((ae_ (ρ:=(Unit⊕(Int×Unit))) (fun (v0:(Int×Unit)) =>
 (cond (decide (v0.1<(a0.length:Int)))
 ((at? a0 v0.1).bind fun v1 =>
 ((fx_ v1 a1).bind fun v2 =>
 (cond (!v2.1)
 (some (Sum.inr (Sum.inr (v0.1,()))))
 (some (Sum.inl ((w64 (v0.1+1)),()))))))
 (some (Sum.inr (Sum.inl ()))))) (0,())).bind fun v3 =>
 (bv_ v3 (fun v4=>(some ((-1),())))
 (fun v5=>(some v5))))
theorem x_204:au_ cx_204 an_204 204 [(.list ap_),(.list .int)] [.int]=fun x=>fy_ x.1 x.2.1:=by kernel_rfl
noncomputable def c_204:Con Tryz.prog:=av_ _ _ 204 [(.list ap_),(.list .int)] [.int] _ x_204
def an_25:An:=(.p .z (.p (.j0 [.v 23 .bool] .z .z) (.p (.p .z (.ls [.v 5 .int] [] [] 0 (.p .z (.p (.p (.q [] .z .z) .z) .z)))) (.p (.p .z (.ls [.v 6 .int] [] [] 2 (.p .z (.p (.p (.p (.q [] .z .z) .z) (.p .z (.ls [.v 7 .int] [] [] 4 (.p .z (.p (.p (.q [] .z .z) .z) .z))))) .z)))) .z))))
noncomputable def cs_25:List (Con Tryz.prog):=[c_65]
noncomputable def cl_25:List (Cpy Tryz.prog):=[]
noncomputable def cx_25:Cx Tryz.prog:=cxC cs_25 cl_25
noncomputable def ee_ (a0:cb_) (a1:cb_):Option (Bool×Unit) :=
 (((cond ((a0.1.length:Int) != (a1.1.length:Int))
 (some (true,()))
 (some (((a0.2.length:Int) != (a1.2.length:Int)),())))).bind fun v0 =>
 (cond v0.1
 (some (false,()))
 ((ae_ (ρ:=(Unit⊕(Bool×Unit))) (fun (v1:(Int×Unit)) =>
 (cond (decide (v1.1<(a0.1.length:Int)))
 ((at? a0.1 v1.1).bind fun v2 =>
 ((at? a1.1 v1.1).bind fun v3 =>
 ((dz_ v2 v3).bind fun v4 =>
 (cond (!v4.1)
 (some (Sum.inr (Sum.inr (false,()))))
 (some (Sum.inl ((w64 (v1.1+1)),())))))))
 (some (Sum.inr (Sum.inl ()))))) (0,())).bind fun v5 =>
 (bv_ v5 (fun v6=>((ae_ (ρ:=(Unit⊕(Bool×Unit))) (fun (v8:(Int×Unit)) =>
 (cond (decide (v8.1<(a0.2.length:Int)))
 ((at? a0.2 v8.1).bind fun v9 =>
 ((at? a1.2 v8.1).bind fun v10 =>
 (cond ((v9.length:Int) != (v10.length:Int))
 (some (Sum.inr (Sum.inr (false,()))))
 ((ae_ (ρ:=(Unit⊕((Int×Unit)⊕(Unit⊕(Bool×Unit))))) (fun (v11:(Int×Unit)) =>
 ((at? a0.2 v8.1).bind fun v12 =>
 (cond (decide (v11.1<(v12.length:Int)))
 ((at? a0.2 v8.1).bind fun v13 =>
 ((at? v13 v11.1).bind fun v14 =>
 ((at? a1.2 v8.1).bind fun v15 =>
 ((at? v15 v11.1).bind fun v16 =>
 (cond (!(((v14.1.1==v16.1.1)&&((v14.1.2.1==v16.1.2.1)&&(v14.1.2.2==v16.1.2.2)))&&(v14.2==v16.2)))
 (some (Sum.inr (Sum.inr (Sum.inr (Sum.inr (false,()))))))
 (some (Sum.inl ((w64 (v11.1+1)),()))))))))
 (some (Sum.inr (Sum.inl ())))))) (0,())).bind fun v17 =>
 (bv_ v17 (fun v18=>(some (Sum.inl ((w64 (v8.1+1)),()))))
 (fun v19=>(some v19)))))))
 (some (Sum.inr (Sum.inl ()))))) (0,())).bind fun v20 =>
 (bv_ v20 (fun v21=>(some (true,())))
 (fun v22=>(some v22)))))
 (fun v7=>(some v7))))))
theorem x_25:au_ cx_25 an_25 25 [cy_,cy_] [.bool]=fun x=>ee_ x.1 x.2.1:=by kernel_rfl
noncomputable def c_25:Con Tryz.prog:=av_ _ _ 25 [cy_,cy_] [.bool] _ x_25
def an_27:An:=(.p .z (.p (.j0 [.v 47 .bool] .z .z) (.p (.p .z (.ls [.v 5 .int] [] [] 0 (.p .z (.p (.p (.q [] .z .z) .z) .z)))) (.p (.p .z (.ls [.v 6 .int] [] [] 2 (.p .z (.p (.p (.q [] .z .z) .z) .z)))) (.p (.p .z (.ls [.v 7 .int] [] [] 4 (.p .z (.p (.p (.q [] .z .z) .z) .z)))) .z)))))
noncomputable def cs_27:List (Con Tryz.prog):=[c_26,c_66,c_67]
noncomputable def cl_27:List (Cpy Tryz.prog):=[]
noncomputable def cx_27:Cx Tryz.prog:=cxC cs_27 cl_27
noncomputable def lf_ (a0:ac_) (a1:ac_):Option (Bool×Unit) :=
 ((((li_ a0.1 a1.1).bind fun v0 =>
 (cond (!v0.1)
 (some (true,()))
 (cond ((a0.2.1.length:Int) != (a1.2.1.length:Int))
 (some (true,()))
 (cond ((a0.2.2.1.length:Int) != (a1.2.2.1.length:Int))
 (some (true,()))
 (cond ((a0.2.2.2.1.length:Int) != (a1.2.2.2.1.length:Int))
 (some (true,()))
 (some ((a0.2.2.2.2 != a1.2.2.2.2),())))))))).bind fun v1 =>
 (cond v1.1
 (some (false,()))
 ((ae_ (ρ:=(Unit⊕(Bool×Unit))) (fun (v2:(Int×Unit)) =>
 (cond (decide (v2.1<(a0.2.1.length:Int)))
 ((at? a0.2.1 v2.1).bind fun v3 =>
 ((at? a1.2.1 v2.1).bind fun v4 =>
 (cond (!((v3.1==v4.1)&&(v3.2==v4.2)))
 (some (Sum.inr (Sum.inr (false,()))))
 (some (Sum.inl ((w64 (v2.1+1)),()))))))
 (some (Sum.inr (Sum.inl ()))))) (0,())).bind fun v5 =>
 (bv_ v5 (fun v6=>((ae_ (ρ:=(Unit⊕(Bool×Unit))) (fun (v8:(Int×Unit)) =>
 (cond (decide (v8.1<(a0.2.2.1.length:Int)))
 ((at? a0.2.2.1 v8.1).bind fun v9 =>
 ((at? a1.2.2.1 v8.1).bind fun v10 =>
 ((bk_ v9 v10).bind fun v11 =>
 (cond (!v11.1)
 (some (Sum.inr (Sum.inr (false,()))))
 (some (Sum.inl ((w64 (v8.1+1)),())))))))
 (some (Sum.inr (Sum.inl ()))))) (0,())).bind fun v12 =>
 (bv_ v12 (fun v13=>((ae_ (ρ:=(Unit⊕(Bool×Unit))) (fun (v15:(Int×Unit)) =>
 (cond (decide (v15.1<(a0.2.2.2.1.length:Int)))
 ((at? a0.2.2.2.1 v15.1).bind fun v16 =>
 ((at? a1.2.2.2.1 v15.1).bind fun v17 =>
 ((gr_ v16 v17).bind fun v18 =>
 (cond (!v18.1)
 (some (Sum.inr (Sum.inr (false,()))))
 (some (Sum.inl ((w64 (v15.1+1)),())))))))
 (some (Sum.inr (Sum.inl ()))))) (0,())).bind fun v19 =>
 (bv_ v19 (fun v20=>(some (true,())))
 (fun v21=>(some v21)))))
 (fun v14=>(some v14)))))
 (fun v7=>(some v7))))))
theorem x_27:au_ cx_27 an_27 27 [am_,am_] [.bool]=fun x=>lf_ x.1 x.2.1:=by kernel_rfl
noncomputable def c_27:Con Tryz.prog:=av_ _ _ 27 [am_,am_] [.bool] _ x_27
end
end Go.Proofs.YtfcgcpjnpdkjmaaGreatDoor.Rx
namespace Go.Proofs.YtfcgcpjnpdkjmaaGreatDoor.Rx
open Go Pad Rex
section
def wi (a b c:Int):Bool:=decide (b≤a)&&decide (a≤c)
theorem cf_ {a b c:Int}:wi a b c=true↔b≤a∧a≤c:=by simp [wi]
theorem wi_of (a b c:Int):(cond (decide (b≤a)) (some ((decide (a≤c)),())) (some (false,())))=some (wi a b c,()):=by
  unfold wi
  cases decide (b≤a) <;> rfl
theorem dw_ (a b c:Int):bc_ a b c=some (wi a b c,()):=wi_of a b c
theorem kd_ (a b c:Int):ca_ a b c=some (wi a b c,()):=wi_of a b c
theorem fm_ (a b c:Int):bq_ a b c=some (wi a b c,()):=wi_of a b c
theorem yg_ (a b c:Int):iq_ a b c=some (wi a b c,()):=wi_of a b c
theorem beqc {α:Type} [BEq α] [LawfulBEq α] (x y:α):(y==x)=(x==y):=by
  rw [Bool.eq_iff_iff,beq_iff_eq,beq_iff_eq]
  exact eq_comm
theorem hi_ {α:Type} [BEq α] [LawfulBEq α] (l:List α) (x:α):l.any (x == ·)=l.contains x:=by
  induction l with
  | nil=>rfl
  | cons y l ih=>simp [List.contains_cons,ih]
theorem Index_int {l:List Int} {x:Int} (hl:Sm l.length):∃ i:Int,et_ l x=some (i,())∧decide (0≤i)=l.contains x:=by
  unfold et_
  have h1:=nz_ l (fun i y=>cond (x==y) (some (Sum.inr ((i:Int),()):Unit⊕(Int×Unit))) none) (fun i=>((i:Int),())) (r0:=Sum.inl ())
    (body:=fun (v0:(Int×Unit)) =>
     (cond (decide (v0.1<(l.length:Int)))
     ((at? l v0.1).bind fun v1 =>
     (cond (x==v1)
     (some (Sum.inr (Sum.inr (v0.1,()))))
     (some (Sum.inl ((w64 (v0.1+1)),())))))
     (some (Sum.inr (Sum.inl ())))))
    (fun i y hy=>by
      have hi:=an_ hy
      simp only [dlt hi,cond_true,ag_ hy,Option.bind_some,ay_ (show Sm i by omega)]
      cases x==y <;> rfl)
    (by simp only [dnl,cond_false])
  rcases zp_ (q:=fun y=>x==y) (f:=fun i=>(Sum.inr ((i:Int),()):Unit⊕(Int×Unit))) l 0 with ⟨h2,h3⟩ | ⟨i,h2,h3⟩
  · refine ⟨-1,Eq.trans (congrArg (fun o=>Option.bind o _) h1) ?_,by rw [← hi_,h3]; rfl⟩
    rw [h2]; rfl
  · refine ⟨i,Eq.trans (congrArg (fun o=>Option.bind o _) h1) ?_,by rw [← hi_,h3]; exact decide_eq_true (by omega)⟩
    rw [h2]; rfl
theorem os_ {l:List Int} {x:Int} (hl:Sm l.length):bh_ l x=some (l.contains x,()):=by
  obtain ⟨i,h1,h2⟩:=Index_int (x:=x) hl
  unfold bh_
  rw [h1,Option.bind_some,h2]
theorem Index_string {l:List (List UInt8)} {x:List UInt8} (hl:Sm l.length):∃ i:Int,ds_ l x=some (i,())∧decide (0≤i)=l.contains x:=by
  unfold ds_
  rcases zp_ (q:=fun y=>x==y) (f:=fun i=>(Sum.inr ((i:Int),()):Unit⊕(Int×Unit))) l 0 with ⟨h2,h3⟩ | ⟨i,h2,h3⟩
  · refine ⟨-1,bn_ l (fun i y=>cond (x==y) (some (Sum.inr ((i:Int),()):Unit⊕(Int×Unit))) none) (fun i=>((i:Int),())) (r0:=Sum.inl ()) (fun i y hy => ?_) ?_ ?_,by rw [← hi_,h3]; rfl⟩
    · have hi:=an_ hy
      simp only [dlt hi,cond_true,ag_ hy,Option.bind_some,ay_ (show Sm i by omega)]
      cases x==y <;> rfl
    · simp only [dnl,cond_false]
    · rw [h2]; rfl
  · refine ⟨i,bn_ l (fun i y=>cond (x==y) (some (Sum.inr ((i:Int),()):Unit⊕(Int×Unit))) none) (fun i=>((i:Int),())) (r0:=Sum.inl ()) (fun i y hy => ?_) ?_ ?_,by rw [← hi_,h3]; exact decide_eq_true (by omega)⟩
    · have hi:=an_ hy
      simp only [dlt hi,cond_true,ag_ hy,Option.bind_some,ay_ (show Sm i by omega)]
      cases x==y <;> rfl
    · simp only [dnl,cond_false]
    · rw [h2]; rfl
theorem xg_ {l:List (List UInt8)} {x:List UInt8} (hl:Sm l.length):cv_ l x=some (l.contains x,()):=by
  obtain ⟨i,h1,h2⟩:=Index_string (x:=x) hl
  unfold cv_
  rw [h1,Option.bind_some,h2]
theorem ref02_in {l:List Int} {x:Int} (hl:Sm l.length):mh_ l x=some (l.contains x,()):=by
  unfold mh_
  refine bn_ l (fun i y=>cond (x==y) (some (Sum.inr (true,()):Unit⊕(Bool×Unit))) none) (fun i=>((i:Int),())) (r0:=Sum.inl ()) (fun i y hy => ?_) ?_ ?_
  · have hi:=an_ hy
    simp only [dlt hi,cond_true,ag_ hy,Option.bind_some,ay_ (show Sm i by omega)]
    rw [beqc x y]
    cases x==y <;> rfl
  · simp only [dnl,cond_false]
  · rw [hl_ (q:=fun y=>x==y),hi_]
    cases l.contains x <;> rfl
def xs_ (c:UInt8):Bool:=decide (97≤(c.toNat:Int))&&decide ((c.toNat:Int)≤122)
def okW (t:List UInt8):Bool:=t.all xs_&&(!(t==[])&&!(reserved.contains t))
def okN (t:List UInt8):Bool:=decide ((t.length:Int)≤12)&&okW t
theorem lower_of (c:UInt8):(cond (decide (((UInt8.toNat c):Int)<97)) (some (true,())) (some ((decide (122<((UInt8.toNat c):Int))),())))=some (!(xs_ c),()):=by
  unfold xs_
  by_cases h1:((UInt8.toNat c):Int)<97
  · rw [decide_eq_true h1,decide_eq_false (by omega:¬ (97:Int)≤(c.toNat:Int))]; rfl
  · rw [decide_eq_false h1,decide_eq_true (by omega:(97:Int)≤(c.toNat:Int))]
    by_cases h2:122<((UInt8.toNat c):Int)
    · rw [decide_eq_true h2,decide_eq_false (by omega:¬ ((UInt8.toNat c):Int)≤122)]; rfl
    · rw [decide_eq_false h2,decide_eq_true (by omega:((UInt8.toNat c):Int)≤122)]; rfl
theorem oa_ {t:List UInt8} (hl:Sm t.length):ae_ (ρ:=(Unit⊕(Bool×Unit))) (fun (v0:(Int×Unit)) =>
 (cond (decide (v0.1<(t.length:Int)))
 ((((at? t v0.1).bind fun v1 =>
 (cond (decide (((UInt8.toNat v1):Int)<97))
 (some (true,()))
 ((at? t v0.1).bind fun v2 =>
 (some ((decide (122<((UInt8.toNat v2):Int))),())))))).bind fun v3 =>
 (cond v3.1
 (some (Sum.inr (Sum.inr (false,()))))
 (some (Sum.inl ((w64 (v0.1+1)),())))))
 (some (Sum.inr (Sum.inl ()))))) (0,())=some (cond (t.all xs_) (Sum.inl ()) (Sum.inr (false,()))):=by
  refine Eq.trans (nz_ t (fun i c=>cond (xs_ c) none (some (Sum.inr (false,()):Unit⊕(Bool×Unit)))) (fun i=>((i:Int),())) (r0:=Sum.inl ()) (fun i y hy => ?_) ?_) ?_
  · have hi:=an_ hy
    simp only [dlt hi,cond_true,ag_ hy,Option.bind_some,ay_ (show Sm i by omega),lower_of]
    cases xs_ y <;> rfl
  · simp only [dnl,cond_false]
  · rw [jf_]
    cases t.all xs_ <;> rfl
theorem room_word {t:List UInt8} (hl:Sm t.length):fc_ t=some (okW t,()):=by
  unfold fc_
  refine Eq.trans (congrArg (fun o=>Option.bind o _) (oa_ hl)) ?_
  unfold okW
  rw [Option.bind_some]
  cases t.all xs_ with
  | false=>rfl
  | true =>
    simp only [cond_true,Bool.true_and]
    cases t==[] with
    | true=>rfl
    | false =>
      simp only [Bool.not_false,cond_true,Bool.true_and]
      rw [xg_ (by decide),Option.bind_some]
      rfl
theorem zu_ {t:List UInt8} (hl:Sm t.length):hr_ t=some (okW t,()):=by
  unfold hr_
  refine Eq.trans (congrArg (fun o=>Option.bind o _) (oa_ hl)) ?_
  unfold okW
  rw [Option.bind_some]
  cases t.all xs_ with
  | false=>rfl
  | true =>
    simp only [cond_true,Bool.true_and]
    refine bn_ reserved (fun i y=>cond (t==y) (some (Sum.inr (false,()):Unit⊕(Bool×Unit))) none) (fun i=>((i:Int),())) (r0:=Sum.inl ()) (fun i y hy => ?_) ?_ ?_
    · have hi:=an_ hy
      have h10:i<10:=hi
      have hy':=hy
      unfold reserved at hy'
      refine Eq.trans (congrArg (fun c=>cond c _ _) (dlt hi)) ?_
      simp only [cond_true,ag_ hy',Option.bind_some,ay_ (show Sm i by omega)]
      rw [beqc t y]
      cases t==y <;> rfl
    · rfl
    · rw [hl_ (q:=fun y=>t==y),hi_]
      cases reserved.contains t with
      | true=>simp
      | false=>simp
theorem play_word {t:List UInt8} (hl:Sm t.length):mz_ t=some (okW t,()):=by
  unfold mz_
  have h0:(((cond (t==[]) (some ((t==[]),())) (cond (t==[97,116]) (some ((t==[97,116]),())) (cond (t==[115,116,97,116,101,115]) (some ((t==[115,116,97,116,101,115]),())) (cond (t==[115,116,97,114,116]) (some ((t==[115,116,97,114,116]),()))
     (cond (t==[103,111,110,101]) (some ((t==[103,111,110,101]),())) (cond (t==[105,102]) (some ((t==[105,102]),())) (cond (t==[108,111,99,107]) (some ((t==[108,111,99,107]),())) (cond (t==[119,105,116,104]) (some ((t==[119,105,116,104]),()))
     (cond (t==[115,101,116,115]) (some ((t==[115,101,116,115]),())) (cond (t==[115,112,101,110,100,115]) (some ((t==[115,112,101,110,100,115]),())) (some ((t==[98,114,105,110,103,115]),()))))))))))))):Option (Bool×Unit))=some ((t==[]||reserved.contains t),()):=by
    unfold reserved
    simp only [List.contains_cons,List.contains_nil,Bool.or_false]
    cases t==[] with
    | true=>rfl
    | false =>
    cases t==[97,116] with
    | true=>rfl
    | false =>
    cases t==[115,116,97,116,101,115] with
    | true=>rfl
    | false =>
    cases t==[115,116,97,114,116] with
    | true=>rfl
    | false =>
    cases t==[103,111,110,101] with
    | true=>rfl
    | false =>
    cases t==[105,102] with
    | true=>rfl
    | false =>
    cases t==[108,111,99,107] with
    | true=>rfl
    | false =>
    cases t==[119,105,116,104] with
    | true=>rfl
    | false =>
    cases t==[115,101,116,115] with
    | true=>rfl
    | false =>
    cases t==[115,112,101,110,100,115] with
    | true=>rfl
    | false=>rfl
  refine Eq.trans (congrArg (fun o=>Option.bind o _) h0) ?_
  rw [Option.bind_some]
  unfold okW
  cases hz:(t==[]||reserved.contains t) with
  | true =>
    have:(!(t==[])&&!(reserved.contains t))=false:=by
      rw [← Bool.not_or,hz]; rfl
    rw [this,Bool.and_false]
    rfl
  | false =>
    have:(!(t==[])&&!(reserved.contains t))=true:=by
      rw [← Bool.not_or,hz]; rfl
    rw [this,Bool.and_true]
    simp only [cond_false]
    refine Eq.trans (congrArg (fun o=>Option.bind o _) (oa_ hl)) ?_
    rw [Option.bind_some]
    cases t.all xs_ <;> rfl
theorem kc_ {t:List UInt8} (hl:Sm t.length):du_ t=some (okN t,()):=by
  unfold du_ okN
  rw [zu_ hl]
  cases decide ((t.length:Int)≤12) <;> rfl
end
section
def nk_ (things:List gz_) (th n:Int):Bool:=wi th 0 (w64 ((things.length:Int) - 1))&&match at? things th with
  | some t=>wi n 0 (w64 (t.2.2.1 - 1))
  | none=>false
theorem at_of_wi {α:Type} {l:List α} {i:Int} (hl:Sm l.length) (h:wi i 0 (w64 ((l.length:Int) - 1))=true):∃ x,at? l i=some x:=by
  rw [gd_ (by omega) (by omega)] at h
  obtain ⟨h1,h2⟩:=cf_.1 h
  obtain ⟨x,hx⟩:=az_ (l:=l) (i:=i.toNat) (by omega)
  exact ⟨x,by rw [show i=((i.toNat:Nat):Int) by omega]; exact ag_ hx⟩
theorem pd_ {r:ad_} (hl:Sm r.2.1.length) (th n:Int):fd_ r th n=some (nk_ r.2.1 th n,()):=by
  unfold fd_ nk_
  rw [dw_,Option.bind_some]
  cases h:wi th 0 (w64 ((r.2.1.length:Int) - 1)) with
  | false=>rfl
  | true =>
    obtain ⟨x,hx⟩:=at_of_wi hl h
    simp only [cond_true,hx,Option.bind_some,dw_,Bool.true_and]
theorem qw_ {r:ad_} (hl:Sm r.2.1.length) (th n:Int):gx_ r th n=some (nk_ r.2.1 th n,()):=by
  unfold gx_ nk_
  rw [fm_,Option.bind_some]
  cases h:wi th 0 (w64 ((r.2.1.length:Int) - 1)) with
  | false=>rfl
  | true =>
    obtain ⟨x,hx⟩:=at_of_wi hl h
    simp only [cond_true,hx,Option.bind_some,fm_,Bool.true_and]
def cOk (things:List gz_) (c:List bd_):Bool:=decide ((c.length:Int)≤8)&&c.all fun l=>nk_ things l.1 l.2.1
theorem sx_ {α:Type} (l:List α) (q:α→Bool):(!(l.any fun x=>!(q x)))=l.all q:=by
  induction l with
  | nil=>rfl
  | cons x l ih =>
    rw [List.any_cons,List.all_cons,← ih]
    cases q x <;> rfl
theorem jt_ {r:ad_} (hl:Sm r.2.1.length) (c:List bd_):dt_ r c=some (cOk r.2.1 c,()):=by
  unfold dt_ cOk
  cases h8:decide ((c.length:Int)≤8) with
  | false=>rfl
  | true =>
    have h8:=of_decide_eq_true h8
    simp only [cond_true,Bool.true_and]
    refine Eq.trans (congrArg (fun o=>Option.bind o _) (ol_ (show Sm c.length by omega) (fun l=>!(nk_ r.2.1 l.1 l.2.1)) (fun i y hy => ?_) ?_)) ?_
    · simp only [dlt (an_ hy),cond_true,ag_ hy,Option.bind_some,pd_ hl]
      cases nk_ r.2.1 y.1 y.2.1 <;> rfl
    · simp only [dnl,cond_false]
    · rw [Option.bind_some]
      exact congrArg (fun b=>some (b,())) (sx_ c _)
theorem hb_ {r:ad_} (hl:Sm r.2.1.length) {c:List bd_} (hc:Sm c.length):ct_ r c=some (cOk r.2.1 c,()):=by
  unfold ct_ cOk
  refine bn_ c (fun i l=>cond (nk_ r.2.1 l.1 l.2.1) none (some (Sum.inr (false,()):Unit⊕(Bool×Unit)))) (fun i=>((i:Int),())) (r0:=Sum.inl ()) (fun i y hy => ?_) ?_ ?_
  · have hi:=an_ hy
    simp only [dlt hi,cond_true,ag_ hy,Option.bind_some,ay_ (show Sm i by omega),qw_ hl]
    cases nk_ r.2.1 y.1 y.2.1 <;> rfl
  · simp only [dnl,cond_false]
  · rw [jf_ (q:=fun l:bd_=>nk_ r.2.1 l.1 l.2.1)]
    cases c.all fun l=>nk_ r.2.1 l.1 l.2.1 with
    | true=>rw [Bool.and_true]; rfl
    | false=>rw [Bool.and_false]; rfl
theorem play_valid {r:ad_} (hl:Sm r.2.1.length) (c:List bd_):ll_ r c=some (cOk r.2.1 c,()):=by
  unfold ll_ cOk
  cases h8:decide ((c.length:Int)≤8) with
  | false=>rfl
  | true =>
    have h8:=of_decide_eq_true h8
    simp only [cond_true,Bool.true_and]
    refine Eq.trans (congrArg (fun o=>Option.bind o _) (ol_ (show Sm c.length by omega) (fun l=>!(nk_ r.2.1 l.1 l.2.1)) (fun i y hy => ?_) ?_)) ?_
    · simp only [dlt (an_ hy),cond_true,ag_ hy,Option.bind_some,kd_,nk_]
      cases h:wi y.1 0 (w64 ((r.2.1.length:Int) - 1)) with
      | false=>rfl
      | true =>
        obtain ⟨x,hx⟩:=at_of_wi hl h
        simp only [Bool.not_true,cond_false,hx,Option.bind_some,Bool.true_and]
        cases wi y.2.1 0 (w64 (x.2.2.1 - 1)) <;> rfl
    · simp only [dnl,cond_false]
    · rw [Option.bind_some]
      exact congrArg (fun b=>some (b,())) (sx_ c _)
end
section
def prv (l:List Int) (i:Nat):Int:=match i with
  | 0=>-1
  | j+1=>(l[j]?).getD 0
def badP (np:Nat) (l:List Int) (i:Nat) (x:Int):Bool:=decide (x≤prv l i)||decide ((np:Int)≤x)
def badQ (np:Nat) (l:List Int) (i:Nat) (x:Int):Bool:=!(wi x 0 ((np:Int) - 1))||(decide (0<i)&&decide (x≤prv l i))
def kt_ (np:Nat) (l:List Int):Bool:=(gg_ (fun i x=>cond (badP np l i x) (some ()) none) 0 l).isNone
theorem vd_ {α ρ:Type} {q:Nat→α→Bool} {r:ρ}:∀ (l:List α) (i:Nat),gg_ (fun i x=>cond (q i x) (some r) none) i l=cond (gg_ (fun i x=>cond (q i x) (some ()) none) i l).isNone none (some r)
  | [],_=>rfl
  | x::l,i=>by
    unfold gg_
    cases q i x with
    | true=>rfl
    | false=>exact vd_ l (i+1)
theorem zo_ {α:Type} {q:Nat→α→Bool} (l:List α):(gg_ (fun i x=>cond (q i x) (some ()) none) 0 l).isNone=true↔∀ i x,l[i]?=some x→q i x=false:=by
  rw [Option.isNone_iff_eq_none,il_]
  constructor
  · intro h i x hx
    have:=h i x hx
    rw [Nat.zero_add] at this
    cases hq:q i x with
    | false=>rfl
    | true=>rw [hq] at this; cases this
  · intro h i x hx
    rw [Nat.zero_add,h i x hx]
    rfl
theorem asc_eq (np:Nat) (l:List Int):(gg_ (fun i x=>cond (badQ np l i x) (some ()) none) 0 l).isNone=kt_ np l:=by
  rw [Bool.eq_iff_iff]
  unfold kt_
  rw [zo_,zo_]
  constructor
  · intro h i x hx
    have h0:=h i x hx
    unfold badQ at h0
    rw [Bool.or_eq_false_iff] at h0
    obtain ⟨h1,h2⟩:=h0
    have h1:wi x 0 ((np:Int) - 1)=true:=by simpa using h1
    obtain ⟨h3,h4⟩:=cf_.1 h1
    unfold badP
    rw [Bool.or_eq_false_iff]
    refine ⟨?_,decide_eq_false (by omega)⟩
    cases i with
    | zero=>exact decide_eq_false (by show ¬ x≤-1; omega)
    | succ j =>
      have:decide (0<j+1)=true:=decide_eq_true (by omega)
      rw [this,Bool.true_and] at h2
      exact h2
  · intro h
    have pos:∀ (i:Nat) (x:Int),l[i]?=some x→0≤x∧x<np:=by
      intro i
      induction i with
      | zero =>
        intro x hx
        have h0:=h 0 x hx
        unfold badP at h0
        rw [Bool.or_eq_false_iff] at h0
        have h1:=of_decide_eq_false h0.1
        have h2:=of_decide_eq_false h0.2
        have h1:¬ x≤-1:=h1
        omega
      | succ j ih =>
        intro x hx
        have h0:=h (j+1) x hx
        unfold badP at h0
        rw [Bool.or_eq_false_iff] at h0
        have h1:=of_decide_eq_false h0.1
        have h2:=of_decide_eq_false h0.2
        obtain ⟨y,hy⟩:=az_ (l:=l) (i:=j) (by have:=an_ hx; omega)
        have h3:=ih y hy
        have h1:¬ x≤(l[j]?).getD 0:=h1
        rw [hy] at h1
        have h1:¬ x≤y:=h1
        omega
    intro i x hx
    have h0:=h i x hx
    unfold badP at h0
    rw [Bool.or_eq_false_iff] at h0
    have hp:=pos i x hx
    unfold badQ
    have:wi x 0 ((np:Int) - 1)=true:=cf_.2 ⟨hp.1,by omega⟩
    rw [this,h0.1,Bool.and_false]
    rfl
theorem rx_ {r:ad_} {l:List Int} (hl:Sm l.length):hd_ r l=some (kt_ r.2.2.1.length l,()):=by
  unfold hd_
  refine bn_ l (fun i x=>cond (badP r.2.2.1.length l i x) (some (Sum.inr (false,()):Unit⊕(Bool×Unit))) none) (fun i=>(prv l i,((i:Int),()))) (r0:=Sum.inl ()) (fun i y hy => ?_) ?_ ?_
  · have hi:=an_ hy
    simp only [dlt hi,cond_true,ag_ hy,Option.bind_some,ay_ (show Sm i by omega),badP]
    have hn:prv l (i+1)=y:=by show (l[i]?).getD 0=y; rw [hy]; rfl
    cases decide (y≤prv l i) with
    | true=>rfl
    | false =>
      simp only [cond_false,Bool.false_or,Option.bind_some,hn]
      cases decide ((r.2.2.1.length:Int)≤y) <;> rfl
  · simp only [dnl,cond_false]
  · rw [vd_]
    unfold kt_
    cases (gg_ (fun i x=>cond (badP r.2.2.1.length l i x) (some ()) none) 0 l).isNone <;> rfl
theorem kb_ {r:ad_} (hp:Sm r.2.2.1.length) {l:List Int} (hl:Sm l.length):di_ r l=some (kt_ r.2.2.1.length l,()):=by
  unfold di_
  refine bn_ l (fun i x=>cond (badQ r.2.2.1.length l i x) (some (Sum.inr (false,()):Unit⊕(Bool×Unit))) none) (fun i=>((i:Int),())) (r0:=Sum.inl ()) (fun i y hy => ?_) ?_ ?_
  · have hi:=an_ hy
    rw [show w64 ((r.2.2.1.length:Int) - 1)=(r.2.2.1.length:Int) - 1 from gd_ (by omega) (by omega)]
    simp only [dlt hi,cond_true,ag_ hy,Option.bind_some,ay_ (show Sm i by omega),fm_,badQ]
    cases wi y 0 ((r.2.2.1.length:Int) - 1) with
    | false=>rfl
    | true =>
      simp only [Bool.not_true,cond_false,Bool.false_or]
      cases i with
      | zero=>rfl
      | succ j =>
        obtain ⟨z,hz⟩:=az_ (l:=l) (i:=j) (by omega)
        have e:w64 (((j+1:Nat):Int) - 1)=(j:Int):=by rw [gd_ (by omega) (by omega)]; omega
        have hn:prv l (j+1)=z:=by show (l[j]?).getD 0=z; rw [hz]; rfl
        rw [show decide (0<((j+1:Nat):Int))=true from decide_eq_true (by omega),e,ag_ hz,hn,show decide (0<j+1)=true from decide_eq_true (by omega)]
        simp only [cond_true,Option.bind_some,Bool.true_and]
        cases decide (y≤z) <;> rfl
  · simp only [dnl,cond_false]
  · rw [vd_,asc_eq]
    cases kt_ r.2.2.1.length l <;> rfl
end
end Go.Proofs.YtfcgcpjnpdkjmaaGreatDoor.Rx
namespace Go.Proofs.YtfcgcpjnpdkjmaaGreatDoor.Rx
open Go Pad Rex Go.Proofs
section
set_option maxRecDepth 100000
set_option maxHeartbeats 0
def an_85:An:=(.p .z (.p (.j0 [.v 46 .bool] .z .z) (.p .z (.p (.p .z (.ls [.v 3 .int] [] [] 0 (.p .z (.p (.j0 [.v 70 .bool] .z .z) .z)))) (.p .z (.p (.p .z (.ls [.r 4 .str 9,.v 5 .int] [] [] 2 (.p .z (.p (.p .z (.p .z (.j0 [.v 118 .bool] .z .z))) .z)))) (.p .z (.p (.p .z (.ls [.r 4 .str 9,.v 7 .int] [] [] 4 (.p .z (.p (.p .z (.p .z (.p (.j0 [.v 156 .bool] .z .z) .z))) .z)))) (.p (.p .z (.ls [.v 9 .int] [] [] 6 (.p .z (.p (.p .z (.p (.j0 [.v 192 .bool] .z .z) .z)) .z)))) (.p (.p .z (.ls [.v 11 .int] [] [] 8 (.p .z (.p (.p .z (.p (.q [] .z .z) .z)) .z)))) (.p (.p .z (.ls [.v 12 .int] [] [] 10 (.p .z (.p (.p (.p (.q [] .z .z) .z) (.p (.q [] .z .z) .z)) .z)))) .z)))))))))))
noncomputable def cs_85:List (Con Tryz.prog):=[c_89,c_91,c_92,c_93,c_163,c_164,c_165]
noncomputable def cl_85:List (Cpy Tryz.prog):=[]
noncomputable def cx_85:Cx Tryz.prog:=cxC cs_85 cl_85
noncomputable def fs_ (a0:ad_):Option (Int×Unit) :=
 (((cond (decide (8<(a0.1.length:Int)))
 (some (true,()))
 (cond (decide (12<(a0.2.1.length:Int)))
 (some (true,()))
 (cond (decide (10<(a0.2.2.1.length:Int)))
 (some (true,()))
 (cond (decide (16<(a0.2.2.2.1.length:Int)))
 (some (true,()))
 (cond (decide (24<(a0.2.2.2.2.1.length:Int)))
 (some (true,()))
 (some ((decide (12<(a0.2.2.2.2.2.1.length:Int))),())))))))).bind fun v0 =>
 (cond v0.1
 (some (2,()))
 (cond ((a0.1.length:Int)==0)
 (some (22,()))
 ((ae_ (ρ:=(Unit⊕(Int×Unit))) (fun (v1:(Int×Unit)) =>
 (cond (decide (v1.1<(a0.1.length:Int)))
 ((((at? a0.1 v1.1).bind fun v2 =>
 ((du_ v2).bind fun v3 =>
 (cond (!v3.1)
 (some (true,()))
 ((fq_ a0.1 v1.1).bind fun v4 =>
 (some (v4.1,()))))))).bind fun v5 =>
 (cond v5.1
 (some (Sum.inr (Sum.inr (22,()))))
 (some (Sum.inl ((w64 (v1.1+1)),())))))
 (some (Sum.inr (Sum.inl ()))))) (0,())).bind fun v6 =>
 (bv_ v6 (fun v7=>((ae_ (ρ:=(Unit⊕(Int×Unit))) (fun (v9:((List (List UInt8))×(Int×Unit))) =>
 (cond (decide (v9.2.1<(a0.2.1.length:Int)))
 ((at? a0.2.1 v9.2.1).bind fun v10 =>
 ((push? (α:=(List UInt8)) v9.1 [v10.1]).bind fun v11 =>
 ((((du_ v10.1).bind fun v12 =>
 (cond (!v12.1)
 (some (true,()))
 ((fq_ v11 v9.2.1).bind fun v13 =>
 (cond v13.1
 (some (true,()))
 ((cs_ a0 v10.2.1).bind fun v14 =>
 (cond (!v14.1)
 (some (true,()))
 ((bq_ v10.2.2.1 2 6).bind fun v15 =>
 (cond (!v15.1)
 (some (true,()))
 ((bq_ v10.2.2.2 0 (w64 (v10.2.2.1 - 1))).bind fun v16 =>
 (some ((!v16.1),())))))))))))).bind fun v17 =>
 (cond v17.1
 (some (Sum.inr (Sum.inr (21,()))))
 (some (Sum.inl (v11,((w64 (v9.2.1+1)),()))))))))
 (some (Sum.inr (Sum.inl ()))))) ([],(0,()))).bind fun v18 =>
 (bv_ v18 (fun v19=>((ae_ (ρ:=(Unit⊕(Int×Unit))) (fun (v21:((List (List UInt8))×(Int×Unit))) =>
 (cond (decide (v21.2.1<(a0.2.2.1.length:Int)))
 ((at? a0.2.2.1 v21.2.1).bind fun v22 =>
 ((push? (α:=(List UInt8)) v21.1 [v22.1]).bind fun v23 =>
 ((((du_ v22.1).bind fun v24 =>
 (cond (!v24.1)
 (some (true,()))
 ((fq_ v23 v21.2.1).bind fun v25 =>
 (cond v25.1
 (some (true,()))
 (cond (v22.2.1 != (-1))
 ((cs_ a0 v22.2.1).bind fun v26 =>
 (some ((!v26.1),())))
 (some (false,())))))))).bind fun v27 =>
 (cond v27.1
 (some (Sum.inr (Sum.inr (24,()))))
 ((ct_ a0 v22.2.2).bind fun v28 =>
 (cond (!v28.1)
 (some (Sum.inr (Sum.inr (25,()))))
 (some (Sum.inl (v23,((w64 (v21.2.1+1)),()))))))))))
 (some (Sum.inr (Sum.inl ()))))) ([],(0,()))).bind fun v29 =>
 (bv_ v29 (fun v30=>((ae_ (ρ:=(Unit⊕(Int×Unit))) (fun (v32:(Int×Unit)) =>
 (cond (decide (v32.1<(a0.2.2.2.1.length:Int)))
 ((at? a0.2.2.2.1 v32.1).bind fun v33 =>
 ((((cs_ a0 v33.1).bind fun v34 =>
 (cond (!v34.1)
 (some (true,()))
 ((cs_ a0 v33.2.1).bind fun v35 =>
 (cond (!v35.1)
 (some (true,()))
 (some ((v33.1==v33.2.1),()))))))).bind fun v36 =>
 (cond v36.1
 (some (Sum.inr (Sum.inr (23,()))))
 ((ct_ a0 v33.2.2).bind fun v37 =>
 (cond (!v37.1)
 (some (Sum.inr (Sum.inr (25,()))))
 (some (Sum.inl ((w64 (v32.1+1)),()))))))))
 (some (Sum.inr (Sum.inl ()))))) (0,())).bind fun v38 =>
 (bv_ v38 (fun v39=>((ae_ (ρ:=(Unit⊕(Int×Unit))) (fun (v41:(Int×Unit)) =>
 (cond (decide (v41.1<(a0.2.2.2.2.1.length:Int)))
 ((mx_ a0 v41.1).bind fun v42 =>
 (cond (!v42.1)
 (some (Sum.inr (Sum.inr (26,()))))
 ((at? a0.2.2.2.2.1 v41.1).bind fun v43 =>
 ((ct_ a0 v43.2.2.2.2.1).bind fun v44 =>
 (cond (!v44.1)
 (some (Sum.inr (Sum.inr (25,()))))
 (some (Sum.inl ((w64 (v41.1+1)),()))))))))
 (some (Sum.inr (Sum.inl ()))))) (0,())).bind fun v45 =>
 (bv_ v45 (fun v46=>((ae_ (ρ:=(Unit⊕(Int×Unit))) (fun (v48:(Int×Unit)) =>
 (cond (decide (v48.1<(a0.2.2.2.2.2.1.length:Int)))
 ((at? a0.2.2.2.2.2.1 v48.1).bind fun v49 =>
 ((at? a0.2.2.2.2.2.1 v48.1).bind fun v50 =>
 ((gx_ a0 v49.2.1 v50.2.2).bind fun v51 =>
 (cond (!v51.1)
 (some (Sum.inr (Sum.inr (27,()))))
 ((at? a0.2.2.2.2.2.1 v48.1).bind fun v52 =>
 ((ct_ a0 v52.1).bind fun v53 =>
 (cond (!v53.1)
 (some (Sum.inr (Sum.inr (25,()))))
 (some (Sum.inl ((w64 (v48.1+1)),()))))))))))
 (some (Sum.inr (Sum.inl ()))))) (0,())).bind fun v54 =>
 (bv_ v54 (fun v55=>((bq_ a0.2.2.2.2.2.2.1 1 4).bind fun v57 =>
 (cond (!v57.1)
 (some (1,()))
 ((ct_ a0 a0.2.2.2.2.2.2.2).bind fun v58 =>
 (cond (!v58.1)
 (some (25,()))
 (some (0,())))))))
 (fun v56=>(some v56)))))
 (fun v47=>(some v47)))))
 (fun v40=>(some v40)))))
 (fun v31=>(some v31)))))
 (fun v20=>(some v20)))))
 (fun v8=>(some v8)))))))
theorem x_85:au_ cx_85 an_85 85 [ao_] [.int]=fun x=>fs_ x.1:=by kernel_rfl
noncomputable def c_85:Con Tryz.prog:=av_ _ _ 85 [ao_] [.int] _ x_85
def an_88:An:=(.p .z (.p .z (.p (.p .z (.ls [.v 6 .int] [] [] 0 .z)) (.p (.j0 [.v 50 .bool] .z .z) .z))))
noncomputable def cs_88:List (Con Tryz.prog):=[c_90,c_163,c_168,c_169,c_170]
noncomputable def cl_88:List (Cpy Tryz.prog):=[]
noncomputable def cx_88:Cx Tryz.prog:=cxC cs_88 cl_88
noncomputable def ji_ (a0:ac_) (a1:Int):Option (Bool×Unit) :=
 ((at? a0.2.2.2.1 a1).bind fun v0 =>
 ((ae_ (ρ:=(Unit⊕(Bool×Unit))) (fun (v1:(Int×Unit)) =>
 (cond (decide (v1.1<a1))
 ((at? a0.2.2.2.1 v1.1).bind fun v2 =>
 (cond (v2.1==v0.1)
 (some (Sum.inr (Sum.inr (false,()))))
 (some (Sum.inl ((w64 (v1.1+1)),())))))
 (some (Sum.inr (Sum.inl ()))))) (0,())).bind fun v3 =>
 (bv_ v3 (fun v4=>((((du_ v0.1).bind fun v6 =>
 (cond (!v6.1)
 (some (true,()))
 ((iq_ v0.2.1 0 (w64 ((a0.1.1.length:Int) - 1))).bind fun v7 =>
 (cond (!v7.1)
 (some (true,()))
 ((iq_ v0.2.2.1 (-1) (w64 ((a0.2.1.length:Int) - 1))).bind fun v8 =>
 (some ((!v8.1),())))))))).bind fun v9 =>
 (cond v9.1
 (some (false,()))
 (cond (v0.2.2.1==(-1))
 ((ld_ v0.2.2.2.2).bind fun v10 =>
 (some (v10.1,())))
 ((at? a0.2.1 v0.2.2.1).bind fun v11 =>
 ((fu_ v11 v0.2.2.2.2).bind fun v12 =>
 (cond (v12.1==0)
 ((at? a0.2.2.1 v0.2.2.1).bind fun v13 =>
 ((fi_ v0.2.2.2.2 v13).bind fun v14 =>
 (some (v14.1,()))))
 (some (false,())))))))))
 (fun v5=>(some v5)))))
theorem x_88:au_ cx_88 an_88 88 [am_,.int] [.bool]=fun x=>ji_ x.1 x.2.1:=by kernel_rfl
noncomputable def c_88:Con Tryz.prog:=av_ _ _ 88 [am_,.int] [.bool] _ x_88
def an_294:An:=(.p .z (.p .z (.p (.p .z (.lp [.v 5 .int,.v 6 .int] [.v 5 .int] [] 0 .z)) (.p .z (.p (.p .z (.lp [.r 7 (.list .int) 45,.v 8 .int] [.r 7 (.list .int) 45] [] 2 (.p .z (.j0 [.r 7 (.list .int) 45] (.p .z (.p .z (.p (.p .z (.lp [.v 10 .int,.v 11 .int] [] [.o (.s 9) .int] 4 .z)) .z))) .z)))) .z)))))
noncomputable def cs_294:List (Con Tryz.prog):=[c_297]
noncomputable def cl_294:List (Cpy Tryz.prog):=[]
noncomputable def cx_294:Cx Tryz.prog:=cxC cs_294 cl_294
noncomputable def my_ (a0:ab_) (a1:(List ak_)):Option ((List (List Int))×Unit) :=
 ((ae_ (ρ:=(Int×Unit)) (fun (v0:(Int×(Int×Unit))) =>
 (cond (decide (v0.2.1<a0.1))
 (some (Sum.inl ((w64 (v0.1 * a0.2)),((w64 (v0.2.1+1)),()))))
 (some (Sum.inr (v0.1,()))))) (1,(0,()))).bind fun v1 =>
 ((ae_ (ρ:=((List (List Int))×Unit)) (fun (v2:((List (List Int))×(Int×Unit))) =>
 (cond (decide (v2.2.1<v1.1))
 ((((mk? (α:=Int) a0.1 0).bind fun v3 =>
 ((ae_ (ρ:=((List Int)×Unit)) (fun (v4:(Int×(Int×((List Int)×Unit)))) =>
 (cond (decide (0≤v4.2.1))
 ((md v4.1 a0.2).bind fun v5 =>
 ((at? v4.2.2.1 v4.2.1).bind fun v6 =>
 ((at? v4.2.2.1 v4.2.1).bind fun v7 =>
 ((dv v4.1 a0.2).bind fun v8 =>
 (some (Sum.inl (v8,((w64 (v4.2.1 - 1)),((v4.2.2.1.set v4.2.1.toNat v5),())))))))))
 (some (Sum.inr (v4.2.2.1,()))))) (v2.2.1,((w64 (a0.1 - 1)),(v3,())))).bind fun v9 =>
 ((jo_ a1 v9.1).bind fun v10 =>
 (cond (decide (v10.1<0))
 ((push? (α:=(List Int)) v2.1 [v9.1]).bind fun v11 =>
 (some (v11,())))
 (some (v2.1,()))))))).bind fun v12 =>
 (some (Sum.inl (v12.1,((w64 (v2.2.1+1)),())))))
 (some (Sum.inr (v2.1,()))))) ([],(0,()))).bind fun v13 =>
 (some (v13.1,()))))
theorem x_294:au_ cx_294 an_294 294 [al_,(.list ap_)] [(.list (.list .int))]=fun x=>my_ x.1 x.2.1:=by kernel_rfl
noncomputable def c_294:Con Tryz.prog:=av_ _ _ 294 [al_,(.list ap_)] [(.list (.list .int))] _ x_294
def an_74:An:=(.p .z (.p (.j0 [.v 49 .bool] .z .z) (.p .z (.p (.p .z (.ls [.v 54 .int] [] [] 0 .z)) (.p .z (.p (.p .z (.ls [.v 74 .int] [] [] 2 (.p .z (.p .z (.p (.p .z (.j0 [.v 108 .bool] .z .z)) .z))))) (.p (.p .z (.ls [.v 113 .int] [] [] 4 (.p .z (.p .z (.p (.p .z (.p (.j0 [.v 137 .bool] .z .z) .z)) .z))))) (.p (.p .z (.ls [.v 147 .int] [] [] 6 (.p .z (.p .z (.p (.p .z (.p (.j0 [.v 169 .bool] .z .z) .z)) .z))))) (.p (.p .z (.ls [.v 179 .int] [] [] 8 .z)) (.p (.p .z (.ls [.v 198 .int] [] [] 10 .z)) .z))))))))))
def at_74:FuncId→An:=fun k=>cond (Nat.beq k 141) (.p .z (.j0 [.v 6 .bool] .z .z)) (cond (Nat.beq k 143) (.p .z (.j0 [.v 6 .bool] .z .z)) (cond (Nat.beq k 145) (.p .z (.j0 [.v 6 .bool] .z .z)) (cond (Nat.beq k 207) (.p .z (.j0 [.v 6 .int] .z .z)) (cond (Nat.beq k 208) (.p .z (.j0 [.v 6 .int] .z .z)) (cond (Nat.beq k 209) (.p .z (.j0 [.v 6 .int] .z .z)) (cond (Nat.beq k 259) (.p .z (.p (.p .z (.ls [.v 8 .int] [] [] 0 .z)) .z)) (cond (Nat.beq k 260) (.p .z (.p (.q [] .z .z) .z)) (cond (Nat.beq k 261) (.p .z (.p (.p .z (.ls [.v 8 .int] [] [] 0 .z)) .z)) (cond (Nat.beq k 262) (.p .z (.p (.q [] .z .z) .z)) (cond (Nat.beq k 263) (.p .z (.p (.p .z (.ls [.v 8 .int] [] [] 0 .z)) .z)) (cond (Nat.beq k 264) (.p .z (.p (.q [] .z .z) .z)) (.z))))))))))))
noncomputable def cs_74:List (Con Tryz.prog):=[c_140,c_142,c_144,c_146,c_147,c_148,c_149,c_206]
noncomputable def cl_74:List (Cpy Tryz.prog):=[]
noncomputable def cx_74:Cx Tryz.prog:=cxI at_74 (fun k=>Nat.beq k 140||Nat.beq k 142||Nat.beq k 144||Nat.beq k 146||Nat.beq k 147||Nat.beq k 148||Nat.beq k 149||Nat.beq k 206||false) (cxC cs_74 cl_74) 12
noncomputable def fh_ (a0:ad_):Option (Int×Unit) :=
 (((cond (decide (8<(a0.1.length:Int)))
 (some (true,()))
 (cond (decide (12<(a0.2.1.length:Int)))
 (some (true,()))
 (cond (decide (10<(a0.2.2.1.length:Int)))
 (some (true,()))
 (cond (decide (16<(a0.2.2.2.1.length:Int)))
 (some (true,()))
 (cond (decide (24<(a0.2.2.2.2.1.length:Int)))
 (some (true,()))
 (some ((decide (12<(a0.2.2.2.2.2.1.length:Int))),())))))))).bind fun v0 =>
 (cond v0.1
 (some (2,()))
 ((ae_ (ρ:=(Unit⊕(Int×Unit))) (fun (v1:(Int×Unit)) =>
 (cond (decide (v1.1<(a0.1.length:Int)))
 ((at? a0.1 v1.1).bind fun v2 =>
 ((sub? a0.1 0 v1.1).bind fun v3 =>
 ((((fc_ v2).bind fun v4 =>
 (cond v4.1
 (cond (decide ((v2.length:Int)≤12))
 ((((ae_ (ρ:=(Unit⊕(Int×Unit))) (fun (v5:(Int×Unit)) =>
 (cond (decide (v5.1<(v3.length:Int)))
 ((at? v3 v5.1).bind fun v6 =>
 (cond (v6==v2)
 (some (Sum.inr (Sum.inr (v5.1,()))))
 (some (Sum.inl ((w64 (v5.1+1)),())))))
 (some (Sum.inr (Sum.inl ()))))) (0,())).bind fun v7 =>
 (bv_ v7 (fun v8=>(some ((-1),())))
 (fun v9=>(some v9))))).bind fun v10 =>
 (some ((decide (v10.1<0)),())))
 (some (false,())))
 (some (false,()))))).bind fun v11 =>
 (cond (!v11.1)
 (some (Sum.inr (Sum.inr (22,()))))
 (some (Sum.inl ((w64 (v1.1+1)),())))))))
 (some (Sum.inr (Sum.inl ()))))) (0,())).bind fun v12 =>
 (bv_ v12 (fun v13=>(cond ((a0.1.length:Int)==0)
 (some (22,()))
 ((ae_ (ρ:=(Unit⊕(Int×Unit))) (fun (v15:(Int×Unit)) =>
 (cond (decide (v15.1<(a0.2.1.length:Int)))
 ((at? a0.2.1 v15.1).bind fun v16 =>
 ((((sub? a0.2.1 0 v15.1).bind fun v17 =>
 ((((fc_ v16.1).bind fun v18 =>
 (cond v18.1
 (cond (decide ((v16.1.length:Int)≤12))
 ((((ae_ (ρ:=(Unit⊕(Int×Unit))) (fun (v19:(Int×Unit)) =>
 (cond (decide (v19.1<(v17.length:Int)))
 ((at? v17 v19.1).bind fun v20 =>
 (cond (v20.1==v16.1)
 (some (Sum.inr (Sum.inr (v19.1,()))))
 (some (Sum.inl ((w64 (v19.1+1)),())))))
 (some (Sum.inr (Sum.inl ()))))) (0,())).bind fun v21 =>
 (bv_ v21 (fun v22=>(some ((-1),())))
 (fun v23=>(some v23))))).bind fun v24 =>
 (some ((decide (v24.1<0)),())))
 (some (false,())))
 (some (false,()))))).bind fun v25 =>
 (cond (!v25.1)
 (some (true,()))
 ((bc_ v16.2.1 0 (w64 ((a0.1.length:Int) - 1))).bind fun v26 =>
 (cond (!v26.1)
 (some (true,()))
 ((bc_ v16.2.2.1 2 6).bind fun v27 =>
 (cond (!v27.1)
 (some (true,()))
 ((bc_ v16.2.2.2 0 (w64 (v16.2.2.1 - 1))).bind fun v28 =>
 (some ((!v28.1),()))))))))))).bind fun v29 =>
 (cond v29.1
 (some (Sum.inr (Sum.inr (21,()))))
 (some (Sum.inl ((w64 (v15.1+1)),()))))))
 (some (Sum.inr (Sum.inl ()))))) (0,())).bind fun v30 =>
 (bv_ v30 (fun v31=>((ae_ (ρ:=(Unit⊕(Int×Unit))) (fun (v33:(Int×Unit)) =>
 (cond (decide (v33.1<(a0.2.2.1.length:Int)))
 ((at? a0.2.2.1 v33.1).bind fun v34 =>
 ((((sub? a0.2.2.1 0 v33.1).bind fun v35 =>
 ((((fc_ v34.1).bind fun v36 =>
 (cond v36.1
 (cond (decide ((v34.1.length:Int)≤12))
 ((((ae_ (ρ:=(Unit⊕(Int×Unit))) (fun (v37:(Int×Unit)) =>
 (cond (decide (v37.1<(v35.length:Int)))
 ((at? v35 v37.1).bind fun v38 =>
 (cond (v38.1==v34.1)
 (some (Sum.inr (Sum.inr (v37.1,()))))
 (some (Sum.inl ((w64 (v37.1+1)),())))))
 (some (Sum.inr (Sum.inl ()))))) (0,())).bind fun v39 =>
 (bv_ v39 (fun v40=>(some ((-1),())))
 (fun v41=>(some v41))))).bind fun v42 =>
 (some ((decide (v42.1<0)),())))
 (some (false,())))
 (some (false,()))))).bind fun v43 =>
 (cond (!v43.1)
 (some (true,()))
 ((bc_ v34.2.1 0 (w64 ((a0.1.length:Int) - 1))).bind fun v44 =>
 (cond (!v44.1)
 (some ((v34.2.1 != (-1)),()))
 (some (false,())))))))).bind fun v45 =>
 (cond v45.1
 (some (Sum.inr (Sum.inr (24,()))))
 ((dt_ a0 v34.2.2).bind fun v46 =>
 (cond (!v46.1)
 (some (Sum.inr (Sum.inr (25,()))))
 (some (Sum.inl ((w64 (v33.1+1)),()))))))))
 (some (Sum.inr (Sum.inl ()))))) (0,())).bind fun v47 =>
 (bv_ v47 (fun v48=>((ae_ (ρ:=(Unit⊕(Int×Unit))) (fun (v50:(Int×Unit)) =>
 (cond (decide (v50.1<(a0.2.2.2.1.length:Int)))
 ((at? a0.2.2.2.1 v50.1).bind fun v51 =>
 ((((bc_ v51.1 0 (w64 ((a0.1.length:Int) - 1))).bind fun v52 =>
 (cond (!v52.1)
 (some (true,()))
 ((bc_ v51.2.1 0 (w64 ((a0.1.length:Int) - 1))).bind fun v53 =>
 (cond (!v53.1)
 (some (true,()))
 (some ((v51.1==v51.2.1),()))))))).bind fun v54 =>
 (cond v54.1
 (some (Sum.inr (Sum.inr (23,()))))
 ((dt_ a0 v51.2.2).bind fun v55 =>
 (cond (!v55.1)
 (some (Sum.inr (Sum.inr (25,()))))
 (some (Sum.inl ((w64 (v50.1+1)),()))))))))
 (some (Sum.inr (Sum.inl ()))))) (0,())).bind fun v56 =>
 (bv_ v56 (fun v57=>((ae_ (ρ:=(Unit⊕(Int×Unit))) (fun (v59:(Int×Unit)) =>
 (cond (decide (v59.1<(a0.2.2.2.2.1.length:Int)))
 ((at? a0.2.2.2.2.1 v59.1).bind fun v60 =>
 ((pk_ a0 v59.1 v60).bind fun v61 =>
 (cond (!v61.1)
 (some (Sum.inr (Sum.inr (26,()))))
 ((dt_ a0 v60.2.2.2.2.1).bind fun v62 =>
 (cond (!v62.1)
 (some (Sum.inr (Sum.inr (25,()))))
 (some (Sum.inl ((w64 (v59.1+1)),()))))))))
 (some (Sum.inr (Sum.inl ()))))) (0,())).bind fun v63 =>
 (bv_ v63 (fun v64=>((ae_ (ρ:=(Unit⊕(Int×Unit))) (fun (v66:(Int×Unit)) =>
 (cond (decide (v66.1<(a0.2.2.2.2.2.1.length:Int)))
 ((at? a0.2.2.2.2.2.1 v66.1).bind fun v67 =>
 ((fd_ a0 v67.2.1 v67.2.2).bind fun v68 =>
 (cond (!v68.1)
 (some (Sum.inr (Sum.inr (27,()))))
 ((dt_ a0 v67.1).bind fun v69 =>
 (cond (!v69.1)
 (some (Sum.inr (Sum.inr (25,()))))
 (some (Sum.inl ((w64 (v66.1+1)),()))))))))
 (some (Sum.inr (Sum.inl ()))))) (0,())).bind fun v70 =>
 (bv_ v70 (fun v71=>((bc_ a0.2.2.2.2.2.2.1 1 4).bind fun v73 =>
 (cond (!v73.1)
 (some (1,()))
 ((dt_ a0 a0.2.2.2.2.2.2.2).bind fun v74 =>
 (cond (!v74.1)
 (some (25,()))
 (some (0,())))))))
 (fun v72=>(some v72)))))
 (fun v65=>(some v65)))))
 (fun v58=>(some v58)))))
 (fun v49=>(some v49)))))
 (fun v32=>(some v32))))))
 (fun v14=>(some v14))))))
theorem x_74:au_ cx_74 an_74 74 [ao_] [.int]=fun x=>fh_ x.1:=by kernel_rfl
noncomputable def c_74:Con Tryz.prog:=av_ _ _ 74 [ao_] [.int] _ x_74
def an_76:An:=.z
noncomputable def cs_76:List (Con Tryz.prog):=[c_151]
noncomputable def cl_76:List (Cpy Tryz.prog):=[]
noncomputable def cx_76:Cx Tryz.prog:=cxC cs_76 cl_76
noncomputable def ef_ (a0:ab_) (a1:(List Int)):Option (Int×Unit) :=
 ((ht_ a0 [a1]).bind fun v0 =>
 (some (v0.1,())))
theorem x_76:au_ cx_76 an_76 76 [al_,(.list .int)] [.int]=fun x=>ef_ x.1 x.2.1:=by kernel_rfl
noncomputable def c_76:Con Tryz.prog:=av_ _ _ 76 [al_,(.list .int)] [.int] _ x_76
def an_222:An:=.z
noncomputable def cs_222:List (Con Tryz.prog):=[c_75,c_135]
noncomputable def cl_222:List (Cpy Tryz.prog):=[]
noncomputable def cx_222:Cx Tryz.prog:=cxC cs_222 cl_222
noncomputable def fz_ (a0:ab_) (a1:ak_):Option (Int×Unit) :=
 ((el_ a0).bind fun v0 =>
 (cond (v0.1 != 0)
 (some (v0.1,()))
 ((dk_ a0 a1).bind fun v1 =>
 (cond (!v1.1)
 (some (11,()))
 (some (0,()))))))
theorem x_222:au_ cx_222 an_222 222 [al_,ap_] [.int]=fun x=>fz_ x.1 x.2.1:=by kernel_rfl
noncomputable def c_222:Con Tryz.prog:=av_ _ _ 222 [al_,ap_] [.int] _ x_222
def an_68:An:=.z
def at_68:FuncId→An:=fun k=>cond (Nat.beq k 133) (.p .z (.j0 [.v 4 .bool] .z .z)) (cond (Nat.beq k 198) (.p .z (.p (.p .z (.ls [.v 8 .int] [] [] 0 .z)) .z)) (.z))
noncomputable def cs_68:List (Con Tryz.prog):=[c_75,c_135]
noncomputable def cl_68:List (Cpy Tryz.prog):=[]
noncomputable def cx_68:Cx Tryz.prog:=cxI at_68 (fun k=>Nat.beq k 75||Nat.beq k 135||false) (cxC cs_68 cl_68) 4
noncomputable def ey_ (a0:ab_) (a1:(List ak_)):Option (Int×Unit) :=
 ((el_ a0).bind fun v0 =>
 (cond (v0.1 != 0)
 (some (v0.1,()))
 (cond (decide (20<(a1.length:Int)))
 (some (2,()))
 ((((ae_ (ρ:=(Unit⊕(Bool×Unit))) (fun (v1:(Int×Unit)) =>
 (cond (decide (v1.1<(a1.length:Int)))
 ((at? a1 v1.1).bind fun v2 =>
 ((dk_ a0 v2).bind fun v3 =>
 (cond (!v3.1)
 (some (Sum.inr (Sum.inr ((decide (0≤v1.1)),()))))
 (some (Sum.inl ((w64 (v1.1+1)),()))))))
 (some (Sum.inr (Sum.inl ()))))) (0,())).bind fun v4 =>
 (bv_ v4 (fun v5=>(some ((decide (0≤(-1))),())))
 (fun v6=>(some v6))))).bind fun v7 =>
 (cond v7.1
 (some (11,()))
 (some (0,())))))))
theorem x_68:au_ cx_68 an_68 68 [al_,(.list ap_)] [.int]=fun x=>ey_ x.1 x.2.1:=by kernel_rfl
noncomputable def c_68:Con Tryz.prog:=av_ _ _ 68 [al_,(.list ap_)] [.int] _ x_68
def an_69:An:=(.p .z (.p (.p .z (.rf [4] .z .z)) .z))
def at_69:FuncId→An:=fun k=>cond (Nat.beq k 202) (.p .z (.p .z (.rf [2,3] .z .z))) (cond (Nat.beq k 255) (.p .z (.ls [] [] [.y (.c (.y (.s 0) 3) 0),.y (.s 0),.o (.s 3) .int,.b (.y (.c (.y (.s 0) 3) 0) 4) [.val .int]] 0 (.p .z (.p .z (.p (.lp [.v 4 .int] [.v 4 .int] [.o (.s 3) .int] 2 (.p (.j0 [.v 26 .bool] .z .z) .z)) .z))))) (.z))
noncomputable def cs_69:List (Con Tryz.prog):=[c_204]
noncomputable def cl_69:List (Cpy Tryz.prog):=[]
noncomputable def cx_69:Cx Tryz.prog:=cxI at_69 (fun k=>Nat.beq k 204||false) (cxC cs_69 cl_69) 9
noncomputable def ex_ (a0:ab_) (a1:(List ak_)):Option (Int×Unit) :=
 ((mk? (α:=Int) a0.1 0).bind fun v0 =>
 ((ae_ (ρ:=((Unit×(Unit×((List Int)×((Int×Unit)×Unit))))⊕(Int×Unit))) (fun (v1:(Unit×(Unit×((List Int)×((Int×Unit)×Unit))))) =>
 ((fy_ a1 v1.2.2.1).bind fun v2 =>
 (cond (decide (v2.1<0))
 ((ae_ (ρ:=(Int×((List Int)×Unit))) (fun (v3:(Int×((List Int)×Unit))) =>
 (((cond (decide (0≤v3.1))
 ((at? v3.2.1 v3.1).bind fun v4 =>
 ((at? v3.2.1 v3.1).bind fun v5 =>
 (some ((v5==(w64 (a0.2 - 1))),()))))
 (some (false,())))).bind fun v6 =>
 (cond v6.1
 ((at? v3.2.1 v3.1).bind fun v7 =>
 ((at? v3.2.1 v3.1).bind fun v8 =>
 (some (Sum.inl ((w64 (v3.1 - 1)),((v3.2.1.set v3.1.toNat 0),()))))))
 (some (Sum.inr (v3.1,(v3.2.1,()))))))) ((w64 (a0.1 - 1)),(v1.2.2.1,()))).bind fun v9 =>
 (cond (decide (v9.1<0))
 (some (Sum.inr (Sum.inr ((w64 (v1.2.2.2.1.1+1)),()))))
 ((at? v9.2.1 v9.1).bind fun v10 =>
 ((at? v9.2.1 v9.1).bind fun v11 =>
 ((at? v9.2.1 v9.1).bind fun v12 =>
 ((at? v9.2.1 v9.1).bind fun v13 =>
 (some (Sum.inl ((),((),((v9.2.1.set v9.1.toNat (w64 (v11+1))),(((w64 (v1.2.2.2.1.1+1)),()),()))))))))))))
 ((ae_ (ρ:=(Int×((List Int)×Unit))) (fun (v14:(Int×((List Int)×Unit))) =>
 (((cond (decide (0≤v14.1))
 ((at? v14.2.1 v14.1).bind fun v15 =>
 ((at? v14.2.1 v14.1).bind fun v16 =>
 (some ((v16==(w64 (a0.2 - 1))),()))))
 (some (false,())))).bind fun v17 =>
 (cond v17.1
 ((at? v14.2.1 v14.1).bind fun v18 =>
 ((at? v14.2.1 v14.1).bind fun v19 =>
 (some (Sum.inl ((w64 (v14.1 - 1)),((v14.2.1.set v14.1.toNat 0),()))))))
 (some (Sum.inr (v14.1,(v14.2.1,()))))))) ((w64 (a0.1 - 1)),(v1.2.2.1,()))).bind fun v20 =>
 (cond (decide (v20.1<0))
 (some (Sum.inr (Sum.inr (v1.2.2.2.1.1,()))))
 ((at? v20.2.1 v20.1).bind fun v21 =>
 ((at? v20.2.1 v20.1).bind fun v22 =>
 ((at? v20.2.1 v20.1).bind fun v23 =>
 ((at? v20.2.1 v20.1).bind fun v24 =>
 (some (Sum.inl ((),((),((v20.2.1.set v20.1.toNat (w64 (v22+1))),((v1.2.2.2.1.1,()),()))))))))))))))) ((),((),(v0,((0,()),()))))).bind fun v25 =>
 (bv_ v25 (fun v26=>(some (v26.2.2.2.1.1,())))
 (fun v27=>(some v27)))))
theorem x_69:au_ cx_69 an_69 69 [al_,(.list ap_)] [.int]=fun x=>ex_ x.1 x.2.1:=by kernel_rfl
noncomputable def c_69:Con Tryz.prog:=av_ _ _ 69 [al_,(.list ap_)] [.int] _ x_69
end
end Go.Proofs.YtfcgcpjnpdkjmaaGreatDoor.Rx
namespace Go.Proofs.YtfcgcpjnpdkjmaaGreatDoor.Rx
open Go Pad Rex
section
theorem oz_ {α:Type} {l:List α} {i:Nat} (h:i≤l.length):sub? l 0 (i:Int)=some (l.take i):=by
  unfold sub?
  rw [if_pos ⟨Int.le_refl 0,by omega,by omega⟩]
  simp
def twN {α:Type} (nm:α→List UInt8) (l:List α) (i:Nat) (t:List UInt8):Bool:=(l.take i).any fun y=>nm y==t
theorem qc_ {l:List (List UInt8)} {i:Nat} {x:List UInt8} (hl:Sm l.length) (hx:l[i]?=some x):fq_ l (i:Int)=some (twN id l i x,()):=by
  have hi:=an_ hx
  have hle:(l.take i).length=i:=by rw [List.length_take]; omega
  unfold fq_
  refine bn_ (l.take i) (fun _ y=>cond (id y==x) (some (Sum.inr (true,()):Unit⊕(Bool×Unit))) none) (fun i=>((i:Int),())) (r0:=Sum.inl ()) (fun k y hy => ?_) ?_ ?_
  · have hk:=an_ hy
    have hy':l[k]?=some y:=by
      rw [List.getElem?_take] at hy
      split at hy
      · exact hy
      · cases hy
    simp only [dlt (show k<i by omega),cond_true,ag_ hy',ag_ hx,Option.bind_some,ay_ (show Sm k by omega),id]
    cases y==x <;> rfl
  · rw [hle]
    simp only [dnl,cond_false]
  · rw [hl_ (q:=fun y=>id y==x)]
    unfold twN
    cases (l.take i).any fun y=>id y==x <;> rfl
theorem ia_ {r:ad_} (p:Int):cs_ r p=some (wi p 0 (w64 ((r.1.length:Int) - 1)),()):=by
  unfold cs_
  rw [fm_,Option.bind_some]
structure SmR (r:ad_):Prop where
  pl:Sm r.1.length
  th:Sm r.2.1.length
  pr:Sm r.2.2.1.length
  wy:Sm r.2.2.2.1.length
  ac:Sm r.2.2.2.2.1.length
  au:Sm r.2.2.2.2.2.1.length
  go:Sm r.2.2.2.2.2.2.2.length
  pln:∀ x ∈ r.1,Sm x.length
  thn:∀ x ∈ r.2.1,Sm x.1.length
  prn:∀ x ∈ r.2.2.1,Sm x.1.length∧Sm x.2.2.length
  wyn:∀ x ∈ r.2.2.2.1,Sm x.2.2.length
  acn:∀ x ∈ r.2.2.2.2.1,Sm x.1.length∧Sm x.2.2.2.1.length∧Sm x.2.2.2.2.1.length∧Sm x.2.2.2.2.2.1.length∧Sm x.2.2.2.2.2.2.1.length∧Sm x.2.2.2.2.2.2.2.length
  aun:∀ x ∈ r.2.2.2.2.2.1,Sm x.1.length
theorem aw_ {α:Type} {l:List α} {i:Nat} {x:α} (h:l[i]?=some x):x ∈ l:=List.mem_of_getElem? h
def re_ (r:ad_) (p:Int):Bool:=wi p 0 (w64 ((r.1.length:Int) - 1))
def frN {α:Type} (nm:α→List UInt8) (l:List α) (i:Nat) (t:List UInt8):Bool:=okN t&&!(twN nm l i t)
def plOk (r:ad_) (i:Nat) (x:List UInt8):Bool:=frN id r.1 i x
def thOk (r:ad_) (i:Nat) (x:gz_):Bool:=frN (·.1) r.2.1 i x.1&&(re_ r x.2.1&&(wi x.2.2.1 2 6&&wi x.2.2.2 0 (w64 (x.2.2.1 - 1))))
def prOk (r:ad_) (i:Nat) (x:jx_):Bool:=frN (·.1) r.2.2.1 i x.1&&(re_ r x.2.1||x.2.1==(-1))
def wyOk (r:ad_) (x:oq_):Bool:=re_ r x.1&&(re_ r x.2.1&&!(x.1==x.2.1))
def rs_ (a:Bool) (e:Int) (b:Bool) (f:Int):Option Int:=cond a (cond b none (some f)) (some e)
def kp_ (a:Bool) (e:Int):Option Int:=cond a none (some e)
def left (o:Option Int):Unit⊕(Int×Unit):=match o with
  | none=>.inl ()
  | some e=>.inr (e,())
theorem left_map (o:Option Int):(o.map fun e=>(Sum.inr (e,()):Unit⊕(Int×Unit))).getD (Sum.inl ())=left o:=by cases o <;> rfl
theorem bu_ {α:Type} (l:List α) (p:Nat→α→Option Int) {body:(Int×Unit)→Option ((Int×Unit)⊕(Unit⊕(Int×Unit)))} {τ:Type} {K:(Unit⊕(Int×Unit))→Option τ} {x:Option τ}
    (h:∀ (i:Nat) y,l[i]?=some y→body ((i:Int),())=some (match p i y with | none=>.inl (((i+1:Nat):Int),()) | some e=>.inr (.inr (e,())))) (e:body ((l.length:Int),())=some (.inr (.inl ()))) (hk:K (left (gg_ p 0 l))=x) :
    (ae_ body (0,())).bind K=x:=by
  refine bn_ l (fun i y=>(p i y).map fun e=>(Sum.inr (e,()):Unit⊕(Int×Unit))) (fun i=>((i:Int),())) (r0:=Sum.inl ()) (fun i y hy => ?_) e ?_
  · rw [h i y hy]
    cases p i y <;> rfl
  · rw [zn_,left_map]
    exact hk
theorem zb_ {α β:Type} (l:List α) (p:Nat→α→Option Int) (F:Nat→β) {body:(β×(Int×Unit))→Option ((β×(Int×Unit))⊕(Unit⊕(Int×Unit)))} {τ:Type} {K:(Unit⊕(Int×Unit))→Option τ} {x:Option τ} {b0:β} (h0:F 0=b0)
    (h:∀ (i:Nat) y,l[i]?=some y→body (F i,((i:Int),()))=some (match p i y with | none=>.inl (F (i+1),(((i+1:Nat):Int),())) | some e=>.inr (.inr (e,())))) (e:body (F l.length,((l.length:Int),()))=some (.inr (.inl ()))) (hk:K (left (gg_ p 0 l))=x) :
    (ae_ body (b0,(0,()))).bind K=x:=by
  subst h0
  refine bn_ l (fun i y=>(p i y).map fun e=>(Sum.inr (e,()):Unit⊕(Int×Unit))) (fun i=>(F i,((i:Int),()))) (r0:=Sum.inl ()) (fun i y hy => ?_) e ?_
  · rw [h i y hy]
    cases p i y <;> rfl
  · rw [zn_,left_map]
    exact hk
theorem er_ {o:Option Int} {K:Unit→Option (Int×Unit)} {k:Int} (h:K ()=some (k,())):bv_ (left o) K (fun y=>some y)=some (o.getD k,()):=by
  cases o with
  | none=>exact h
  | some e=>rfl
end
section
def qs_ (r:ad_) (l:List ab_) (i:Nat) (x:ab_):Bool:=nk_ r.2.1 x.1 x.2&&!((l.take i).any fun y=>y.1==x.1)
def ub_ (r:ad_) (i:Nat) (a:cg_):Bool :=
  frN (·.1) r.2.2.2.2.1 i a.1&&(re_ r a.2.1&&(wi a.2.2.1 (-1) 7&&(kt_ r.2.2.1.length a.2.2.2.1&&(kt_ r.2.2.1.length a.2.2.2.2.2.2.1&&(kt_ r.2.2.1.length a.2.2.2.2.2.2.2&&(!(decide (6<(a.2.2.2.2.2.1.length:Int)))
    && ((a.2.2.2.2.2.2.1.all fun p=>a.2.2.2.1.contains p)&&(!(a.2.2.2.2.2.2.2.any fun p=>a.2.2.2.1.contains p)
      && (gg_ (fun i x=>cond (qs_ r a.2.2.2.2.2.1 i x) none (some ())) 0 a.2.2.2.2.2.1).isNone))))))))
theorem rw_ {α ρ:Type} {q:Nat→α→Bool} {r:ρ}:∀ (l:List α) (i:Nat),gg_ (fun i x=>cond (q i x) none (some r)) i l=cond (gg_ (fun i x=>cond (q i x) none (some ())) i l).isNone none (some r)
  | [],_=>rfl
  | x::l,i=>by
    unfold gg_
    cases q i x with
    | false=>rfl
    | true=>exact rw_ l (i+1)
theorem uj_ {α:Type} {l:List α} (hl:Sm l.length) (nm:α→List UInt8) {t:List UInt8} (ht:Sm t.length) :
    ((fc_ t).bind fun v1=>cond v1.1 (cond (decide ((t.length:Int)≤12)) ((((ae_ (ρ:=Unit⊕(Int×Unit)) (fun (v:Int×Unit)=>cond (decide (v.1<(l.length:Int))) ((at? l v.1).bind fun y=>cond (nm y==t) (some (Sum.inr (Sum.inr (v.1,())))) (some (Sum.inl (w64 (v.1+1),())))) (some (Sum.inr (Sum.inl ())))) (0,())).bind fun v=>bv_ v (fun _=>some ((-1:Int),())) (fun w=>some w))).bind fun v=>some (decide (v.1<0),())) (some (false,()))) (some (false,())))
      = some (okN t&&!(l.any fun y=>nm y==t),()):=by
  rw [room_word ht,Option.bind_some]
  obtain ⟨n,h1,h2,_⟩:=if_lt hl (fun y=>nm y==t) (body:=fun (v:Int×Unit)=>cond (decide (v.1<(l.length:Int))) ((at? l v.1).bind fun y=>cond (nm y==t) (some (Sum.inr (Sum.inr (v.1,())))) (some (Sum.inl (w64 (v.1+1),())))) (some (Sum.inr (Sum.inl ())))) (fun i y hy=>by
    simp only [dlt (an_ hy),cond_true,ag_ hy,Option.bind_some]
    cases nm y==t <;> rfl) (by simp only [dnl,cond_false])
  rw [h1,Option.bind_some,h2]
  unfold okN
  cases okW t with
  | false=>rw [Bool.and_false,Bool.false_and]; rfl
  | true=>cases decide ((t.length:Int)≤12) <;> rfl
theorem va_ {α:Type} {l:List α} (h:Sm l.length) (i:Nat):Sm (l.take i).length:=by
  rw [List.length_take]
  exact Nat.le_trans (Nat.min_le_right _ _) h
theorem room_act {r:ad_} (h:SmR r) {i:Nat} {a:cg_} (ha:r.2.2.2.2.1[i]?=some a):pk_ r (i:Int) a=some (ub_ r i a,()):=by
  have hi:=an_ ha
  obtain ⟨s1,s2,s3,s4,s5,s6⟩:=h.acn a (aw_ ha)
  unfold pk_
  refine Eq.trans (congrArg (fun o=>Option.bind o _) (?_:_=some (!(frN (·.1) r.2.2.2.2.1 i a.1&&(re_ r a.2.1&&wi a.2.2.1 (-1) 7)),()))) ?_
  · rw [oz_ (Nat.le_of_lt hi),Option.bind_some]
    refine Eq.trans (congrArg (fun o=>Option.bind o _) (uj_ (va_ h.ac i) (·.1) s1)) ?_
    unfold frN twN re_
    rw [Option.bind_some]
    cases okN a.1&&!((r.2.2.2.2.1.take i).any fun y=>y.1==a.1) with
    | false=>rfl
    | true =>
      simp only [dw_,Option.bind_some]
      cases wi a.2.1 0 (w64 ((r.1.length:Int) - 1)) with
      | false=>rfl
      | true=>rfl
  · rw [Option.bind_some]
    unfold ub_
    cases frN (·.1) r.2.2.2.2.1 i a.1 with
    | false=>rfl
    | true =>
    cases re_ r a.2.1 with
    | false=>rfl
    | true =>
    cases wi a.2.2.1 (-1) 7 with
    | false=>rfl
    | true =>
      simp only [Bool.not_true,cond_false,Bool.true_and,rx_ s2,rx_ s5,rx_ s6,Option.bind_some]
      cases kt_ r.2.2.1.length a.2.2.2.1 with
      | false=>rfl
      | true =>
      cases kt_ r.2.2.1.length a.2.2.2.2.2.2.1 with
      | false=>rfl
      | true =>
      cases kt_ r.2.2.1.length a.2.2.2.2.2.2.2 with
      | false=>rfl
      | true =>
      cases h6:decide (6<(a.2.2.2.2.2.1.length:Int)) with
      | true=>rfl
      | false =>
      simp only [Bool.not_true,Bool.not_false,cond_false,Bool.true_and,Option.bind_some]
      refine Eq.trans (congrArg (fun o=>Option.bind o _) (?_:_=some (!((a.2.2.2.2.2.2.1.all fun p=>a.2.2.2.1.contains p)&&!(a.2.2.2.2.2.2.2.any fun p=>a.2.2.2.1.contains p)),()))) ?_
      · refine Eq.trans (congrArg (fun o=>Option.bind o _) (ol_ s5 (fun p=>!(a.2.2.2.1.contains p)) (fun i y hy => ?_) ?_)) ?_
        · simp only [dlt (an_ hy),cond_true,ag_ hy,Option.bind_some,os_ s2]
          cases a.2.2.2.1.contains y <;> rfl
        · simp only [dnl,cond_false]
        rw [Option.bind_some,← sx_ a.2.2.2.2.2.2.1]
        cases a.2.2.2.2.2.2.1.any fun p=>!(a.2.2.2.1.contains p) with
        | true=>rfl
        | false =>
        refine Eq.trans (congrArg (fun o=>Option.bind o _) (ol_ s6 (fun p=>a.2.2.2.1.contains p) (fun i y hy => ?_) ?_)) ?_
        · simp only [dlt (an_ hy),cond_true,ag_ hy,Option.bind_some,os_ s2]
          cases a.2.2.2.1.contains y <;> rfl
        · simp only [dnl,cond_false]
        cases a.2.2.2.2.2.2.2.any fun p=>a.2.2.2.1.contains p <;> rfl
      · rw [Option.bind_some]
        cases a.2.2.2.2.2.2.1.all fun p=>a.2.2.2.1.contains p with
        | false=>rfl
        | true =>
        cases a.2.2.2.2.2.2.2.any fun p=>a.2.2.2.1.contains p with
        | true=>rfl
        | false =>
          simp only [Bool.not_true,Bool.not_false,cond_false,Bool.true_and]
          refine bn_ a.2.2.2.2.2.1 (fun i x=>cond (qs_ r a.2.2.2.2.2.1 i x) none (some (Sum.inr (false,()):Unit⊕(Bool×Unit)))) (fun i=>((i:Int),())) (r0:=Sum.inl ()) (fun k y hy => ?_) ?_ ?_
          · have hk:=an_ hy
            simp only [dlt hk,cond_true,ag_ hy,Option.bind_some,ay_ (show Sm k by omega),oz_ (Nat.le_of_lt hk)]
            refine Eq.trans (congrArg (fun o=>Option.bind o _) (ol_ (va_ s4 k) (fun z=>z.1==y.1) (fun n z hz => ?_) ?_)) ?_
            · simp only [dlt (an_ hz),cond_true,ag_ hz,Option.bind_some]
              cases z.1==y.1 <;> rfl
            · simp only [dnl,cond_false]
            · rw [Option.bind_some,pd_ h.th]
              unfold qs_
              cases nk_ r.2.1 y.1 y.2 with
              | false=>rfl
              | true =>
                cases (a.2.2.2.2.2.1.take k).any fun z=>z.1==y.1 <;> rfl
          · simp only [dnl,cond_false]
          · rw [rw_]
            cases (gg_ (fun i x=>cond (qs_ r a.2.2.2.2.2.1 i x) none (some ())) 0 a.2.2.2.2.2.1).isNone <;> rfl
end
section
def manyR (r:ad_):Bool:=decide (8<(r.1.length:Int))||(decide (12<(r.2.1.length:Int))||(decide (10<(r.2.2.1.length:Int))||(decide (16<(r.2.2.2.1.length:Int))||(decide (24<(r.2.2.2.2.1.length:Int))||decide (12<(r.2.2.2.2.2.1.length:Int))))))
theorem many_of (r:ad_):(cond (decide (8<(r.1.length:Int)))
 (some (true,()))
 (cond (decide (12<(r.2.1.length:Int)))
 (some (true,()))
 (cond (decide (10<(r.2.2.1.length:Int)))
 (some (true,()))
 (cond (decide (16<(r.2.2.2.1.length:Int)))
 (some (true,()))
 (cond (decide (24<(r.2.2.2.2.1.length:Int)))
 (some (true,()))
 (some ((decide (12<(r.2.2.2.2.2.1.length:Int))),())))))))=some (manyR r,()):=by
  unfold manyR
  cases decide (8<(r.1.length:Int)) with
  | true=>rfl
  | false =>
  cases decide (12<(r.2.1.length:Int)) with
  | true=>rfl
  | false =>
  cases decide (10<(r.2.2.1.length:Int)) with
  | true=>rfl
  | false =>
  cases decide (16<(r.2.2.2.1.length:Int)) with
  | true=>rfl
  | false =>
  cases decide (24<(r.2.2.2.2.1.length:Int)) with
  | true=>rfl
  | false=>rfl
def cz_ (r:ad_):Int :=
  cond (manyR r) 2 ((gg_ (fun i x=>kp_ (plOk r i x) 22) 0 r.1).getD
    (cond ((r.1.length:Int)==0) 22 ((gg_ (fun i x=>kp_ (thOk r i x) 21) 0 r.2.1).getD
      ((gg_ (fun i x=>rs_ (prOk r i x) 24 (cOk r.2.1 x.2.2) 25) 0 r.2.2.1).getD
        ((gg_ (fun _ x=>rs_ (wyOk r x) 23 (cOk r.2.1 x.2.2) 25) 0 r.2.2.2.1).getD
          ((gg_ (fun i x=>rs_ (ub_ r i x) 26 (cOk r.2.1 x.2.2.2.2.1) 25) 0 r.2.2.2.2.1).getD
            ((gg_ (fun _ x=>rs_ (nk_ r.2.1 x.2.1 x.2.2) 27 (cOk r.2.1 x.1) 25) 0 r.2.2.2.2.2.1).getD
              (cond (wi r.2.2.2.2.2.2.1 1 4) (cond (cOk r.2.1 r.2.2.2.2.2.2.2) 0 25) 1))))))))
theorem ry_ {r:ad_} (h:SmR r):fh_ r=some (cz_ r,()):=by
  unfold fh_
  refine Eq.trans (congrArg (fun o=>Option.bind o _) (many_of r)) ?_
  rw [Option.bind_some]
  unfold cz_
  cases manyR r with
  | true=>rfl
  | false =>
  simp only [cond_false]
  refine bu_ r.1 (fun i x=>kp_ (plOk r i x) 22) (fun i y hy => ?_) ?_ (er_ ?_)
  · have hi:=an_ hy
    simp only [dlt hi,cond_true,ag_ hy,Option.bind_some,ay_ (show Sm i from Nat.le_trans (Nat.le_of_lt hi) h.pl),oz_ (Nat.le_of_lt hi)]
    refine Eq.trans (congrArg (fun o=>Option.bind o _) (uj_ (va_ h.pl i) id (h.pln y (aw_ hy)))) ?_
    unfold kp_ plOk frN twN
    rw [Option.bind_some]
    cases okN y&&!((r.1.take i).any fun z=>id z==y) <;> rfl
  · simp only [dnl,cond_false]
  cases (r.1.length:Int)==0 with
  | true=>rfl
  | false =>
  simp only [cond_false]
  refine bu_ r.2.1 (fun i x=>kp_ (thOk r i x) 21) (fun i y hy => ?_) ?_ (er_ ?_)
  · have hi:=an_ hy
    simp only [dlt hi,cond_true,ag_ hy,Option.bind_some,ay_ (show Sm i from Nat.le_trans (Nat.le_of_lt hi) h.th),oz_ (Nat.le_of_lt hi)]
    refine Eq.trans (congrArg (fun o=>Option.bind o _) (Eq.trans (congrArg (fun o=>Option.bind o _) (uj_ (va_ h.th i) (·.1) (h.thn y (aw_ hy)))) (?_:_=some (!(thOk r i y),())))) ?_
    · simp only [dw_,Option.bind_some]
      unfold thOk frN twN re_
      cases okN y.1&&!((r.2.1.take i).any fun z=>z.1==y.1) with
      | false=>rfl
      | true =>
        cases wi y.2.1 0 (w64 ((r.1.length:Int) - 1)) with
        | false=>rfl
        | true =>
          cases wi y.2.2.1 2 6 with
          | false=>rfl
          | true=>rfl
    · rw [Option.bind_some]
      unfold kp_
      cases thOk r i y <;> rfl
  · simp only [dnl,cond_false]
  refine bu_ r.2.2.1 (fun i x=>rs_ (prOk r i x) 24 (cOk r.2.1 x.2.2) 25) (fun i y hy => ?_) ?_ (er_ ?_)
  · have hi:=an_ hy
    simp only [dlt hi,cond_true,ag_ hy,Option.bind_some,ay_ (show Sm i from Nat.le_trans (Nat.le_of_lt hi) h.pr),oz_ (Nat.le_of_lt hi)]
    refine Eq.trans (congrArg (fun o=>Option.bind o _) (Eq.trans (congrArg (fun o=>Option.bind o _) (uj_ (va_ h.pr i) (·.1) (h.prn y (aw_ hy)).1)) (?_:_=some (!(prOk r i y),())))) ?_
    · simp only [dw_,Option.bind_some]
      unfold prOk frN twN re_
      cases okN y.1&&!((r.2.2.1.take i).any fun z=>z.1==y.1) with
      | false=>rfl
      | true =>
        cases wi y.2.1 0 (w64 ((r.1.length:Int) - 1)) with
        | false=>rfl
        | true=>rfl
    · rw [Option.bind_some,jt_ h.th,Option.bind_some]
      unfold rs_
      cases prOk r i y with
      | false=>rfl
      | true=>cases cOk r.2.1 y.2.2 <;> rfl
  · simp only [dnl,cond_false]
  refine bu_ r.2.2.2.1 (fun i x=>rs_ (wyOk r x) 23 (cOk r.2.1 x.2.2) 25) (fun i y hy => ?_) ?_ (er_ ?_)
  · have hi:=an_ hy
    simp only [dlt hi,cond_true,ag_ hy,Option.bind_some,ay_ (show Sm i from Nat.le_trans (Nat.le_of_lt hi) h.wy)]
    refine Eq.trans (congrArg (fun o=>Option.bind o _) (?_:_=some (!(wyOk r y),()))) ?_
    · simp only [dw_,Option.bind_some]
      unfold wyOk re_
      cases wi y.1 0 (w64 ((r.1.length:Int) - 1)) with
      | false=>rfl
      | true =>
        cases wi y.2.1 0 (w64 ((r.1.length:Int) - 1)) with
        | false=>rfl
        | true=>simp
    · rw [Option.bind_some,jt_ h.th,Option.bind_some]
      unfold rs_
      cases wyOk r y with
      | false=>rfl
      | true=>cases cOk r.2.1 y.2.2 <;> rfl
  · simp only [dnl,cond_false]
  refine bu_ r.2.2.2.2.1 (fun i x=>rs_ (ub_ r i x) 26 (cOk r.2.1 x.2.2.2.2.1) 25) (fun i y hy => ?_) ?_ (er_ ?_)
  · have hi:=an_ hy
    simp only [dlt hi,cond_true,ag_ hy,Option.bind_some,ay_ (show Sm i from Nat.le_trans (Nat.le_of_lt hi) h.ac),room_act h hy,jt_ h.th]
    unfold rs_
    cases ub_ r i y with
    | false=>rfl
    | true=>cases cOk r.2.1 y.2.2.2.2.1 <;> rfl
  · simp only [dnl,cond_false]
  refine bu_ r.2.2.2.2.2.1 (fun i x=>rs_ (nk_ r.2.1 x.2.1 x.2.2) 27 (cOk r.2.1 x.1) 25) (fun i y hy => ?_) ?_ (er_ ?_)
  · have hi:=an_ hy
    simp only [dlt hi,cond_true,ag_ hy,Option.bind_some,ay_ (show Sm i from Nat.le_trans (Nat.le_of_lt hi) h.au),pd_ h.th,jt_ h.th]
    unfold rs_
    cases nk_ r.2.1 y.2.1 y.2.2 with
    | false=>rfl
    | true=>cases cOk r.2.1 y.1 <;> rfl
  · simp only [dnl,cond_false]
  rw [dw_,Option.bind_some,jt_ h.th,Option.bind_some]
  cases wi r.2.2.2.2.2.2.1 1 4 with
  | false=>rfl
  | true=>cases cOk r.2.1 r.2.2.2.2.2.2.2 <;> rfl
end
section
theorem tp_ {α ρ σ τ:Type} (l:List α) (k:Nat) (hk:k≤l.length) (p:Nat→α→Option ρ) (F:Nat→σ) {r0:ρ} {body:σ→Option (σ⊕ρ)} {K:ρ→Option τ} {x:Option τ}
    (h:∀ i x,i<k→l[i]?=some x→body (F i)=some (match p i x with | none=>.inl (F (i+1)) | some r=>.inr r)) (e:body (F k)=some (.inr r0)) (hx:K ((gg_ p 0 (l.take k)).getD r0)=x) :
    (ae_ body (F 0)).bind K=x:=by
  have hle:(l.take k).length=k:=by rw [List.length_take]; omega
  refine bn_ (l.take k) p F (fun i x hx => ?_) (by rw [hle]; exact e) hx
  rw [List.getElem?_take] at hx
  split at hx
  · exact h i x ‹_› hx
  · cases hx
theorem ref02_act {r:ad_} (h:SmR r) {i:Nat} {a:cg_} (ha:r.2.2.2.2.1[i]?=some a):mx_ r (i:Int)=some (ub_ r i a,()):=by
  have hi:=an_ ha
  have hac:=h.ac
  obtain ⟨s1,s2,s3,s4,s5,s6⟩:=h.acn a (aw_ ha)
  unfold mx_
  rw [ag_ ha,Option.bind_some]
  refine tp_ r.2.2.2.2.1 i (Nat.le_of_lt hi) (fun _ y=>cond (y.1==a.1) (some (Sum.inr (false,()):Unit⊕(Bool×Unit))) none) (fun i=>((i:Int),())) (r0:=Sum.inl ()) (fun k y hk hy => ?_) ?_ ?_
  · simp only [dlt hk,cond_true,ag_ hy,Option.bind_some,ay_ (show Sm k by omega)]
    cases y.1==a.1 <;> rfl
  · simp only [dnl,cond_false]
  rw [hl_ (q:=fun y:cg_=>y.1==a.1)]
  unfold ub_ frN twN
  cases (r.2.2.2.2.1.take i).any fun y=>y.1==a.1 with
  | true=>rw [Bool.not_true,Bool.and_false,Bool.false_and]; rfl
  | false =>
  simp only [cond_false,Option.getD_none,zf_,Bool.not_false,Bool.and_true]
  refine Eq.trans (congrArg (fun o=>Option.bind o _) (?_:_=some (!(okN a.1&&(re_ r a.2.1&&(wi a.2.2.1 (-1) 7&&(kt_ r.2.2.1.length a.2.2.2.1&&(kt_ r.2.2.1.length a.2.2.2.2.2.2.1&&(kt_ r.2.2.1.length a.2.2.2.2.2.2.2&&!(decide (6<(a.2.2.2.2.2.1.length:Int))))))))),()))) ?_
  · simp only [kc_ s1,ia_,fm_,kb_ h.pr s2,kb_ h.pr s5,kb_ h.pr s6,Option.bind_some]
    unfold re_
    cases okN a.1 with
    | false=>rfl
    | true =>
    cases wi a.2.1 0 (w64 ((r.1.length:Int) - 1)) with
    | false=>rfl
    | true =>
    cases wi a.2.2.1 (-1) 7 with
    | false=>rfl
    | true =>
    cases kt_ r.2.2.1.length a.2.2.2.1 with
    | false=>rfl
    | true =>
    cases kt_ r.2.2.1.length a.2.2.2.2.2.2.1 with
    | false=>rfl
    | true =>
    cases kt_ r.2.2.1.length a.2.2.2.2.2.2.2 with
    | false=>rfl
    | true=>simp
  rw [Option.bind_some]
  cases okN a.1 with
  | false=>rfl
  | true =>
  cases re_ r a.2.1 with
  | false=>rfl
  | true =>
  cases wi a.2.2.1 (-1) 7 with
  | false=>rfl
  | true =>
  cases kt_ r.2.2.1.length a.2.2.2.1 with
  | false=>rfl
  | true =>
  cases kt_ r.2.2.1.length a.2.2.2.2.2.2.1 with
  | false=>rfl
  | true =>
  cases kt_ r.2.2.1.length a.2.2.2.2.2.2.2 with
  | false=>rfl
  | true =>
  cases decide (6<(a.2.2.2.2.2.1.length:Int)) with
  | true=>rfl
  | false =>
  simp only [Bool.true_and,Bool.not_true,Bool.not_false,cond_false]
  refine bn_ a.2.2.2.2.2.2.1 (fun _ y=>cond (a.2.2.2.1.contains y) none (some (Sum.inr (false,()):Unit⊕(Bool×Unit)))) (fun i=>((i:Int),())) (r0:=Sum.inl ()) (fun k y hy => ?_) ?_ ?_
  · have hk:=an_ hy
    simp only [dlt hk,cond_true,ag_ hy,Option.bind_some,ay_ (show Sm k by omega),ref02_in s2]
    cases a.2.2.2.1.contains y <;> rfl
  · simp only [dnl,cond_false]
  rw [jf_ (q:=fun y=>a.2.2.2.1.contains y)]
  cases a.2.2.2.2.2.2.1.all fun y=>a.2.2.2.1.contains y with
  | false=>rfl
  | true =>
  simp only [cond_true,Option.getD_none,zf_,Bool.true_and]
  refine bn_ a.2.2.2.2.2.2.2 (fun _ y=>cond (a.2.2.2.1.contains y) (some (Sum.inr (false,()):Unit⊕(Bool×Unit))) none) (fun i=>((i:Int),())) (r0:=Sum.inl ()) (fun k y hy => ?_) ?_ ?_
  · have hk:=an_ hy
    simp only [dlt hk,cond_true,ag_ hy,Option.bind_some,ay_ (show Sm k by omega),ref02_in s2]
    cases a.2.2.2.1.contains y <;> rfl
  · simp only [dnl,cond_false]
  rw [hl_ (q:=fun y=>a.2.2.2.1.contains y)]
  cases a.2.2.2.2.2.2.2.any fun y=>a.2.2.2.1.contains y with
  | true=>rfl
  | false =>
  simp only [cond_false,Option.getD_none,zf_,Bool.not_false,Bool.true_and]
  refine bn_ a.2.2.2.2.2.1 (fun i x=>cond (qs_ r a.2.2.2.2.2.1 i x) none (some (Sum.inr (false,()):Unit⊕(Bool×Unit)))) (fun i=>((i:Int),())) (r0:=Sum.inl ()) (fun k y hy => ?_) ?_ ?_
  · have hk:=an_ hy
    simp only [dlt hk,cond_true,ag_ hy,Option.bind_some,ay_ (show Sm k by omega),qw_ h.th]
    unfold qs_
    cases nk_ r.2.1 y.1 y.2 with
    | false=>rfl
    | true =>
    simp only [Bool.not_true,cond_false,Bool.true_and]
    refine tp_ a.2.2.2.2.2.1 k (Nat.le_of_lt hk) (fun _ z=>cond (z.1==y.1) (some (Sum.inr (Sum.inr (Sum.inr (false,()))):Unit⊕((Int×Unit)⊕(Unit⊕(Bool×Unit))))) none) (fun i=>((i:Int),())) (r0:=Sum.inl ()) (fun n z hn hz => ?_) ?_ ?_
    · simp only [dlt hn,cond_true,ag_ hz,Option.bind_some,ay_ (show Sm n by omega)]
      cases z.1==y.1 <;> rfl
    · simp only [dnl,cond_false]
    rw [hl_ (q:=fun z:ab_=>z.1==y.1)]
    cases (a.2.2.2.2.2.1.take k).any fun z=>z.1==y.1 <;> rfl
  · simp only [dnl,cond_false]
  rw [rw_]
  cases (gg_ (fun i x=>cond (qs_ r a.2.2.2.2.2.1 i x) none (some ())) 0 a.2.2.2.2.2.1).isNone <;> rfl
theorem push_take {α:Type} {nm:α→List UInt8} {l:List α} (hl:Sm l.length) {i:Nat} {x:α} (hx:l[i]?=some x):push? (α:=List UInt8) ((l.take i).map nm) [nm x]=some ((l.take (i+1)).map nm):=by
  have hi:=an_ hx
  unfold push?
  rw [if_pos (by
    simp only [List.length_map,List.length_take,List.length_singleton]
    omega)]
  rw [List.take_add_one,hx,List.map_append]
  rfl
theorem twN_map {α:Type} {nm:α→List UInt8} {l:List α} {i:Nat} {t:List UInt8}:twN id ((l.take (i+1)).map nm) i t=twN nm l i t:=by
  unfold twN
  rw [← List.map_take,List.take_take,Nat.min_eq_left (Nat.le_succ i),List.any_map]
  rfl
theorem map_at {α:Type} {nm:α→List UInt8} {l:List α} {i:Nat} {x:α} (hx:l[i]?=some x):((l.take (i+1)).map nm)[i]?=some (nm x):=by
  rw [List.getElem?_map,List.getElem?_take,if_pos (Nat.lt_succ_self i),hx]
  rfl
theorem qd_ {r:ad_} (h:SmR r):fs_ r=some (cz_ r,()):=by
  unfold fs_
  refine Eq.trans (congrArg (fun o=>Option.bind o _) (many_of r)) ?_
  rw [Option.bind_some]
  unfold cz_
  cases manyR r with
  | true=>rfl
  | false =>
  simp only [cond_false]
  cases he:(r.1.length:Int)==0 with
  | true =>
    have:r.1=[]:=by
      have:=beq_iff_eq.1 he
      exact List.eq_nil_of_length_eq_zero (by omega)
    rw [this]
    rfl
  | false =>
  simp only [cond_false]
  refine bu_ r.1 (fun i x=>kp_ (plOk r i x) 22) (fun i y hy => ?_) ?_ (er_ ?_)
  · have hi:=an_ hy
    simp only [dlt hi,cond_true,ag_ hy,Option.bind_some,ay_ (show Sm i from Nat.le_trans (Nat.le_of_lt hi) h.pl),kc_ (h.pln y (aw_ hy)),qc_ h.pl hy]
    unfold kp_ plOk frN
    cases okN y with
    | false=>rfl
    | true=>cases twN id r.1 i y <;> rfl
  · simp only [dnl,cond_false]
  refine zb_ r.2.1 (fun i x=>kp_ (thOk r i x) 21) (fun i=>(r.2.1.take i).map (·.1)) rfl (fun i y hy => ?_) ?_ (er_ ?_)
  · have hi:=an_ hy
    have hs:Sm ((r.2.1.take (i+1)).map (·.1)).length:=by
      rw [List.length_map,List.length_take]
      exact Nat.le_trans (Nat.min_le_right _ _) h.th
    simp only [dlt hi,cond_true,ag_ hy,Option.bind_some,ay_ (show Sm i from Nat.le_trans (Nat.le_of_lt hi) h.th),push_take h.th hy,kc_ (h.thn y (aw_ hy)),qc_ hs (map_at hy),twN_map,ia_,fm_]
    unfold kp_ thOk frN re_
    cases okN y.1 with
    | false=>rfl
    | true =>
    cases twN (·.1) r.2.1 i y.1 with
    | true=>rfl
    | false =>
    cases wi y.2.1 0 (w64 ((r.1.length:Int) - 1)) with
    | false=>rfl
    | true =>
    cases wi y.2.2.1 2 6 with
    | false=>rfl
    | true=>cases wi y.2.2.2 0 (w64 (y.2.2.1 - 1)) <;> rfl
  · simp only [dnl,cond_false]
  refine zb_ r.2.2.1 (fun i x=>rs_ (prOk r i x) 24 (cOk r.2.1 x.2.2) 25) (fun i=>(r.2.2.1.take i).map (·.1)) rfl (fun i y hy => ?_) ?_ (er_ ?_)
  · have hi:=an_ hy
    obtain ⟨s1,s2⟩:=h.prn y (aw_ hy)
    have hs:Sm ((r.2.2.1.take (i+1)).map (·.1)).length:=by
      rw [List.length_map,List.length_take]
      exact Nat.le_trans (Nat.min_le_right _ _) h.pr
    simp only [dlt hi,cond_true,ag_ hy,Option.bind_some,ay_ (show Sm i from Nat.le_trans (Nat.le_of_lt hi) h.pr),push_take h.pr hy,kc_ s1,qc_ hs (map_at hy),twN_map,ia_,hb_ h.th s2]
    unfold rs_ prOk frN re_
    cases okN y.1 with
    | false=>rfl
    | true =>
    cases twN (·.1) r.2.2.1 i y.1 with
    | true=>rfl
    | false =>
    have e:(y.2.1 != -1) = !(y.2.1==-1):=rfl
    rw [e]
    cases y.2.1==-1 with
    | true =>
      cases wi y.2.1 0 (w64 ((r.1.length:Int) - 1)) <;> cases cOk r.2.1 y.2.2 <;> rfl
    | false =>
      cases wi y.2.1 0 (w64 ((r.1.length:Int) - 1)) <;> cases cOk r.2.1 y.2.2 <;> rfl
  · simp only [dnl,cond_false]
  refine bu_ r.2.2.2.1 (fun i x=>rs_ (wyOk r x) 23 (cOk r.2.1 x.2.2) 25) (fun i y hy => ?_) ?_ (er_ ?_)
  · have hi:=an_ hy
    simp only [dlt hi,cond_true,ag_ hy,Option.bind_some,ay_ (show Sm i from Nat.le_trans (Nat.le_of_lt hi) h.wy),ia_,hb_ h.th (h.wyn y (aw_ hy))]
    unfold rs_ wyOk re_
    cases wi y.1 0 (w64 ((r.1.length:Int) - 1)) with
    | false=>rfl
    | true =>
    cases wi y.2.1 0 (w64 ((r.1.length:Int) - 1)) with
    | false=>rfl
    | true=>cases y.1==y.2.1 <;> cases cOk r.2.1 y.2.2 <;> rfl
  · simp only [dnl,cond_false]
  refine bu_ r.2.2.2.2.1 (fun i x=>rs_ (ub_ r i x) 26 (cOk r.2.1 x.2.2.2.2.1) 25) (fun i y hy => ?_) ?_ (er_ ?_)
  · have hi:=an_ hy
    simp only [dlt hi,cond_true,ag_ hy,Option.bind_some,ay_ (show Sm i from Nat.le_trans (Nat.le_of_lt hi) h.ac),ref02_act h hy,hb_ h.th (h.acn y (aw_ hy)).2.2.1]
    unfold rs_
    cases ub_ r i y with
    | false=>rfl
    | true=>cases cOk r.2.1 y.2.2.2.2.1 <;> rfl
  · simp only [dnl,cond_false]
  refine bu_ r.2.2.2.2.2.1 (fun i x=>rs_ (nk_ r.2.1 x.2.1 x.2.2) 27 (cOk r.2.1 x.1) 25) (fun i y hy => ?_) ?_ (er_ ?_)
  · have hi:=an_ hy
    simp only [dlt hi,cond_true,ag_ hy,Option.bind_some,ay_ (show Sm i from Nat.le_trans (Nat.le_of_lt hi) h.au),qw_ h.th,hb_ h.th (h.aun y (aw_ hy))]
    unfold rs_
    cases nk_ r.2.1 y.2.1 y.2.2 with
    | false=>rfl
    | true=>cases cOk r.2.1 y.1 <;> rfl
  · simp only [dnl,cond_false]
  rw [fm_,Option.bind_some,hb_ h.th h.go,Option.bind_some]
  cases wi r.2.2.2.2.2.2.1 1 4 with
  | false=>rfl
  | true=>cases cOk r.2.1 r.2.2.2.2.2.2.2 <;> rfl
end
section
theorem jh_ {α τ:Type} (l:List α) (hl:Sm l.length) (q:α→Bool) {body:(Int×Unit)→Option ((Int×Unit)⊕(Unit⊕(Bool×Unit)))} {K:(Unit⊕(Bool×Unit))→Option τ} {x:Option τ}
    (h:∀ (i:Nat) y,l[i]?=some y→body ((i:Int),())=some (cond (q y) (.inr (.inr (true,()))) (.inl (w64 ((i:Int)+1),())))) (e:body ((l.length:Int),())=some (.inr (.inl ()))) (hx:K (cond (l.any q) (.inr (true,())) (.inl ()))=x) :
    (ae_ body (0,())).bind K=x:=by
  refine bn_ l (fun i y=>cond (q y) (some (Sum.inr (true,()):Unit⊕(Bool×Unit))) none) (fun i=>((i:Int),())) (r0:=Sum.inl ()) (fun i y hy => ?_) e ?_
  · have hi:=an_ hy
    rw [h i y hy,ay_ (show Sm i by omega)]
    cases q y <;> rfl
  · rw [hl_ (q:=q)]
    cases hq:l.any q <;> rw [hq] at hx <;> exact hx
theorem hv_ {α:Type} {l:List α} {q:α→Bool} (h:l.any q=false):∀ x ∈ l,q x=false:=by
  intro x hx
  cases hq:q x with
  | false=>rfl
  | true=>rw [List.any_eq_true.2 ⟨x,hx,hq⟩] at h; cases h
theorem nlt {n:Nat} {k:Int} (h:decide (k<(n:Int))=false) (hk:k≤1000000000):Sm n:=by
  have:=of_decide_eq_false h
  omega
def manyF (r:ad_):Bool:=decide (12<(r.1.length:Int))||(decide (15<(r.2.1.length:Int))||(decide (14<(r.2.2.1.length:Int))||(decide (20<(r.2.2.2.1.length:Int))||(decide (30<(r.2.2.2.2.1.length:Int))||(decide (15<(r.2.2.2.2.2.1.length:Int))||decide (20<(r.2.2.2.2.2.2.2.length:Int)))))))
theorem manyF_of (r:ad_):(cond (decide (12<(r.1.length:Int)))
 (some (true,()))
 (cond (decide (15<(r.2.1.length:Int)))
 (some (true,()))
 (cond (decide (14<(r.2.2.1.length:Int)))
 (some (true,()))
 (cond (decide (20<(r.2.2.2.1.length:Int)))
 (some (true,()))
 (cond (decide (30<(r.2.2.2.2.1.length:Int)))
 (some (true,()))
 (cond (decide (15<(r.2.2.2.2.2.1.length:Int)))
 (some (true,()))
 (some ((decide (20<(r.2.2.2.2.2.2.2.length:Int))),()))))))))=some (manyF r,()):=by
  unfold manyF
  cases decide (12<(r.1.length:Int)) with
  | true=>rfl
  | false =>
  cases decide (15<(r.2.1.length:Int)) with
  | true=>rfl
  | false =>
  cases decide (14<(r.2.2.1.length:Int)) with
  | true=>rfl
  | false =>
  cases decide (20<(r.2.2.2.1.length:Int)) with
  | true=>rfl
  | false =>
  cases decide (30<(r.2.2.2.2.1.length:Int)) with
  | true=>rfl
  | false =>
  cases decide (15<(r.2.2.2.2.2.1.length:Int)) with
  | true=>rfl
  | false=>rfl
theorem law02_Far (r:ad_):∃ b,na_ r=some (b,())∧(b=false→SmR r∧r.2.1.length≤15∧r.2.2.2.2.2.2.2.length≤20∧r.2.2.2.2.1.length≤30):=by
  unfold na_
  have e0:=manyF_of r
  cases hm:manyF r with
  | true =>
    rw [hm] at e0
    exact ⟨true,Eq.trans (congrArg (fun o=>Option.bind o _) e0) rfl,fun h=>by cases h⟩
  | false =>
  rw [hm] at e0
  unfold manyF at hm
  simp only [Bool.or_eq_false_iff] at hm
  obtain ⟨h1,h2,h3,h4,h5,h6,h7⟩:=hm
  have l1:=nlt h1 (by decide)
  have l2:=nlt h2 (by decide)
  have l3:=nlt h3 (by decide)
  have l4:=nlt h4 (by decide)
  have l5:=nlt h5 (by decide)
  have l6:=nlt h6 (by decide)
  have l7:=nlt h7 (by decide)
  have b2:=of_decide_eq_false h2
  have b5:=of_decide_eq_false h5
  have b7:=of_decide_eq_false h7
  let qa:cg_→Bool:=fun y=>decide (100<(y.1.length:Int))||(decide (20<(y.2.2.2.2.1.length:Int))||(decide (20<(y.2.2.2.1.length:Int))||(decide (20<(y.2.2.2.2.2.1.length:Int))||(decide (20<(y.2.2.2.2.2.2.1.length:Int))||decide (20<(y.2.2.2.2.2.2.2.length:Int))))))
  let b1:=r.1.any fun x=>decide (100<(x.length:Int))
  let bt:=r.2.1.any fun x=>decide (100<(x.1.length:Int))
  let bp:=r.2.2.1.any fun x=>decide (100<(x.1.length:Int))||decide (20<(x.2.2.length:Int))
  let bw:=r.2.2.2.1.any fun x=>decide (20<(x.2.2.length:Int))
  let ba:=r.2.2.2.2.1.any qa
  let bo:=r.2.2.2.2.2.1.any fun x=>decide (20<(x.1.length:Int))
  refine ⟨b1||(bt||(bp||(bw||(ba||bo)))),?_,?_⟩
  · refine Eq.trans (congrArg (fun o=>Option.bind o _) e0) ?_
    rw [Option.bind_some]
    simp only [cond_false]
    refine jh_ r.1 l1 (fun x=>decide (100<(x.length:Int))) (fun i y hy => ?_) ?_ ?_
    · simp only [dlt (an_ hy),cond_true,ag_ hy,Option.bind_some]
      cases decide (100<(y.length:Int)) <;> rfl
    · simp only [dnl,cond_false]
    show bv_ (cond b1 _ _) _ _=_
    cases b1 with
    | true=>rfl
    | false =>
    refine jh_ r.2.1 l2 (fun x=>decide (100<(x.1.length:Int))) (fun i y hy => ?_) ?_ ?_
    · simp only [dlt (an_ hy),cond_true,ag_ hy,Option.bind_some]
      cases decide (100<(y.1.length:Int)) <;> rfl
    · simp only [dnl,cond_false]
    show bv_ (cond bt _ _) _ _=_
    cases bt with
    | true=>rfl
    | false =>
    refine jh_ r.2.2.1 l3 (fun x=>decide (100<(x.1.length:Int))||decide (20<(x.2.2.length:Int))) (fun i y hy => ?_) ?_ ?_
    · simp only [dlt (an_ hy),cond_true,ag_ hy,Option.bind_some]
      cases decide (100<(y.1.length:Int)) with
      | true=>rfl
      | false=>cases decide (20<(y.2.2.length:Int)) <;> rfl
    · simp only [dnl,cond_false]
    show bv_ (cond bp _ _) _ _=_
    cases bp with
    | true=>rfl
    | false =>
    refine jh_ r.2.2.2.1 l4 (fun x=>decide (20<(x.2.2.length:Int))) (fun i y hy => ?_) ?_ ?_
    · simp only [dlt (an_ hy),cond_true,ag_ hy,Option.bind_some]
      cases decide (20<(y.2.2.length:Int)) <;> rfl
    · simp only [dnl,cond_false]
    show bv_ (cond bw _ _) _ _=_
    cases bw with
    | true=>rfl
    | false =>
    refine jh_ r.2.2.2.2.1 l5 qa (fun i y hy => ?_) ?_ ?_
    · simp only [dlt (an_ hy),cond_true,ag_ hy,Option.bind_some,qa]
      cases decide (100<(y.1.length:Int)) with
      | true=>rfl
      | false =>
      cases decide (20<(y.2.2.2.2.1.length:Int)) with
      | true=>rfl
      | false =>
      cases decide (20<(y.2.2.2.1.length:Int)) with
      | true=>rfl
      | false =>
      cases decide (20<(y.2.2.2.2.2.1.length:Int)) with
      | true=>rfl
      | false =>
      cases decide (20<(y.2.2.2.2.2.2.1.length:Int)) with
      | true=>rfl
      | false=>cases decide (20<(y.2.2.2.2.2.2.2.length:Int)) <;> rfl
    · simp only [dnl,cond_false]
    show bv_ (cond ba _ _) _ _=_
    cases ba with
    | true=>rfl
    | false =>
    refine jh_ r.2.2.2.2.2.1 l6 (fun x=>decide (20<(x.1.length:Int))) (fun i y hy => ?_) ?_ ?_
    · simp only [dlt (an_ hy),cond_true,ag_ hy,Option.bind_some]
      cases decide (20<(y.1.length:Int)) <;> rfl
    · simp only [dnl,cond_false]
    show bv_ (cond bo _ _) _ _=_
    cases bo <;> rfl
  · intro hb
    simp only [Bool.or_eq_false_iff] at hb
    obtain ⟨g1,g2,g3,g4,g5,g6⟩:=hb
    refine ⟨⟨l1,l2,l3,l4,l5,l6,l7,fun x hx=>nlt (hv_ g1 x hx) (by decide),fun x hx=>nlt (hv_ g2 x hx) (by decide),fun x hx => ?_,fun x hx=>nlt (hv_ g4 x hx) (by decide),fun x hx => ?_,fun x hx=>nlt (hv_ g6 x hx) (by decide)⟩,by omega,by omega,by omega⟩
    · have:=hv_ g3 x hx
      simp only [Bool.or_eq_false_iff] at this
      exact ⟨nlt this.1 (by decide),nlt this.2 (by decide)⟩
    · have:=hv_ g5 x hx
      simp only [qa,Bool.or_eq_false_iff] at this
      obtain ⟨a1,a2,a3,a4,a5,a6⟩:=this
      exact ⟨nlt a1 (by decide),nlt a3 (by decide),nlt a2 (by decide),nlt a4 (by decide),nlt a5 (by decide),nlt a6 (by decide)⟩
structure SmG (g:ac_):Prop where
  room:SmR g.1
  th:g.1.2.1.length≤15
  go:g.1.2.2.2.2.2.2.2.length≤20
  ac:g.1.2.2.2.2.1.length≤30
  lk:g.2.1.length≤10
  cd:g.2.2.1.length≤10
  nt:g.2.2.2.1.length≤20
  lkn:∀ x ∈ g.2.1,¬ (3<x.1∧5<x.2)
  cdn:∀ x ∈ g.2.2.1,x.length≤10
  ntn:∀ x ∈ g.2.2.2.1,x.1.length≤100∧x.2.2.2.1.length≤20∧x.2.2.2.2.2.2.2.2.2.1.length≤10
theorem law04_Far (g:ac_):∃ b,kn_ g=some (b,())∧(b=false→SmG g):=by
  unfold kn_
  obtain ⟨b0,e0,h0⟩:=law02_Far g.1
  rw [e0]
  simp only [Option.bind_some]
  cases b0 with
  | true=>exact ⟨true,rfl,fun h=>by cases h⟩
  | false =>
  obtain ⟨r1,r2,r3,r4⟩:=h0 rfl
  cases h1:decide (10<(g.2.1.length:Int)) with
  | true=>exact ⟨true,rfl,fun h=>by cases h⟩
  | false =>
  cases h2:decide (10<(g.2.2.1.length:Int)) with
  | true=>exact ⟨true,rfl,fun h=>by cases h⟩
  | false =>
  cases h3:decide (20<(g.2.2.2.1.length:Int)) with
  | true=>exact ⟨true,rfl,fun h=>by cases h⟩
  | false =>
  have l1:=nlt h1 (by decide)
  have l2:=nlt h2 (by decide)
  have l3:=nlt h3 (by decide)
  let ql:ab_→Bool:=fun y=>decide (3<y.1)&&decide (5<y.2)
  let qn:cc_→Bool:=fun y=>decide (100<(y.1.length:Int))||(decide (20<(y.2.2.2.1.length:Int))||decide (10<(y.2.2.2.2.2.2.2.2.2.1.length:Int)))
  let b1:=g.2.1.any ql
  let b2:=g.2.2.1.any fun x=>decide (10<(x.length:Int))
  let b3:=g.2.2.2.1.any qn
  refine ⟨b1||(b2||b3),?_,?_⟩
  · simp only [Option.bind_some,cond_false]
    refine jh_ g.2.1 l1 ql (fun i y hy => ?_) ?_ ?_
    · simp only [dlt (an_ hy),cond_true,ag_ hy,Option.bind_some,ql]
      cases decide (3<y.1) with
      | false=>rfl
      | true=>cases decide (5<y.2) <;> rfl
    · simp only [dnl,cond_false]
    show bv_ (cond b1 _ _) _ _=_
    cases b1 with
    | true=>rfl
    | false =>
    refine jh_ g.2.2.1 l2 (fun x=>decide (10<(x.length:Int))) (fun i y hy => ?_) ?_ ?_
    · simp only [dlt (an_ hy),cond_true,ag_ hy,Option.bind_some]
      cases decide (10<(y.length:Int)) <;> rfl
    · simp only [dnl,cond_false]
    show bv_ (cond b2 _ _) _ _=_
    cases b2 with
    | true=>rfl
    | false =>
    refine jh_ g.2.2.2.1 l3 qn (fun i y hy => ?_) ?_ ?_
    · simp only [dlt (an_ hy),cond_true,ag_ hy,Option.bind_some,qn]
      cases decide (100<(y.1.length:Int)) with
      | true=>rfl
      | false =>
      cases decide (20<(y.2.2.2.1.length:Int)) with
      | true=>rfl
      | false=>cases decide (10<(y.2.2.2.2.2.2.2.2.2.1.length:Int)) <;> rfl
    · simp only [dnl,cond_false]
    show bv_ (cond b3 _ _) _ _=_
    cases b3 <;> rfl
  · intro hb
    simp only [Bool.or_eq_false_iff] at hb
    obtain ⟨g1,g2,g3⟩:=hb
    have c1:=of_decide_eq_false h1
    have c2:=of_decide_eq_false h2
    have c3:=of_decide_eq_false h3
    refine ⟨r1,r2,r3,r4,by omega,by omega,by omega,fun x hx => ?_,fun x hx => ?_,fun x hx => ?_⟩
    · have:=hv_ g1 x hx
      intro hc
      simp only [ql,decide_eq_true hc.1,decide_eq_true hc.2] at this
      cases this
    · have:=of_decide_eq_false (hv_ g2 x hx)
      omega
    · have:=hv_ g3 x hx
      simp only [qn,Bool.or_eq_false_iff] at this
      have d1:=of_decide_eq_false this.1
      have d2:=of_decide_eq_false this.2.1
      have d3:=of_decide_eq_false this.2.2
      omega
end
end Go.Proofs.YtfcgcpjnpdkjmaaGreatDoor.Rx
namespace Go.Proofs.YtfcgcpjnpdkjmaaGreatDoor.Rx
open Go Pad Rex Go.Proofs
section
set_option maxRecDepth 100000
set_option maxHeartbeats 0
def an_40:An:=(.p .z (.p .z (.p .z (.p (.j0 [.v 24 .bool] .z .z) (.p (.p .z (.ls [.v 4 .int] [] [] 0 .z)) (.p .z (.p (.p .z (.ls [.v 6 .int] [] [] 2 (.p .z (.p (.p (.q [] .z .z) .z) .z)))) (.p (.p .z (.ls [.v 7 .int] [] [] 4 (.p .z (.p (.p (.q [] .z .z) .z) .z)))) (.p (.p .z (.ls [.v 8 .int] [] [] 6 (.p .z (.p (.p .z (.p (.q [] .z .z) .z)) .z)))) .z)))))))))
noncomputable def cs_40:List (Con Tryz.prog):=[c_85,c_86,c_87,c_88,c_89,c_90]
noncomputable def cl_40:List (Cpy Tryz.prog):=[]
noncomputable def cx_40:Cx Tryz.prog:=cxC cs_40 cl_40
noncomputable def hp_ (a0:ac_):Option (Int×Unit) :=
 ((fs_ a0.1).bind fun v0 =>
 (cond (v0.1 != 0)
 (some (v0.1,()))
 (((cond (decide (8<(a0.2.1.length:Int)))
 (some (true,()))
 (some ((decide (16<(a0.2.2.2.1.length:Int))),())))).bind fun v1 =>
 (cond v1.1
 (some (2,()))
 ((ae_ (ρ:=(Unit⊕(Int×Unit))) (fun (v2:(Int×Unit)) =>
 (cond (decide (v2.1<(a0.2.1.length:Int)))
 ((at? a0.2.1 v2.1).bind fun v3 =>
 ((ek_ v3).bind fun v4 =>
 (cond (v4.1 != 0)
 (some (Sum.inr (Sum.inr (v4.1,()))))
 (some (Sum.inl ((w64 (v2.1+1)),()))))))
 (some (Sum.inr (Sum.inl ()))))) (0,())).bind fun v5 =>
 (bv_ v5 (fun v6=>(cond ((a0.2.2.1.length:Int) != (a0.2.1.length:Int))
 (some (12,()))
 ((ae_ (ρ:=(Unit⊕(Int×Unit))) (fun (v8:(Int×Unit)) =>
 (cond (decide (v8.1<(a0.2.2.1.length:Int)))
 ((at? a0.2.1 v8.1).bind fun v9 =>
 ((at? a0.2.2.1 v8.1).bind fun v10 =>
 ((ft_ v9 v10).bind fun v11 =>
 (cond (v11.1 != 0)
 (some (Sum.inr (Sum.inr (12,()))))
 (some (Sum.inl ((w64 (v8.1+1)),())))))))
 (some (Sum.inr (Sum.inl ()))))) (0,())).bind fun v12 =>
 (bv_ v12 (fun v13=>((ae_ (ρ:=(Unit⊕(Int×Unit))) (fun (v15:(Int×Unit)) =>
 (cond (decide (v15.1<(a0.1.2.2.2.2.1.length:Int)))
 ((at? a0.1.2.2.2.2.1 v15.1).bind fun v16 =>
 (cond (decide ((a0.2.1.length:Int)≤v16.2.2.1))
 (some (Sum.inr (Sum.inr (26,()))))
 (some (Sum.inl ((w64 (v15.1+1)),())))))
 (some (Sum.inr (Sum.inl ()))))) (0,())).bind fun v17 =>
 (bv_ v17 (fun v18=>((ae_ (ρ:=(Unit⊕(Int×Unit))) (fun (v20:(Int×Unit)) =>
 (cond (decide (v20.1<(a0.2.2.2.1.length:Int)))
 ((ji_ a0 v20.1).bind fun v21 =>
 (cond (!v21.1)
 (some (Sum.inr (Sum.inr (40,()))))
 ((at? a0.2.2.2.1 v20.1).bind fun v22 =>
 ((ct_ a0.1 v22.2.2.2.1).bind fun v23 =>
 (cond (!v23.1)
 (some (Sum.inr (Sum.inr (25,()))))
 (some (Sum.inl ((w64 (v20.1+1)),()))))))))
 (some (Sum.inr (Sum.inl ()))))) (0,())).bind fun v24 =>
 (bv_ v24 (fun v25=>((iq_ a0.2.2.2.2 1 100).bind fun v27 =>
 (cond (!v27.1)
 (some (1,()))
 (some (0,())))))
 (fun v26=>(some v26)))))
 (fun v19=>(some v19)))))
 (fun v14=>(some v14))))))
 (fun v7=>(some v7))))))))
theorem x_40:au_ cx_40 an_40 40 [am_] [.int]=fun x=>hp_ x.1:=by kernel_rfl
noncomputable def c_40:Con Tryz.prog:=av_ _ _ 40 [am_] [.int] _ x_40
def an_41:An:=(.p .z (.p .z (.p .z (.p (.j0 [.v 38 .bool] .z .z) (.p (.p .z (.ls [.v 6 .int] [] [] 0 (.p .z (.p (.p (.q [] .z .z) .z) .z)))) (.p (.p .z (.ls [.v 7 .int] [] [] 2 (.p .z (.p (.p .z (.j0 [.v 83 .bool] .z .z)) .z)))) (.p (.p .z (.ls [.v 9 .int] [] [] 4 (.p .z (.p (.p (.q [] .z .z) .z) .z)))) .z)))))))
noncomputable def cs_41:List (Con Tryz.prog):=[c_85,c_91,c_92,c_93]
noncomputable def cl_41:List (Cpy Tryz.prog):=[]
noncomputable def cx_41:Cx Tryz.prog:=cxC cs_41 cl_41
noncomputable def ev_ (a0:ad_) (a1:ah_):Option (Int×Unit) :=
 ((fs_ a0).bind fun v0 =>
 (cond (v0.1 != 0)
 (some (v0.1,()))
 (((cond ((a1.1.length:Int) != (a0.2.1.length:Int))
 (some (true,()))
 (cond ((a1.2.1.length:Int) != (a0.2.2.1.length:Int))
 (some (true,()))
 (some (((a1.2.2.length:Int) != a0.2.2.2.2.2.2.1),()))))).bind fun v1 =>
 (cond v1.1
 (some (28,()))
 ((ae_ (ρ:=(Unit⊕(Int×Unit))) (fun (v2:(Int×Unit)) =>
 (cond (decide (v2.1<(a1.1.length:Int)))
 ((at? a1.1 v2.1).bind fun v3 =>
 ((gx_ a0 v2.1 v3).bind fun v4 =>
 (cond (!v4.1)
 (some (Sum.inr (Sum.inr (28,()))))
 (some (Sum.inl ((w64 (v2.1+1)),()))))))
 (some (Sum.inr (Sum.inl ()))))) (0,())).bind fun v5 =>
 (bv_ v5 (fun v6=>((ae_ (ρ:=(Unit⊕(Int×Unit))) (fun (v8:(Int×Unit)) =>
 (cond (decide (v8.1<(a1.2.1.length:Int)))
 ((at? a1.2.1 v8.1).bind fun v9 =>
 ((((cs_ a0 v9).bind fun v10 =>
 (cond (!v10.1)
 (cond (v9 != (-1))
 ((bq_ v9 (w64 ((w64 ((-2) - a0.2.2.2.2.2.2.1))+1)) (-2)).bind fun v11 =>
 (some ((!v11.1),())))
 (some (false,())))
 (some (false,()))))).bind fun v12 =>
 (cond v12.1
 (some (Sum.inr (Sum.inr (28,()))))
 (some (Sum.inl ((w64 (v8.1+1)),()))))))
 (some (Sum.inr (Sum.inl ()))))) (0,())).bind fun v13 =>
 (bv_ v13 (fun v14=>((ae_ (ρ:=(Unit⊕(Int×Unit))) (fun (v16:(Int×Unit)) =>
 (cond (decide (v16.1<(a1.2.2.length:Int)))
 ((at? a1.2.2 v16.1).bind fun v17 =>
 ((cs_ a0 v17).bind fun v18 =>
 (cond (!v18.1)
 (some (Sum.inr (Sum.inr (28,()))))
 (some (Sum.inl ((w64 (v16.1+1)),()))))))
 (some (Sum.inr (Sum.inl ()))))) (0,())).bind fun v19 =>
 (bv_ v19 (fun v20=>(some (0,())))
 (fun v21=>(some v21)))))
 (fun v15=>(some v15)))))
 (fun v7=>(some v7))))))))
theorem x_41:au_ cx_41 an_41 41 [ao_,aq_] [.int]=fun x=>ev_ x.1 x.2.1:=by kernel_rfl
noncomputable def c_41:Con Tryz.prog:=av_ _ _ 41 [ao_,aq_] [.int] _ x_41
def an_282:An:=.z
noncomputable def cs_282:List (Con Tryz.prog):=[c_293,c_294]
noncomputable def cl_282:List (Cpy Tryz.prog):=[]
noncomputable def cx_282:Cx Tryz.prog:=cxC cs_282 cl_282
noncomputable def jp_ (a0:ab_) (a1:(List ak_)):Option (Int×Int×Unit) :=
 ((ew_ a0 a1).bind fun v0 =>
 (cond (v0.1 != 0)
 (some (0,(v0.1,())))
 ((my_ a0 a1).bind fun v1 =>
 (some ((v1.1.length:Int),(0,()))))))
theorem x_282:au_ cx_282 an_282 282 [al_,(.list ap_)] [.int,.int]=fun x=>jp_ x.1 x.2.1:=by kernel_rfl
noncomputable def c_282:Con Tryz.prog:=av_ _ _ 282 [al_,(.list ap_)] [.int,.int] _ x_282
def an_156:An:=.z
noncomputable def cs_156:List (Con Tryz.prog):=[c_76,c_222,c_223]
noncomputable def cl_156:List (Cpy Tryz.prog):=[]
noncomputable def cx_156:Cx Tryz.prog:=cxC cs_156 cl_156
noncomputable def jr_ (a0:ab_) (a1:ak_) (a2:(List Int)):Option (Bool×Int×Unit) :=
 ((fz_ a0 a1).bind fun v0 =>
 (cond (v0.1 != 0)
 (some (false,(v0.1,())))
 ((ef_ a0 a2).bind fun v1 =>
 (cond (v1.1 != 0)
 (some (false,(v1.1,())))
 ((fx_ a1 a2).bind fun v2 =>
 (some (v2.1,(0,()))))))))
theorem x_156:au_ cx_156 an_156 156 [al_,ap_,(.list .int)] [.bool,.int]=fun x=>jr_ x.1 x.2.1 x.2.2.1:=by kernel_rfl
noncomputable def c_156:Con Tryz.prog:=av_ _ _ 156 [al_,ap_,(.list .int)] [.bool,.int] _ x_156
def an_37:An:=(.p .z (.p .z (.p .z (.p (.p .z (.lp [.v 23 .int] [] [.b (.s 5) [.row .int 3,.keep,.keep]] 0 .z)) (.p (.p .z (.lp [.v 38 .int] [] [.b (.s 5) [.keep,.row .int 3,.keep]] 2 .z)) .z)))))
def at_37:FuncId→An:=fun k=>cond (Nat.beq k 81) (.p .z (.p (.j0 [.v 6 .bool,.o (.c (.s 0) 8) .int] .z .z) .z)) (cond (Nat.beq k 159) (.p .z (.p (.p .z (.ls [.v 4 .int] [] [.o (.c (.s 0) 8) .int] 0 (.p .z (.p .z (.p (.j0 [.v 3 .int] .z .z) .z))))) .z)) (cond (Nat.beq k 225) (.p .z (.p (.p .z (.ls [.v 8 .int] [] [] 0 .z)) .z)) (cond (Nat.beq k 226) (.p .z (.j0 [.v 3 .bool] .z .z)) (.z))))
noncomputable def cs_37:List (Con Tryz.prog):=[c_74,c_161]
noncomputable def cl_37:List (Cpy Tryz.prog):=[cp_34]
noncomputable def cx_37:Cx Tryz.prog:=cxI at_37 (fun k=>Nat.beq k 34||Nat.beq k 74||Nat.beq k 161||false) (cxC cs_37 cl_37) 6
noncomputable def io_ (a0:ad_):Option (ah_×Int×Unit) :=
 ((fh_ a0).bind fun v0 =>
 (cond (v0.1 != 0)
 (some (([],([],[])),(v0.1,())))
 ((mk? (α:=Int) a0.2.2.2.2.2.2.1 0).bind fun v1 =>
 ((ae_ (ρ:=(((List Int)×Unit)×Unit)) (fun (v2:(Int×(((List Int)×Unit)×Unit))) =>
 (cond (decide (v2.1<(a0.2.1.length:Int)))
 ((at? a0.2.1 v2.1).bind fun v3 =>
 ((push? (α:=Int) v2.2.1.1 [v3.2.2.2]).bind fun v4 =>
 (some (Sum.inl ((w64 (v2.1+1)),((v4,()),()))))))
 (some (Sum.inr ((v2.2.1.1,()),()))))) (0,(([],()),()))).bind fun v5 =>
 ((ae_ (ρ:=(((List Int)×Unit)×Unit)) (fun (v6:(Int×(((List Int)×Unit)×Unit))) =>
 (cond (decide (v6.1<(a0.2.2.1.length:Int)))
 ((at? a0.2.2.1 v6.1).bind fun v7 =>
 ((push? (α:=Int) v6.2.1.1 [v7.2.1]).bind fun v8 =>
 (some (Sum.inl ((w64 (v6.1+1)),((v8,()),()))))))
 (some (Sum.inr ((v6.2.1.1,()),()))))) (0,(([],()),()))).bind fun v9 =>
 ((push? (α:=Int) [] v5.1.1).bind fun v10 =>
 ((push? (α:=Int) [] v9.1.1).bind fun v11 =>
 ((push? (α:=Int) [] v1).bind fun v12 =>
 ((((ae_ (ρ:=(((List Int)×Unit)⊕(Bool×((List Int)×Unit)))) (fun (v13:(Int×((List Int)×Unit))) =>
 (cond (decide (v13.1<101))
 ((((ae_ (ρ:=(Unit⊕(Int×Unit))) (fun (v14:(Int×Unit)) =>
 (cond (decide (v14.1<(a0.2.2.2.2.2.1.length:Int)))
 ((at? a0.2.2.2.2.2.1 v14.1).bind fun v15 =>
 ((((at? v13.2.1 v15.2.1).bind fun v16 =>
 ((at? v13.2.1 v15.2.1).bind fun v17 =>
 (cond (v17 != v15.2.2)
 ((bb_ (a0,(v13.2.1,(v11,v12))) v15.1).bind fun v18 =>
 (some (v18.1,())))
 (some (false,())))))).bind fun v19 =>
 (cond v19.1
 (some (Sum.inr (Sum.inr (v14.1,()))))
 (some (Sum.inl ((w64 (v14.1+1)),()))))))
 (some (Sum.inr (Sum.inl ()))))) (0,())).bind fun v20 =>
 (bv_ v20 (fun v21=>(some ((-1),())))
 (fun v22=>(some v22))))).bind fun v23 =>
 (cond (decide (v23.1<0))
 (some (Sum.inr (Sum.inr ((!true),(v13.2.1,())))))
 ((at? a0.2.2.2.2.2.1 v23.1).bind fun v24 =>
 ((at? a0.2.2.2.2.2.1 v23.1).bind fun v25 =>
 ((at? v13.2.1 v24.2.1).bind fun v26 =>
 ((at? v13.2.1 v24.2.1).bind fun v27 =>
 (some (Sum.inl ((w64 (v13.1+1)),((v13.2.1.set v24.2.1.toNat v25.2.2),()))))))))))
 (some (Sum.inr (Sum.inl (v13.2.1,())))))) (0,(v10,()))).bind fun v28 =>
 (bv_ v28 (fun v29=>(some ((!false),(v29.1,()))))
 (fun v30=>(some v30))))).bind fun v31 =>
 (cond v31.1
 (some (([],([],[])),(27,())))
 (some ((v31.2.1,(v11,v12)),(0,())))))))))))))
theorem x_37:au_ cx_37 an_37 37 [ao_] [aq_,.int]=fun x=>io_ x.1:=by kernel_rfl
noncomputable def c_37:Con Tryz.prog:=av_ _ _ 37 [ao_] [aq_,.int] _ x_37
def an_160:An:=(.p .z (.p .z (.p (.j0 [.v 40 .bool] .z .z) (.p (.p .z (.ls [.v 44 .int] [] [] 0 .z)) (.p (.p .z (.ls [.v 58 .int] [] [] 2 .z)) (.p (.p .z (.ls [.v 77 .int] [] [] 4 .z)) .z))))))
noncomputable def cs_160:List (Con Tryz.prog):=[c_74,c_140,c_149]
noncomputable def cl_160:List (Cpy Tryz.prog):=[]
noncomputable def cx_160:Cx Tryz.prog:=cxC cs_160 cl_160
noncomputable def bz_ (a0:ad_) (a1:ah_):Option (Int×Unit) :=
 ((fh_ a0).bind fun v0 =>
 (cond (v0.1 != 0)
 (some (v0.1,()))
 (((cond ((a1.1.length:Int) != (a0.2.1.length:Int))
 (some (true,()))
 (cond ((a1.2.1.length:Int) != (a0.2.2.1.length:Int))
 (some (true,()))
 (some (((a1.2.2.length:Int) != a0.2.2.2.2.2.2.1),()))))).bind fun v1 =>
 (cond v1.1
 (some (28,()))
 ((ae_ (ρ:=(Unit⊕(Int×Unit))) (fun (v2:(Int×Unit)) =>
 (cond (decide (v2.1<(a1.1.length:Int)))
 ((at? a1.1 v2.1).bind fun v3 =>
 ((fd_ a0 v2.1 v3).bind fun v4 =>
 (cond (!v4.1)
 (some (Sum.inr (Sum.inr (28,()))))
 (some (Sum.inl ((w64 (v2.1+1)),()))))))
 (some (Sum.inr (Sum.inl ()))))) (0,())).bind fun v5 =>
 (bv_ v5 (fun v6=>((ae_ (ρ:=(Unit⊕(Int×Unit))) (fun (v8:(Int×Unit)) =>
 (cond (decide (v8.1<(a1.2.1.length:Int)))
 ((at? a1.2.1 v8.1).bind fun v9 =>
 ((bc_ v9 (w64 ((w64 ((-2) - a0.2.2.2.2.2.2.1))+1)) (w64 ((a0.1.length:Int) - 1))).bind fun v10 =>
 (cond (!v10.1)
 (some (Sum.inr (Sum.inr (28,()))))
 (some (Sum.inl ((w64 (v8.1+1)),()))))))
 (some (Sum.inr (Sum.inl ()))))) (0,())).bind fun v11 =>
 (bv_ v11 (fun v12=>((ae_ (ρ:=(Unit⊕(Int×Unit))) (fun (v14:(Int×Unit)) =>
 (cond (decide (v14.1<(a1.2.2.length:Int)))
 ((at? a1.2.2 v14.1).bind fun v15 =>
 ((bc_ v15 0 (w64 ((a0.1.length:Int) - 1))).bind fun v16 =>
 (cond (!v16.1)
 (some (Sum.inr (Sum.inr (28,()))))
 (some (Sum.inl ((w64 (v14.1+1)),()))))))
 (some (Sum.inr (Sum.inl ()))))) (0,())).bind fun v17 =>
 (bv_ v17 (fun v18=>(some (0,())))
 (fun v19=>(some v19)))))
 (fun v13=>(some v13)))))
 (fun v7=>(some v7))))))))
theorem x_160:au_ cx_160 an_160 160 [ao_,aq_] [.int]=fun x=>bz_ x.1 x.2.1:=by kernel_rfl
noncomputable def c_160:Con Tryz.prog:=av_ _ _ 160 [ao_,aq_] [.int] _ x_160
def an_29:An:=.z
noncomputable def cs_29:List (Con Tryz.prog):=[c_68,c_69]
noncomputable def cl_29:List (Cpy Tryz.prog):=[]
noncomputable def cx_29:Cx Tryz.prog:=cxC cs_29 cl_29
noncomputable def dc_ (a0:ab_) (a1:(List ak_)):Option (Int×Int×Unit) :=
 ((ey_ a0 a1).bind fun v0 =>
 (cond (v0.1 != 0)
 (some (0,(v0.1,())))
 ((ex_ a0 a1).bind fun v1 =>
 (some (v1.1,(0,()))))))
theorem x_29:au_ cx_29 an_29 29 [al_,(.list ap_)] [.int,.int]=fun x=>dc_ x.1 x.2.1:=by kernel_rfl
noncomputable def c_29:Con Tryz.prog:=av_ _ _ 29 [al_,(.list ap_)] [.int,.int] _ x_29
end
end Go.Proofs.YtfcgcpjnpdkjmaaGreatDoor.Rx
namespace Go.Proofs.YtfcgcpjnpdkjmaaGreatDoor.Rx
open Go Pad Rex
section
theorem ka_ {α ρ:Type} {p:Nat→α→Option ρ} {e:ρ} (h:∀ i x,p i x≠some e):∀ (l:List α) (i:Nat),gg_ p i l≠some e
  | [],_=>by simp [gg_]
  | x::l,i=>by
    unfold gg_
    cases hp:p i x with
    | some r =>
      intro he
      cases he
      exact h i x hp
    | none=>exact ka_ h l (i+1)
theorem gl_ {o:Option Int} {k:Int} (h:o.getD k=0) (hn:o≠some 0):o=none∧k=0:=by
  cases o with
  | none=>exact ⟨rfl,h⟩
  | some e =>
    have:e=0:=h
    subst this
    exact absurd rfl hn
theorem wx_ {a:Bool} {e:Int} (h:e≠0):kp_ a e≠some 0:=by
  unfold kp_
  cases a with
  | true=>simp
  | false=>simpa using h
theorem ww_ {a b:Bool} {e f:Int} (h:e≠0) (k:f≠0):rs_ a e b f≠some 0:=by
  unfold rs_
  cases a with
  | false=>simpa using h
  | true =>
    cases b with
    | true=>simp
    | false=>simpa using k
theorem ko_ {a:Bool} {e:Int} (h:kp_ a e=none):a=true:=by cases a with
  | true=>rfl
  | false=>cases h
theorem og_ {a b:Bool} {e f:Int} (h:rs_ a e b f=none):a=true∧b=true:=by
  cases a with
  | false=>cases h
  | true=>cases b with
    | true=>exact ⟨rfl,rfl⟩
    | false=>cases h
theorem dg_ {α ρ:Type} {p:Nat→α→Option ρ} {l:List α} (h:gg_ p 0 l=none) {i:Nat} {x:α} (hx:l[i]?=some x):p i x=none:=by
  have:=(il_ l 0).1 h i x hx
  rwa [Nat.zero_add] at this
structure OkR (r:ad_):Prop where
  many:manyR r=false
  pl:∀ (i:Nat) x,r.1[i]?=some x→plOk r i x=true
  ne:r.1≠[]
  th:∀ (i:Nat) x,r.2.1[i]?=some x→thOk r i x=true
  pr:∀ (i:Nat) x,r.2.2.1[i]?=some x→prOk r i x=true∧cOk r.2.1 x.2.2=true
  wy:∀ (i:Nat) x,r.2.2.2.1[i]?=some x→wyOk r x=true∧cOk r.2.1 x.2.2=true
  ac:∀ (i:Nat) x,r.2.2.2.2.1[i]?=some x→ub_ r i x=true∧cOk r.2.1 x.2.2.2.2.1=true
  au:∀ (i:Nat) x,r.2.2.2.2.2.1[i]?=some x→nk_ r.2.1 x.2.1 x.2.2=true∧cOk r.2.1 x.1=true
  py:wi r.2.2.2.2.2.2.1 1 4=true
  go:cOk r.2.1 r.2.2.2.2.2.2.2=true
theorem bp_ {r:ad_} (h:cz_ r=0):OkR r:=by
  unfold cz_ at h
  cases hm:manyR r with
  | true=>rw [hm] at h; exact absurd (show (2:Int)=0 from h) (by decide)
  | false =>
  rw [hm] at h
  have h:(gg_ (fun i x=>kp_ (plOk r i x) 22) 0 r.1).getD _=0:=h
  obtain ⟨h1,h⟩:=gl_ h (ka_ (fun i x=>wx_ (by decide)) _ _)
  cases he:(r.1.length:Int)==0 with
  | true=>rw [he] at h; exact absurd (show (22:Int)=0 from h) (by decide)
  | false =>
  rw [he] at h
  have h:(gg_ (fun i x=>kp_ (thOk r i x) 21) 0 r.2.1).getD _=0:=h
  obtain ⟨h2,h⟩:=gl_ h (ka_ (fun i x=>wx_ (by decide)) _ _)
  obtain ⟨h3,h⟩:=gl_ h (ka_ (fun i x=>ww_ (by decide) (by decide)) _ _)
  obtain ⟨h4,h⟩:=gl_ h (ka_ (fun i x=>ww_ (by decide) (by decide)) _ _)
  obtain ⟨h5,h⟩:=gl_ h (ka_ (fun i x=>ww_ (by decide) (by decide)) _ _)
  obtain ⟨h6,h⟩:=gl_ h (ka_ (fun i x=>ww_ (by decide) (by decide)) _ _)
  cases h7:wi r.2.2.2.2.2.2.1 1 4 with
  | false=>rw [h7] at h; exact absurd (show (1:Int)=0 from h) (by decide)
  | true =>
  rw [h7] at h
  cases h8:cOk r.2.1 r.2.2.2.2.2.2.2 with
  | false=>rw [h8] at h; exact absurd (show (25:Int)=0 from h) (by decide)
  | true =>
  refine ⟨hm,fun i x hx=>ko_ (dg_ h1 hx),fun e => ?_,fun i x hx=>ko_ (dg_ h2 hx),fun i x hx=>og_ (dg_ h3 hx),fun i x hx=>og_ (dg_ h4 hx),fun i x hx=>og_ (dg_ h5 hx),fun i x hx=>og_ (dg_ h6 hx),h7,h8⟩
  rw [e] at he
  cases he
def inR (r:ad_) (p:Int):Bool:=wi p (w64 ((w64 ((-2) - r.2.2.2.2.2.2.1))+1)) (w64 ((r.1.length:Int) - 1))
def lensS (r:ad_) (s:ah_):Bool:=((s.1.length:Int) != (r.2.1.length:Int))||(((s.2.1.length:Int) != (r.2.2.1.length:Int))||((s.2.2.length:Int) != r.2.2.2.2.2.2.1))
def ckS (r:ad_) (s:ah_):Int :=
  cond (lensS r s) 28 ((gg_ (fun i n=>kp_ (nk_ r.2.1 (i:Int) n) 28) 0 s.1).getD ((gg_ (fun _ p=>kp_ (inR r p) 28) 0 s.2.1).getD ((gg_ (fun _ p=>kp_ (re_ r p) 28) 0 s.2.2).getD 0)))
def nd_ (r:ad_) (s:ah_):Int:=cond (cz_ r != 0) (cz_ r) (ckS r s)
theorem lens_of (r:ad_) (s:ah_):(cond ((s.1.length:Int) != (r.2.1.length:Int))
 (some (true,()))
 (cond ((s.2.1.length:Int) != (r.2.2.1.length:Int))
 (some (true,()))
 (some (((s.2.2.length:Int) != r.2.2.2.2.2.2.1),()))))=some (lensS r s,()):=by
  unfold lensS
  cases (s.1.length:Int) != (r.2.1.length:Int) with
  | true=>rfl
  | false =>
  cases (s.2.1.length:Int) != (r.2.2.1.length:Int) with
  | true=>rfl
  | false=>rfl
theorem lensS_ok {r:ad_} {s:ah_} (h:lensS r s=false):s.1.length=r.2.1.length∧s.2.1.length=r.2.2.1.length∧(s.2.2.length:Int)=r.2.2.2.2.2.2.1:=by
  unfold lensS at h
  simp only [Bool.or_eq_false_iff,bne_eq_false_iff_eq] at h
  omega
theorem fb_ {r:ad_} (h:SmR r) (s:ah_):bz_ r s=some (nd_ r s,()):=by
  unfold bz_ nd_
  rw [ry_ h,Option.bind_some]
  cases hr:cz_ r != 0 with
  | true=>rfl
  | false =>
  have ok:=bp_ (by simpa using hr)
  simp only [cond_false]
  refine Eq.trans (congrArg (fun o=>Option.bind o _) (lens_of r s)) ?_
  rw [Option.bind_some]
  unfold ckS
  cases hl:lensS r s with
  | true=>rfl
  | false =>
  obtain ⟨l1,l2,l3⟩:=lensS_ok hl
  have hp:=cf_.1 ok.py
  have m1:Sm s.1.length:=by rw [l1]; exact h.th
  have m2:Sm s.2.1.length:=by rw [l2]; exact h.pr
  have m3:Sm s.2.2.length:=by show s.2.2.length≤1000000000; omega
  simp only [cond_false]
  refine bu_ s.1 (fun i n=>kp_ (nk_ r.2.1 (i:Int) n) 28) (fun i y hy => ?_) ?_ (er_ ?_)
  · have hi:=an_ hy
    simp only [dlt hi,cond_true,ag_ hy,Option.bind_some,ay_ (show Sm i by omega),pd_ h.th]
    unfold kp_
    cases nk_ r.2.1 (i:Int) y <;> rfl
  · simp only [dnl,cond_false]
  refine bu_ s.2.1 (fun _ p=>kp_ (inR r p) 28) (fun i y hy => ?_) ?_ (er_ ?_)
  · have hi:=an_ hy
    simp only [dlt hi,cond_true,ag_ hy,Option.bind_some,ay_ (show Sm i by omega),dw_]
    unfold kp_ inR
    cases wi y (w64 ((w64 ((-2) - r.2.2.2.2.2.2.1))+1)) (w64 ((r.1.length:Int) - 1)) <;> rfl
  · simp only [dnl,cond_false]
  refine bu_ s.2.2 (fun _ p=>kp_ (re_ r p) 28) (fun i y hy => ?_) ?_ (er_ ?_)
  · have hi:=an_ hy
    simp only [dlt hi,cond_true,ag_ hy,Option.bind_some,ay_ (show Sm i by omega),dw_]
    unfold kp_ re_
    cases wi y 0 (w64 ((r.1.length:Int) - 1)) <;> rfl
  · simp only [dnl,cond_false]
  rfl
theorem inR_eq {r:ad_} (h:SmR r) (hp:wi r.2.2.2.2.2.2.1 1 4=true) (p:Int):inR r p=(re_ r p||(p==-1||wi p (w64 ((w64 ((-2) - r.2.2.2.2.2.2.1))+1)) (-2))):=by
  have hp:=cf_.1 hp
  have hpl:=h.pl
  have e1:w64 ((r.1.length:Int) - 1)=(r.1.length:Int) - 1:=gd_ (by omega) (by omega)
  have e2:w64 ((-2) - r.2.2.2.2.2.2.1)=(-2) - r.2.2.2.2.2.2.1:=gd_ (by omega) (by omega)
  have e3:w64 (((-2) - r.2.2.2.2.2.2.1)+1)=((-2) - r.2.2.2.2.2.2.1)+1:=gd_ (by omega) (by omega)
  unfold inR re_
  rw [e1,e2,e3,Bool.eq_iff_iff]
  simp only [Bool.or_eq_true,cf_,beq_iff_eq]
  omega
theorem ts_ {r:ad_} (h:SmR r) (s:ah_):ev_ r s=some (nd_ r s,()):=by
  unfold ev_ nd_
  rw [qd_ h,Option.bind_some]
  cases hr:cz_ r != 0 with
  | true=>rfl
  | false =>
  have ok:=bp_ (by simpa using hr)
  simp only [cond_false]
  refine Eq.trans (congrArg (fun o=>Option.bind o _) (lens_of r s)) ?_
  rw [Option.bind_some]
  unfold ckS
  cases hl:lensS r s with
  | true=>rfl
  | false =>
  obtain ⟨l1,l2,l3⟩:=lensS_ok hl
  have hp:=cf_.1 ok.py
  have m1:Sm s.1.length:=by rw [l1]; exact h.th
  have m2:Sm s.2.1.length:=by rw [l2]; exact h.pr
  have m3:Sm s.2.2.length:=by show s.2.2.length≤1000000000; omega
  simp only [cond_false]
  refine bu_ s.1 (fun i n=>kp_ (nk_ r.2.1 (i:Int) n) 28) (fun i y hy => ?_) ?_ (er_ ?_)
  · have hi:=an_ hy
    simp only [dlt hi,cond_true,ag_ hy,Option.bind_some,ay_ (show Sm i by omega),qw_ h.th]
    unfold kp_
    cases nk_ r.2.1 (i:Int) y <;> rfl
  · simp only [dnl,cond_false]
  refine bu_ s.2.1 (fun _ p=>kp_ (inR r p) 28) (fun i y hy => ?_) ?_ (er_ ?_)
  · have hi:=an_ hy
    simp only [dlt hi,cond_true,ag_ hy,Option.bind_some,ay_ (show Sm i by omega),ia_,fm_]
    rw [inR_eq h ok.py]
    unfold kp_ re_
    have e:(y != -1) = !(y==-1):=rfl
    rw [e]
    cases wi y 0 (w64 ((r.1.length:Int) - 1)) with
    | true=>rfl
    | false =>
    cases y==-1 with
    | true=>rfl
    | false=>cases wi y (w64 ((w64 ((-2) - r.2.2.2.2.2.2.1))+1)) (-2) <;> rfl
  · simp only [dnl,cond_false]
  refine bu_ s.2.2 (fun _ p=>kp_ (re_ r p) 28) (fun i y hy => ?_) ?_ (er_ ?_)
  · have hi:=an_ hy
    simp only [dlt hi,cond_true,ag_ hy,Option.bind_some,ay_ (show Sm i by omega),ia_]
    unfold kp_ re_
    cases wi y 0 (w64 ((r.1.length:Int) - 1)) <;> rfl
  · simp only [dnl,cond_false]
  rfl
end
section
def gi (l:List Int) (i:Int):Int:=(at? l i).getD 0
theorem mw_ {l:List Int} {i x:Int} (h:at? l i=some x):gi l i=x:=by unfold gi; rw [h]; rfl
theorem op_ {l:List Int} {i:Int} (h0:0≤i) (h1:i<l.length):at? l i=some (gi l i):=by
  obtain ⟨x,hx⟩:=az_ (l:=l) (i:=i.toNat) (by omega)
  have:at? l i=some x:=by rw [show i=((i.toNat:Nat):Int) by omega]; exact ag_ hx
  rw [this,mw_ this]
def InC (n:Nat) (c:List bd_):Prop:=∀ l ∈ c,0≤l.1∧l.1<n
theorem tm_ {things:List gz_} (hl:Sm things.length) {c:List bd_} (h:cOk things c=true):InC things.length c∧c.length≤8:=by
  unfold cOk at h
  rw [Bool.and_eq_true] at h
  refine ⟨fun l hm => ?_,by have:=of_decide_eq_true h.1; omega⟩
  have h2:=List.all_eq_true.1 h.2 l hm
  unfold nk_ at h2
  rw [Bool.and_eq_true] at h2
  have:=cf_.1 h2.1
  rw [gd_ (by omega) (by omega)] at this
  omega
def dn_ (th:List Int) (c:List bd_):Bool:=c.all fun l=>!((gi th l.1==l.2.1)==l.2.2)
theorem any_not {α:Type} (l:List α) (q:α→Bool):(!(l.any q))=l.all fun x=>!(q x):=by
  induction l with
  | nil=>rfl
  | cons x l ih =>
    rw [List.any_cons,List.all_cons,← ih]
    cases q x <;> rfl
theorem ml_ {t:hj_} {c:List bd_} (hc:Sm c.length) (hi:InC t.2.1.length c):bb_ t c=some (dn_ t.2.1 c,()):=by
  unfold bb_ dn_
  refine Eq.trans (congrArg (fun o=>Option.bind o _) (ol_ hc (fun l=>(gi t.2.1 l.1==l.2.1)==l.2.2) (fun i y hy => ?_) ?_)) ?_
  · have:=hi y (aw_ hy)
    simp only [dlt (an_ hy),cond_true,ag_ hy,op_ this.1 this.2,Option.bind_some]
    cases (gi t.2.1 y.1==y.2.1)==y.2.2 <;> rfl
  · simp only [dnl,cond_false]
  · rw [Option.bind_some]
    exact congrArg (fun b=>some (b,())) (any_not c _)
theorem jg_ {s:ah_} {c:List bd_} (hc:Sm c.length) (hi:InC s.1.length c):bl_ s c=some (dn_ s.1 c,()):=by
  unfold bl_ dn_
  refine bn_ c (fun i l=>cond ((gi s.1 l.1==l.2.1)==l.2.2) (some (Sum.inr (false,()):Unit⊕(Bool×Unit))) none) (fun i=>((i:Int),())) (r0:=Sum.inl ()) (fun i y hy => ?_) ?_ ?_
  · have:=hi y (aw_ hy)
    have hl:=an_ hy
    simp only [dlt hl,cond_true,ag_ hy,op_ this.1 this.2,Option.bind_some,ay_ (show Sm i by omega)]
    cases (gi s.1 y.1==y.2.1)==y.2.2 <;> rfl
  · simp only [dnl,cond_false]
  · rw [hl_ (q:=fun l:bd_=>(gi s.1 l.1==l.2.1)==l.2.2),← any_not]
    cases c.any fun l=>(gi s.1 l.1==l.2.1)==l.2.2 <;> rfl
end
end Go.Proofs.YtfcgcpjnpdkjmaaGreatDoor.Rx
namespace Go.Proofs.YtfcgcpjnpdkjmaaGreatDoor.Rx
open Go Pad Rex Go.Proofs
section
set_option maxRecDepth 100000
set_option maxHeartbeats 0
def an_192:An:=.z
noncomputable def cs_192:List (Con Tryz.prog):=[c_41,c_196]
noncomputable def cl_192:List (Cpy Tryz.prog):=[]
noncomputable def cx_192:Cx Tryz.prog:=cxC cs_192 cl_192
noncomputable def ii_ (a0:ad_) (a1:ah_):Option (ah_×Int×Unit) :=
 ((ev_ a0 a1).bind fun v0 =>
 (cond (v0.1 != 0)
 (some (([],([],[])),(v0.1,())))
 ((gm_ a0 a1).bind fun v1 =>
 (cond (!v1.2.1)
 (some (([],([],[])),(27,())))
 (some (v1.1,(0,())))))))
theorem x_192:au_ cx_192 an_192 192 [ao_,aq_] [aq_,.int]=fun x=>ii_ x.1 x.2.1:=by kernel_rfl
noncomputable def c_192:Con Tryz.prog:=av_ _ _ 192 [ao_,aq_] [aq_,.int] _ x_192
def an_252:An:=(.p .z (.p (.q [] .z .z) .z))
noncomputable def cs_252:List (Con Tryz.prog):=[c_282,c_283]
noncomputable def cl_252:List (Cpy Tryz.prog):=[]
noncomputable def cx_252:Cx Tryz.prog:=cxC cs_252 cl_252
noncomputable def iz_ (a0:ac_) (a1:Int) (a2:(List Int)):Option (Int×Unit) :=
 ((at? a0.2.1 a1).bind fun v0 =>
 ((jj_ a0 a2).bind fun v1 =>
 ((jp_ v0 v1.1).bind fun v2 =>
 (some (v2.1,())))))
theorem x_252:au_ cx_252 an_252 252 [am_,.int,(.list .int)] [.int]=fun x=>iz_ x.1 x.2.1 x.2.2.1:=by kernel_rfl
noncomputable def c_252:Con Tryz.prog:=av_ _ _ 252 [am_,.int,(.list .int)] [.int] _ x_252
def an_77:An:=(.p .z (.p .z (.p (.j0 [.v 49 .bool] .z .z) (.p .z (.p (.q [] .z .z) .z)))))
def at_77:FuncId→An:=fun k=>cond (Nat.beq k 152) (.p .z (.j0 [.v 4 .bool] .z .z)) (cond (Nat.beq k 221) (.p .z (.p (.p .z (.ls [.v 8 .int] [] [] 0 .z)) .z)) (.z))
noncomputable def cs_77:List (Con Tryz.prog):=[c_79,c_154,c_155,c_156]
noncomputable def cl_77:List (Cpy Tryz.prog):=[]
noncomputable def cx_77:Cx Tryz.prog:=cxI at_77 (fun k=>Nat.beq k 79||Nat.beq k 154||Nat.beq k 155||Nat.beq k 156||false) (cxC cs_77 cl_77) 4
noncomputable def lm_ (a0:ac_) (a1:Int) (a2:cc_):Option (Bool×Unit) :=
 ((sub? a0.2.2.2.1 0 a1).bind fun v0 =>
 ((((ae_ (ρ:=(Unit⊕(Bool×Unit))) (fun (v1:(Int×Unit)) =>
 (cond (decide (v1.1<(v0.length:Int)))
 ((at? v0 v1.1).bind fun v2 =>
 (cond (v2.1==a2.1)
 (some (Sum.inr (Sum.inr ((decide (0≤v1.1)),()))))
 (some (Sum.inl ((w64 (v1.1+1)),())))))
 (some (Sum.inr (Sum.inl ()))))) (0,())).bind fun v3 =>
 (bv_ v3 (fun v4=>(some ((decide (0≤(-1))),())))
 (fun v5=>(some v5))))).bind fun v6 =>
 ((((mz_ a2.1).bind fun v7 =>
 (cond (!v7.1)
 (some (true,()))
 (cond (decide (12<(a2.1.length:Int)))
 (some (true,()))
 (cond v6.1
 (some (true,()))
 ((ca_ a2.2.1 0 (w64 ((a0.1.1.length:Int) - 1))).bind fun v8 =>
 (cond (!v8.1)
 (some (true,()))
 ((ca_ a2.2.2.1 (-1) (w64 ((a0.2.1.length:Int) - 1))).bind fun v9 =>
 (some ((!v9.1),())))))))))).bind fun v10 =>
 (cond v10.1
 (some (false,()))
 (cond (decide (a2.2.2.1<0))
 ((kl_ a2.2.2.2.2).bind fun v11 =>
 (some (v11.1,())))
 ((at? a0.2.1 a2.2.2.1).bind fun v12 =>
 ((at? a0.2.2.1 a2.2.2.1).bind fun v13 =>
 ((jr_ v12 a2.2.2.2.2 v13).bind fun v14 =>
 (cond (v14.2.1==0)
 (some (v14.1,()))
 (some (false,())))))))))))
theorem x_77:au_ cx_77 an_77 77 [am_,.int,ha_] [.bool]=fun x=>lm_ x.1 x.2.1 x.2.2.1:=by kernel_rfl
noncomputable def c_77:Con Tryz.prog:=av_ _ _ 77 [am_,.int,ha_] [.bool] _ x_77
def an_82:An:=.z
def at_82:FuncId→An:=fun k=>.z
noncomputable def cs_82:List (Con Tryz.prog):=[c_147,c_160,c_161]
noncomputable def cl_82:List (Cpy Tryz.prog):=[cp_34]
noncomputable def cx_82:Cx Tryz.prog:=cxI at_82 (fun k=>Nat.beq k 34||Nat.beq k 147||Nat.beq k 160||Nat.beq k 161||false) (cxC cs_82 cl_82) 2
noncomputable def fg_ (a0:ad_) (a1:ah_) (a2:(List bd_)):Option (Bool×Int×Unit) :=
 ((bz_ a0 a1).bind fun v0 =>
 (cond (v0.1 != 0)
 (some (false,(v0.1,())))
 ((dt_ a0 a2).bind fun v1 =>
 (cond (!v1.1)
 (some (false,(25,())))
 ((push? (α:=Int) [] a1.1).bind fun v2 =>
 ((push? (α:=Int) [] a1.2.1).bind fun v3 =>
 ((push? (α:=Int) [] a1.2.2).bind fun v4 =>
 ((bb_ (a0,(v2,(v3,v4))) a2).bind fun v5 =>
 (some (v5.1,(0,())))))))))))
theorem x_82:au_ cx_82 an_82 82 [ao_,aq_,(.list br_)] [.bool,.int]=fun x=>fg_ x.1 x.2.1 x.2.2.1:=by kernel_rfl
noncomputable def c_82:Con Tryz.prog:=av_ _ _ 82 [ao_,aq_,(.list br_)] [.bool,.int] _ x_82
def an_205:An:=(.p .z (.p .z (.p .z (.p .z (.j0 [.o (.c (.s 9) 8) .int,.o (.c (.s 9) 9) .int,.o (.c (.s 9) 10) .int] .z .z)))))
def at_205:FuncId→An:=fun k=>cond (Nat.beq k 81) (.p .z (.p (.j0 [.v 6 .bool,.o (.c (.s 0) 8) .int] .z .z) .z)) (cond (Nat.beq k 159) (.p .z (.p (.p .z (.ls [.v 4 .int] [] [.o (.c (.s 0) 8) .int] 0 (.p .z (.p .z (.p (.j0 [.v 3 .int] .z .z) .z))))) .z)) (cond (Nat.beq k 225) (.p .z (.p (.p .z (.ls [.v 8 .int] [] [] 0 .z)) .z)) (cond (Nat.beq k 226) (.p .z (.j0 [.v 3 .bool] .z .z)) (cond (Nat.beq k 257) (.p .z (.p .z (.p .z (.p .z (.p .z (.p .z (.p .z (.p .z (.p .z (.p .z (.p (.p .z (.p (.p .z (.lp [.v 96 .int] [] [.o (.c (.s 0) 9) .int] 1 .z)) (.p (.p .z (.lp [.v 111 .int] [] [.o (.c (.s 0) 9) .int] 3 .z)) (.p .z (.lp [.v 127 .int] [] [.o (.c (.s 0) 8) .int] 5 .z))))) .z))))))))))) (.z)))))
noncomputable def cs_205:List (Con Tryz.prog):=[c_160,c_161,c_250]
noncomputable def cl_205:List (Cpy Tryz.prog):=[cp_34]
noncomputable def cx_205:Cx Tryz.prog:=cxI at_205 (fun k=>Nat.beq k 34||Nat.beq k 160||Nat.beq k 161||Nat.beq k 250||false) (cxC cs_205 cl_205) 7
noncomputable def fe_ (a0:ad_) (a1:ah_) (a2:af_):Option (ah_×Int×Unit) :=
 ((bz_ a0 a1).bind fun v0 =>
 (cond (v0.1 != 0)
 (some (([],([],[])),(v0.1,())))
 ((push? (α:=Int) [] a1.1).bind fun v1 =>
 ((push? (α:=Int) [] a1.2.1).bind fun v2 =>
 ((push? (α:=Int) [] a1.2.2).bind fun v3 =>
 ((cw_ (a0,(v1,(v2,v3))) a2).bind fun v4 =>
 (cond (!v4.1)
 (some (([],([],[])),(29,())))
 (((cond (a2.2.1==1)
 ((at? a0.2.2.2.1 a2.2.2).bind fun v5 =>
 ((at? v3 a2.1).bind fun v6 =>
 ((at? v3 a2.1).bind fun v7 =>
 ((at? v3 a2.1).bind fun v8 =>
 ((at? v3 a2.1).bind fun v9 =>
 (some (v1,(v2,((v3.set a2.1.toNat (w64 ((w64 (v5.1+v5.2.1)) - v7))),())))))))))
 (cond (a2.2.1==2)
 ((at? v2 a2.2.2).bind fun v10 =>
 ((at? v2 a2.2.2).bind fun v11 =>
 (some (v1,((v2.set a2.2.2.toNat (w64 ((-2) - a2.1))),(v3,()))))))
 (cond (a2.2.1==3)
 ((at? v3 a2.1).bind fun v12 =>
 ((at? v3 a2.1).bind fun v13 =>
 ((at? v2 a2.2.2).bind fun v14 =>
 ((at? v2 a2.2.2).bind fun v15 =>
 (some (v1,((v2.set a2.2.2.toNat v13),(v3,()))))))))
 (cond (a2.2.1==4)
 ((at? a0.2.2.2.2.1 a2.2.2).bind fun v16 =>
 ((ae_ (ρ:=((List Int)×Unit)) (fun (v17:(Int×((List Int)×Unit))) =>
 (cond (decide (v17.1<(v16.2.2.2.2.2.2.1.length:Int)))
 ((at? v16.2.2.2.2.2.2.1 v17.1).bind fun v18 =>
 ((at? v17.2.1 v18).bind fun v19 =>
 ((at? v17.2.1 v18).bind fun v20 =>
 (some (Sum.inl ((w64 (v17.1+1)),((v17.2.1.set v18.toNat (-1)),())))))))
 (some (Sum.inr (v17.2.1,()))))) (0,(v2,()))).bind fun v21 =>
 ((ae_ (ρ:=((List Int)×Unit)) (fun (v22:(Int×((List Int)×Unit))) =>
 (cond (decide (v22.1<(v16.2.2.2.2.2.2.2.length:Int)))
 ((at? v16.2.2.2.2.2.2.2 v22.1).bind fun v23 =>
 ((at? v22.2.1 v23).bind fun v24 =>
 ((at? v22.2.1 v23).bind fun v25 =>
 (some (Sum.inl ((w64 (v22.1+1)),((v22.2.1.set v23.toNat (w64 ((-2) - a2.1))),())))))))
 (some (Sum.inr (v22.2.1,()))))) (0,(v21.1,()))).bind fun v26 =>
 ((ae_ (ρ:=((List Int)×Unit)) (fun (v27:(Int×((List Int)×Unit))) =>
 (cond (decide (v27.1<(v16.2.2.2.2.2.1.length:Int)))
 ((at? v16.2.2.2.2.2.1 v27.1).bind fun v28 =>
 ((at? v27.2.1 v28.1).bind fun v29 =>
 ((at? v27.2.1 v28.1).bind fun v30 =>
 (some (Sum.inl ((w64 (v27.1+1)),((v27.2.1.set v28.1.toNat v28.2),())))))))
 (some (Sum.inr (v27.2.1,()))))) (0,(v1,()))).bind fun v31 =>
 (some (v31.1,(v26.1,(v3,()))))))))
 (some (v1,(v2,(v3,()))))))))).bind fun v32 =>
 ((((ae_ (ρ:=(((List Int)×Unit)⊕(Bool×((List Int)×Unit)))) (fun (v33:(Int×((List Int)×Unit))) =>
 (cond (decide (v33.1<101))
 ((((ae_ (ρ:=(Unit⊕(Int×Unit))) (fun (v34:(Int×Unit)) =>
 (cond (decide (v34.1<(a0.2.2.2.2.2.1.length:Int)))
 ((at? a0.2.2.2.2.2.1 v34.1).bind fun v35 =>
 ((((at? v33.2.1 v35.2.1).bind fun v36 =>
 ((at? v33.2.1 v35.2.1).bind fun v37 =>
 (cond (v37 != v35.2.2)
 ((bb_ (a0,(v33.2.1,(v32.2.1,v32.2.2.1))) v35.1).bind fun v38 =>
 (some (v38.1,())))
 (some (false,())))))).bind fun v39 =>
 (cond v39.1
 (some (Sum.inr (Sum.inr (v34.1,()))))
 (some (Sum.inl ((w64 (v34.1+1)),()))))))
 (some (Sum.inr (Sum.inl ()))))) (0,())).bind fun v40 =>
 (bv_ v40 (fun v41=>(some ((-1),())))
 (fun v42=>(some v42))))).bind fun v43 =>
 (cond (decide (v43.1<0))
 (some (Sum.inr (Sum.inr ((!true),(v33.2.1,())))))
 ((at? a0.2.2.2.2.2.1 v43.1).bind fun v44 =>
 ((at? a0.2.2.2.2.2.1 v43.1).bind fun v45 =>
 ((at? v33.2.1 v44.2.1).bind fun v46 =>
 ((at? v33.2.1 v44.2.1).bind fun v47 =>
 (some (Sum.inl ((w64 (v33.1+1)),((v33.2.1.set v44.2.1.toNat v45.2.2),()))))))))))
 (some (Sum.inr (Sum.inl (v33.2.1,())))))) (0,(v32.1,()))).bind fun v48 =>
 (bv_ v48 (fun v49=>(some ((!false),(v49.1,()))))
 (fun v50=>(some v50))))).bind fun v51 =>
 (cond v51.1
 (some (([],([],[])),(27,())))
 (some ((v51.2.1,(v32.2.1,v32.2.2.1)),(0,())))))))))))))
theorem x_205:au_ cx_205 an_205 205 [ao_,aq_,ar_] [aq_,.int]=fun x=>fe_ x.1 x.2.1 x.2.2.1:=by kernel_rfl
noncomputable def c_205:Con Tryz.prog:=av_ _ _ 205 [ao_,aq_,ar_] [aq_,.int] _ x_205
def an_190:An:=(.p .z (.p .z (.p .z (.p (.p .z (.rf [4,7] .z .z)) .z))))
def at_190:FuncId→An:=fun k=>cond (Nat.beq k 276) (.p .z (.lp [.v 9 .int] [] [.y (.s 0),.b (.y (.s 0) 4) [.row ar_ 68]] 0 (.p .z (.p .z (.p (.p .z (.p .z (.lp [.v 26 .int] [] [.y (.s 0),.b (.y (.s 0) 4) [.row ar_ 68]] 2 (.p .z (.p .z (.p (.p .z (.p .z (.lp [.v 32 .int] [] [.y (.s 0),.b (.y (.s 0) 4) [.row ar_ 68]] 4 (.p .z (.p .z (.j0 [.y (.s 0),.b (.y (.s 0) 4) [.row ar_ 68]] .z .z)))))) .z)))))) .z))))) (.z)
noncomputable def cs_190:List (Con Tryz.prog):=[c_160,c_250]
noncomputable def cl_190:List (Cpy Tryz.prog):=[cp_34]
noncomputable def cx_190:Cx Tryz.prog:=cxI at_190 (fun k=>Nat.beq k 34||Nat.beq k 160||Nat.beq k 250||false) (cxC cs_190 cl_190) 6
noncomputable def ff_ (a0:ad_) (a1:ah_):Option ((List af_)×Int×Unit) :=
 ((bz_ a0 a1).bind fun v0 =>
 (cond (v0.1 != 0)
 (some ([],(v0.1,())))
 ((push? (α:=Int) [] a1.1).bind fun v1 =>
 ((push? (α:=Int) [] a1.2.1).bind fun v2 =>
 ((push? (α:=Int) [] a1.2.2).bind fun v3 =>
 ((ae_ (ρ:=(Unit×(((List af_)×Unit)×Unit))) (fun (v4:(Int×(Unit×(((List af_)×Unit)×Unit)))) =>
 (cond (decide (v4.1<a0.2.2.2.2.2.2.1))
 ((ae_ (ρ:=(Unit×(((List af_)×Unit)×Unit))) (fun (v5:(Int×(Unit×(((List af_)×Unit)×Unit)))) =>
 (cond (decide (v5.1<(([0,(a0.2.2.2.1.length:Int),(a0.2.2.1.length:Int),(a0.2.2.1.length:Int),(a0.2.2.2.2.1.length:Int)]).length:Int)))
 ((at? [0,(a0.2.2.2.1.length:Int),(a0.2.2.1.length:Int),(a0.2.2.1.length:Int),(a0.2.2.2.2.1.length:Int)] v5.1).bind fun v6 =>
 ((at? [0,(a0.2.2.2.1.length:Int),(a0.2.2.1.length:Int),(a0.2.2.1.length:Int),(a0.2.2.2.2.1.length:Int)] v5.1).bind fun v7 =>
 ((ae_ (ρ:=(Unit×(((List af_)×Unit)×Unit))) (fun (v8:(Int×(Unit×(((List af_)×Unit)×Unit)))) =>
 (cond (decide (v8.1<v7))
 ((((cw_ (a0,(v1,(v2,v3))) (v4.1,(v5.1,v8.1))).bind fun v9 =>
 (cond v9.1
 ((push? (α:=af_) v8.2.2.1.1 [(v4.1,(v5.1,v8.1))]).bind fun v10 =>
 (some ((),((v10,()),()))))
 (some ((),((v8.2.2.1.1,()),())))))).bind fun v11 =>
 (some (Sum.inl ((w64 (v8.1+1)),((),((v11.2.1.1,()),()))))))
 (some (Sum.inr ((),((v8.2.2.1.1,()),())))))) (0,((),((v5.2.2.1.1,()),())))).bind fun v12 =>
 (some (Sum.inl ((w64 (v5.1+1)),((),((v12.2.1.1,()),()))))))))
 (some (Sum.inr ((),((v5.2.2.1.1,()),())))))) (0,((),((v4.2.2.1.1,()),())))).bind fun v13 =>
 (some (Sum.inl ((w64 (v4.1+1)),((),((v13.2.1.1,()),()))))))
 (some (Sum.inr ((),((v4.2.2.1.1,()),())))))) (0,((),(([],()),())))).bind fun v14 =>
 (some (v14.2.1.1,(0,())))))))))
theorem x_190:au_ cx_190 an_190 190 [ao_,aq_] [(.list ar_),.int]=fun x=>ff_ x.1 x.2.1:=by kernel_rfl
noncomputable def c_190:Con Tryz.prog:=av_ _ _ 190 [ao_,aq_] [(.list ar_),.int] _ x_190
noncomputable abbrev lv_:Gb:=⟨Gb.ev,fun c p=>cond (Nat.beq c 1107331088&&eqS p "room.go:184") true (cond (Nat.beq c 197138433&&eqS p "room.go:183") true (cond (Nat.beq c 130027520&&eqS p "room.go:183") true (Gb.fz c p))),Gb.gd,Gb.gl,fun c=>cond (Nat.beq c 1107331088) (some fa_) (cond (Nat.beq c 197138433) (some aq_) (cond (Nat.beq c 130027520) (some ao_) (none))),Gb.rw⟩
def an_137:An:=.z
def at_137:FuncId→An:=fun k=>.z
noncomputable def cs_137:List (@Con lv_ Tryz.prog _):=[@cvG instGb lv_ Tryz.prog _ (fun _=>rfl) (fun _=>rfl) c_160,@cvG instGb lv_ Tryz.prog _ (fun _=>rfl) (fun _=>rfl) c_161,@cpCon lv_ Tryz.prog _ cp_34]
noncomputable def cx_137:@Cx lv_ Tryz.prog _:=@cxI lv_ Tryz.prog _ at_137 (fun k=>Nat.beq k 34||Nat.beq k 160||Nat.beq k 161||false) (@cxC lv_ Tryz.prog _ cs_137 []) 2
noncomputable def ic_ (a0:ad_) (a1:ah_):Option (Bool×Int×Unit) :=
 ((bz_ a0 a1).bind fun v0 =>
 (cond (v0.1 != 0)
 (some (false,(v0.1,())))
 ((((push? (α:=Int) [] a1.1).bind fun v1 =>
 (some (v1,())))).bind fun v2 =>
 ((((push? (α:=Int) [] a1.2.1).bind fun v3 =>
 (some (v3,())))).bind fun v4 =>
 ((((push? (α:=Int) [] a1.2.2).bind fun v5 =>
 (some (v5,())))).bind fun v6 =>
 ((bb_ (a0,(v2.1,(v4.1,v6.1))) a0.2.2.2.2.2.2.2).bind fun v7 =>
 (some (v7.1,(0,())))))))))
theorem x_137:@au_ lv_ Tryz.prog _ cx_137 an_137 137 [ao_,aq_] [.bool,.int]=fun x=>ic_ x.1 x.2.1:=by kernel_rfl
noncomputable def c_137:Con Tryz.prog:=@cvG lv_ instGb Tryz.prog _ (fun _=>rfl) (fun _=>rfl) <| @av_ lv_ Tryz.prog _ _ _ 137 [ao_,aq_] [.bool,.int] _ x_137
end
end Go.Proofs.YtfcgcpjnpdkjmaaGreatDoor.Rx
