import Derived.IntWalk
import Derived.Lib.IndexMore
import Derived.OwnWalk
import Derived.Shelf.LaysC
import Derived.Shelf.LaysM
import Derived.Shelf.Small.Strs
import Derived.Shelf.Small.Wraps
import Derived.Shelf.Strconv.ErrVarParseInt
import Derived.Shelf.Strconv.Itoa4
import Derived.Shelf.Strconv.ParseIntPublic10
import Derived.Shelf.Strings.Cut
import Derived.Shelf.Strings.Fields
import Derived.Shelf.Strings.Prefix
import Derived.Shelf.Strings.Search3
import Derived.Shelf.Unicode.DecodeLast
import Derived.Test.YtoddjlclpnoomaaGreatDoorV3
set_option linter.unusedVariables false
set_option linter.unusedSimpArgs false
set_option maxRecDepth 100000
open Go.Proofs.Tryz
open Go.Instr (sliceAt indexAt)
open Nat (lt_or_ge le_refl)
open Go.Builtin (append_ len_)
open Go.World (cell?)
namespace Go.Proofs
open Go.Shelf
def rO:Go.Shelf.Ren:=⟨fun|137=>53|217=>86|266=>147|n=>n,fun|9=>9|5=>5|3=>3|n=>n,fun|n=>n⟩
theorem BD:Go.Proofs.Lays.n137 prog rO:={
 mixed:=ai
 f137:=func53.trans (congrArg some ai)
 f217:=func86.trans (congrArg some ai)
 f266:=func147.trans (congrArg some ai)
 t3:=underlying3
 a3:=isAgg3
 z3:=sizeOf3
 v3:=zeroValue3
 t5:=underlying5
 a5:=isAgg5
 z5:=sizeOf5
 v5:=zeroValue5
 t9:=underlying9
 a9:=isAgg9
 z9:=sizeOf9
 v9:=zeroValue9}
open Go.RowKit in
theorem strings_IndexByte(s:ByteArray)(c:Int)(w:Wd):
 Calls prog 53 #[.string s,.int .u8 c] w λe w'=>e=.returned (.int .i64 (Lib.indexByte s.data.toList c.toNat.toUInt8))/\w'=w:=Any.strings_IndexByte BD s c w
def rP:Go.Shelf.Ren:=⟨fun|144=>92|143=>152|219=>196|217=>86|225=>217|224=>218|267=>219|266=>147|314=>237|n=>n,fun|9=>9|4=>4|3=>3|5=>5|46=>218|146=>259|51=>190|n=>n,fun|1=>3|n=>n⟩
theorem BE:Go.Proofs.Lays.n144 prog rP:={
 mixed:=ai
 f143:=func152.trans (congrArg some ai)
 f144:=func92.trans (congrArg some ai)
 f217:=func86.trans (congrArg some ai)
 f219:=func196.trans (congrArg some ai)
 f224:=func218.trans (congrArg some ai)
 f225:=func217.trans (congrArg some ai)
 f266:=func147.trans (congrArg some ai)
 f267:=func219.trans (congrArg some ai)
 f314:=func237.trans (congrArg some ai)
 t3:=underlying3
 a3:=isAgg3
 z3:=sizeOf3
 v3:=zeroValue3
 t4:=underlying4
 a4:=isAgg4
 z4:=sizeOf4
 v4:=zeroValue4
 t5:=underlying5
 a5:=isAgg5
 z5:=sizeOf5
 v5:=zeroValue5
 t9:=underlying9
 a9:=isAgg9
 z9:=sizeOf9
 v9:=zeroValue9
 t46:=underlying218
 a46:=isAgg218
 z46:=sizeOf218
 v46:=zeroValue218
 t51:=underlying190
 a51:=isAgg190
 z51:=sizeOf190
 v51:=zeroValue190
 t146:=underlying259
 a146:=isAgg259
 z146:=sizeOf259
 v146:=zeroValue259
 g1:=by kernel_rfl}
open Go.RowKit Go.Lib in
theorem strings_Contains(s sub:ByteArray)(m:Int)(w:Wd)(hs:s.size<4294967281)(hm:w.cell? ⟨3,0,none⟩=some (.int .i64 m)):
 Calls prog 92 #[.string s,.string sub] w λe w'=>e=.returned (.bool (Lib.contains s.data.toList sub.data.toList))/\w'=w:=Any.strings_Contains BE s sub m w hs hm
def rQ:Go.Shelf.Ren:=⟨fun|145=>149|220=>191|219=>196|217=>86|225=>217|224=>218|267=>219|266=>147|314=>237|n=>n,fun|9=>9|4=>4|59=>178|3=>3|5=>5|46=>218|146=>259|51=>190|n=>n,fun|1=>3|n=>n⟩
theorem BG:Go.Proofs.Lays.n145 prog rQ:={
 mixed:=ai
 f145:=func149.trans (congrArg some ai)
 f217:=func86.trans (congrArg some ai)
 f219:=func196.trans (congrArg some ai)
 f220:=func191.trans (congrArg some ai)
 f224:=func218.trans (congrArg some ai)
 f225:=func217.trans (congrArg some ai)
 f266:=func147.trans (congrArg some ai)
 f267:=func219.trans (congrArg some ai)
 f314:=func237.trans (congrArg some ai)
 t3:=underlying3
 a3:=isAgg3
 z3:=sizeOf3
 v3:=zeroValue3
 t4:=underlying4
 a4:=isAgg4
 z4:=sizeOf4
 v4:=zeroValue4
 t5:=underlying5
 a5:=isAgg5
 z5:=sizeOf5
 v5:=zeroValue5
 t9:=underlying9
 a9:=isAgg9
 z9:=sizeOf9
 v9:=zeroValue9
 t46:=underlying218
 a46:=isAgg218
 z46:=sizeOf218
 v46:=zeroValue218
 t51:=underlying190
 a51:=isAgg190
 z51:=sizeOf190
 v51:=zeroValue190
 t59:=underlying178
 a59:=isAgg178
 z59:=sizeOf178
 v59:=zeroValue178
 t146:=underlying259
 a146:=isAgg259
 z146:=sizeOf259
 v146:=zeroValue259
 g1:=by kernel_rfl}
open Go.RowKit Go.Lib in
theorem strings_Cut(s sep:ByteArray)(m:Int)(w:Wd)(hs:s.size<4294967281)(hm:w.cell? ⟨3,0,none⟩=some (.int .i64 m)):
 Calls prog 149 #[.string s,.string sep] w λe w'=>e=.returned (.tuple #[.string ⟨(Lib.cut s.data.toList sep.data.toList).1.toArray⟩,.string ⟨(Lib.cut s.data.toList sep.data.toList).2.1.toArray⟩,.bool (Lib.cut s.data.toList sep.data.toList).2.2])/\∃n,w'=w.drewN n:=Any.strings_Cut BG s sep m w hs hm
def rR:Go.Shelf.Ren:=⟨fun|157=>56|229=>97|199=>98|261=>155|311=>197|312=>198|n=>n,fun|9=>9|31=>45|3=>3|5=>5|4=>4|119=>156|0=>0|40=>158|152=>187|21=>21|154=>189|51=>190|141=>192|196=>223|193=>220|198=>226|49=>224|194=>221|201=>229|226=>243|46=>218|227=>244|n=>n,fun|0=>1|6=>2|n=>n⟩
theorem BH:Go.Proofs.Lays.n157 prog rR:={
 mixed:=ai
 f157:=func56.trans (congrArg some ai)
 f199:=func98.trans (congrArg some ai)
 f229:=func97.trans (congrArg some ai)
 f261:=func155.trans (congrArg some ai)
 f311:=func197.trans (congrArg some ai)
 f312:=func198.trans (congrArg some ai)
 t0:=underlying0
 a0:=isAgg0
 z0:=sizeOf0
 v0:=zeroValue0
 t3:=underlying3
 a3:=isAgg3
 z3:=sizeOf3
 v3:=zeroValue3
 t4:=underlying4
 a4:=isAgg4
 z4:=sizeOf4
 v4:=zeroValue4
 t5:=underlying5
 a5:=isAgg5
 z5:=sizeOf5
 v5:=zeroValue5
 t9:=underlying9
 a9:=isAgg9
 z9:=sizeOf9
 v9:=zeroValue9
 t21:=underlying21
 a21:=isAgg21
 z21:=sizeOf21
 v21:=zeroValue21
 t31:=underlying45
 a31:=isAgg45
 z31:=sizeOf45
 v31:=zeroValue45
 t40:=underlying158
 a40:=isAgg158
 z40:=sizeOf158
 v40:=zeroValue158
 t46:=underlying218
 a46:=isAgg218
 z46:=sizeOf218
 v46:=zeroValue218
 t49:=underlying224
 a49:=isAgg224
 z49:=sizeOf224
 v49:=zeroValue224
 t51:=underlying190
 a51:=isAgg190
 z51:=sizeOf190
 v51:=zeroValue190
 t119:=underlying156
 a119:=isAgg156
 z119:=sizeOf156
 t141:=underlying192
 a141:=isAgg192
 z141:=sizeOf192
 v141:=zeroValue192
 t152:=underlying187
 a152:=isAgg187
 z152:=sizeOf187
 v152:=zeroValue187
 t154:=underlying189
 a154:=isAgg189
 z154:=sizeOf189
 v154:=zeroValue189
 t193:=underlying220
 a193:=isAgg220
 z193:=sizeOf220
 v193:=zeroValue220
 t194:=underlying221
 a194:=isAgg221
 z194:=sizeOf221
 v194:=zeroValue221
 t196:=underlying223
 a196:=isAgg223
 z196:=sizeOf223
 v196:=zeroValue223
 t198:=underlying226
 a198:=isAgg226
 z198:=sizeOf226
 v198:=zeroValue226
 t201:=underlying229
 a201:=isAgg229
 z201:=sizeOf229
 v201:=zeroValue229
 t226:=underlying243
 a226:=isAgg243
 z226:=sizeOf243
 v226:=zeroValue243
 t227:=underlying244
 a227:=isAgg244
 z227:=sizeOf244
 v227:=zeroValue244
 g0:=ai
 g6:=by kernel_rfl}
open Go.RowKit Go.Lib in
theorem strings_Fields(s:ByteArray)(w:Wd)(hs:s.size<4294967281)(F0:∀(j:Nat) b,s.data.toList[j]?=some b->b.toNat<128)(F1:Lib.TabIs prog w "strings.asciiSpace" .u8 Lib.asciiSpaceTab):
 Calls prog 56 #[.string s] w λe w'=>
  e=.returned (.slice (some ⟨w.heap.size,0,none⟩) (Lib.fields s.data.toList).length (Lib.fields s.data.toList).length)/\w'=w.alloc (.cells ((Lib.fields s.data.toList).map λl=>Value.string ⟨l.toArray⟩).toArray 9):=Any.strings_Fields BH ai ai s w hs F0 F1
def tZ:Go.Shelf.Ren:=⟨fun|99=>52|206=>85|n=>n,fun|9=>9|4=>4|3=>3|n=>n,fun|n=>n⟩
theorem F2:Go.Proofs.Lays.n99 prog tZ:={
 mixed:=ai
 f99:=func52.trans (congrArg some ai)
 f206:=func85.trans (congrArg some ai)
 t3:=underlying3
 a3:=isAgg3
 z3:=sizeOf3
 v3:=zeroValue3
 t4:=underlying4
 a4:=isAgg4
 z4:=sizeOf4
 v4:=zeroValue4
 t9:=underlying9
 a9:=isAgg9
 z9:=sizeOf9
 v9:=zeroValue9}
open Go.RowKit Go.Lib in
theorem strings_HasPrefix(s p:ByteArray)(w:Wd):
 Calls prog 52 #[.string s,.string p] w λe w'=>e=.returned (.bool (Lib.hasPrefix s.data.toList p.data.toList))/\w'=w:=Any.strings_HasPrefix F2 s p w
def rS:Go.Shelf.Ren:=⟨fun|101=>189|208=>212|206=>85|n=>n,fun|9=>9|4=>4|3=>3|n=>n,fun|n=>n⟩
theorem BI:Go.Proofs.Lays.n101 prog rS:={
 mixed:=ai
 f101:=func189.trans (congrArg some ai)
 f206:=func85.trans (congrArg some ai)
 f208:=func212.trans (congrArg some ai)
 t3:=underlying3
 a3:=isAgg3
 z3:=sizeOf3
 v3:=zeroValue3
 t4:=underlying4
 a4:=isAgg4
 z4:=sizeOf4
 v4:=zeroValue4
 t9:=underlying9
 a9:=isAgg9
 z9:=sizeOf9
 v9:=zeroValue9}
open Go.RowKit Go.Lib in
theorem strings_TrimPrefix(s p:ByteArray)(w:Wd):
 Calls prog 189 #[.string s,.string p] w λe w'=>e=.returned (.string ⟨(Lib.trimPrefix s.data.toList p.data.toList).toArray⟩)/\w'=w:=Any.strings_TrimPrefix BI s p w
def rT:Go.Shelf.Ren:=⟨fun|103=>192|210=>215|206=>85|n=>n,fun|9=>9|4=>4|24=>213|3=>3|n=>n,fun|n=>n⟩
theorem BJ:Go.Proofs.Lays.n103 prog rT:={
 mixed:=ai
 f103:=func192.trans (congrArg some ai)
 f206:=func85.trans (congrArg some ai)
 f210:=func215.trans (congrArg some ai)
 t3:=underlying3
 a3:=isAgg3
 z3:=sizeOf3
 v3:=zeroValue3
 t4:=underlying4
 a4:=isAgg4
 z4:=sizeOf4
 v4:=zeroValue4
 t9:=underlying9
 a9:=isAgg9
 z9:=sizeOf9
 v9:=zeroValue9
 t24:=underlying213
 a24:=isAgg213
 z24:=sizeOf213
 v24:=zeroValue213}
open Go.RowKit in
theorem strings_CutPrefix(s p:ByteArray)(w:Wd):
 Calls prog 192 #[.string s,.string p] w λe w'=>e=.returned (.tuple #[.string ⟨(Lib.trimPrefix s.data.toList p.data.toList).toArray⟩,.bool (Lib.hasPrefix s.data.toList p.data.toList)])/\w'=w:=Any.strings_CutPrefix BJ s p w
def rU:Go.Shelf.Ren:=⟨fun|104=>193|211=>216|207=>236|n=>n,fun|9=>9|4=>4|24=>213|3=>3|n=>n,fun|n=>n⟩
theorem BK:Go.Proofs.Lays.n104 prog rU:={
 mixed:=ai
 f104:=func193.trans (congrArg some ai)
 f207:=func236.trans (congrArg some ai)
 f211:=func216.trans (congrArg some ai)
 t3:=underlying3
 a3:=isAgg3
 z3:=sizeOf3
 v3:=zeroValue3
 t4:=underlying4
 a4:=isAgg4
 z4:=sizeOf4
 v4:=zeroValue4
 t9:=underlying9
 a9:=isAgg9
 z9:=sizeOf9
 v9:=zeroValue9
 t24:=underlying213
 a24:=isAgg213
 z24:=sizeOf213
 v24:=zeroValue213}
open Go.RowKit in
theorem strings_CutSuffix(s p:ByteArray)(w:Wd)(hs:s.size<=9223372036854775807):
 Calls prog 193 #[.string s,.string p] w λe w'=>e=.returned (.tuple #[.string ⟨(Lib.trimSuffix s.data.toList p.data.toList).toArray⟩,.bool (Lib.hasSuffix s.data.toList p.data.toList)])/\w'=w:=Any.strings_CutSuffix BK s p w hs
def pY:Go.Shelf.Ren:=⟨fun|173=>164|246=>203|283=>221|284=>222|285=>223|286=>224|129=>242|317=>241|318=>243|319=>244|320=>245|337=>252|338=>253|n=>n,fun|2=>2|3=>3|9=>9|4=>4|171=>246|0=>0|53=>205|37=>22|5=>5|173=>249|212=>262|51=>190|20=>20|213=>263|46=>218|232=>275|233=>276|n=>n,fun|17=>5|18=>9|19=>10|n=>n⟩
theorem yd:Go.Proofs.LaysM.n173 prog pY:={
 mixed:=ai
 f129:=func242.trans (congrArg some ai)
 f173:=func164.trans (congrArg some ai)
 f246:=func203.trans (congrArg some ai)
 f283:=func221.trans (congrArg some ai)
 f284:=func222.trans (congrArg some ai)
 f285:=func223.trans (congrArg some ai)
 f286:=func224.trans (congrArg some ai)
 f317:=func241.trans (congrArg some ai)
 f318:=func243.trans (congrArg some ai)
 f319:=func244.trans (congrArg some ai)
 f320:=func245.trans (congrArg some ai)
 f337:=func252.trans (congrArg some ai)
 f338:=func253.trans (congrArg some ai)
 t0:=underlying0
 a0:=isAgg0
 z0:=sizeOf0
 v0:=zeroValue0
 t2:=underlying2
 a2:=isAgg2
 z2:=sizeOf2
 v2:=zeroValue2
 t3:=underlying3
 a3:=isAgg3
 z3:=sizeOf3
 v3:=zeroValue3
 t4:=underlying4
 a4:=isAgg4
 z4:=sizeOf4
 v4:=zeroValue4
 t5:=underlying5
 a5:=isAgg5
 z5:=sizeOf5
 v5:=zeroValue5
 t9:=underlying9
 a9:=isAgg9
 z9:=sizeOf9
 v9:=zeroValue9
 t20:=underlying20
 a20:=isAgg20
 z20:=sizeOf20
 v20:=zeroValue20
 t37:=underlying22
 a37:=isAgg22
 z37:=sizeOf22
 v37:=zeroValue22
 t46:=underlying218
 a46:=isAgg218
 z46:=sizeOf218
 v46:=zeroValue218
 t51:=underlying190
 a51:=isAgg190
 z51:=sizeOf190
 v51:=zeroValue190
 t53:=underlying205
 a53:=isAgg205
 z53:=sizeOf205
 v53:=zeroValue205
 t171:=underlying246
 a171:=isAgg246
 z171:=sizeOf246
 v171:=zeroValue246
 t173:=underlying249
 a173:=isAgg249
 z173:=sizeOf249
 v173:=zeroValue249
 t212:=underlying262
 a212:=isAgg262
 z212:=sizeOf262
 v212:=zeroValue262
 t213:=underlying263
 a213:=isAgg263
 z213:=sizeOf263
 t232:=underlying275
 a232:=isAgg275
 z232:=sizeOf275
 v232:=zeroValue275
 t233:=underlying276
 a233:=isAgg276
 z233:=sizeOf276
 v233:=zeroValue276
 g17:=ai
 g18:=ai
 g19:=ai
 i0:=ai
 i2:=ai
 i3:=ai
 i4:=ai
 i5:=ai
 i9:=ai
 i20:=ai
 i37:=ai
 i46:=ai
 i51:=ai
 i53:=ai
 i171:=ai
 i173:=ai
 i212:=ai
 i232:=ai
 i233:=ai
 m17:=ai
 m18:=ai
 m19:=by kernel_rfl}
open Go.RowKit Go.Sort Go.Lib in
theorem strconv_FormatInt_10(n:Int)(h0:-9223372036854775808<=n)(h1:n<=9223372036854775807)(w:Wd)(F1:Lib.TabIs prog w "internal/strconv.uint64pow10" .u64 Lib.pow10Tab):
 Calls prog 164 #[.int .i64 n,.int .i64 10] w λe w'=>e=.returned (.string ⟨(Lib.itoa n).toArray⟩)/\∃k os,w'=grow (w.drewN k) os:=Any.strconv_FormatInt_10 yd n h0 h1 w F1
def pZ:Go.Shelf.Ren:=⟨fun|174=>190|247=>213|245=>214|287=>231|279=>232|280=>233|281=>234|282=>235|321=>247|322=>248|316=>249|171=>251|205=>250|243=>254|246=>203|283=>221|284=>222|285=>223|286=>224|129=>242|317=>241|318=>243|319=>244|320=>245|337=>252|338=>253|n=>n,fun|9=>9|3=>3|2=>2|75=>31|85=>211|4=>4|167=>253|5=>5|53=>205|175=>254|46=>218|168=>256|37=>22|0=>0|210=>266|21=>21|127=>93|145=>274|143=>272|171=>246|173=>249|212=>262|51=>190|20=>20|213=>263|232=>275|233=>276|80=>58|n=>n,fun|15=>6|16=>4|17=>5|18=>9|19=>10|n=>n⟩
theorem rV:Go.Proofs.LaysC.n174 prog pZ:={
 mixed:=ai
 f129:=func242.trans (congrArg some ai)
 f171:=func251.trans (congrArg some ai)
 f174:=func190.trans (congrArg some ai)
 f205:=func250.trans (congrArg some ai)
 f243:=func254.trans (congrArg some ai)
 f245:=func214.trans (congrArg some ai)
 f246:=func203.trans (congrArg some ai)
 f247:=func213.trans (congrArg some ai)
 f279:=func232.trans (congrArg some ai)
 f280:=func233.trans (congrArg some ai)
 f281:=func234.trans (congrArg some ai)
 f282:=func235.trans (congrArg some ai)
 f283:=func221.trans (congrArg some ai)
 f284:=func222.trans (congrArg some ai)
 f285:=func223.trans (congrArg some ai)
 f286:=func224.trans (congrArg some ai)
 f287:=func231.trans (congrArg some ai)
 f316:=func249.trans (congrArg some ai)
 f317:=func241.trans (congrArg some ai)
 f318:=func243.trans (congrArg some ai)
 f319:=func244.trans (congrArg some ai)
 f320:=func245.trans (congrArg some ai)
 f321:=func247.trans (congrArg some ai)
 f322:=func248.trans (congrArg some ai)
 f337:=func252.trans (congrArg some ai)
 f338:=func253.trans (congrArg some ai)
 t0:=underlying0
 a0:=isAgg0
 z0:=sizeOf0
 v0:=zeroValue0
 t2:=underlying2
 a2:=isAgg2
 z2:=sizeOf2
 v2:=zeroValue2
 t3:=underlying3
 a3:=isAgg3
 z3:=sizeOf3
 v3:=zeroValue3
 t4:=underlying4
 a4:=isAgg4
 z4:=sizeOf4
 v4:=zeroValue4
 t5:=underlying5
 a5:=isAgg5
 z5:=sizeOf5
 v5:=zeroValue5
 t9:=underlying9
 a9:=isAgg9
 z9:=sizeOf9
 v9:=zeroValue9
 t20:=underlying20
 a20:=isAgg20
 z20:=sizeOf20
 v20:=zeroValue20
 t21:=underlying21
 a21:=isAgg21
 z21:=sizeOf21
 v21:=zeroValue21
 t37:=underlying22
 a37:=isAgg22
 z37:=sizeOf22
 v37:=zeroValue22
 t46:=underlying218
 a46:=isAgg218
 z46:=sizeOf218
 v46:=zeroValue218
 t51:=underlying190
 a51:=isAgg190
 z51:=sizeOf190
 v51:=zeroValue190
 t53:=underlying205
 a53:=isAgg205
 z53:=sizeOf205
 v53:=zeroValue205
 t75:=underlying31
 a75:=isAgg31
 z75:=sizeOf31
 v75:=zeroValue31
 t85:=underlying211
 a85:=isAgg211
 z85:=sizeOf211
 v85:=zeroValue211
 t127:=underlying93
 a127:=isAgg93
 z127:=sizeOf93
 v127:=zeroValue93
 t143:=underlying272
 a143:=isAgg272
 z143:=sizeOf272
 v143:=zeroValue272
 t145:=underlying274
 a145:=isAgg274
 z145:=sizeOf274
 v145:=zeroValue274
 t167:=underlying253
 a167:=isAgg253
 z167:=sizeOf253
 v167:=zeroValue253
 t168:=underlying256
 a168:=isAgg256
 z168:=sizeOf256
 v168:=zeroValue256
 t171:=underlying246
 a171:=isAgg246
 z171:=sizeOf246
 v171:=zeroValue246
 t173:=underlying249
 a173:=isAgg249
 z173:=sizeOf249
 v173:=zeroValue249
 t175:=underlying254
 a175:=isAgg254
 z175:=sizeOf254
 v175:=zeroValue254
 t210:=underlying266
 a210:=isAgg266
 z210:=sizeOf266
 v210:=zeroValue266
 t212:=underlying262
 a212:=isAgg262
 z212:=sizeOf262
 v212:=zeroValue262
 t213:=underlying263
 a213:=isAgg263
 z213:=sizeOf263
 t232:=underlying275
 a232:=isAgg275
 z232:=sizeOf275
 v232:=zeroValue275
 t233:=underlying276
 a233:=isAgg276
 z233:=sizeOf276
 v233:=zeroValue276
 g15:=ai
 g16:=ai
 g17:=ai
 g18:=ai
 g19:=ai
 t80:=underlying58
 a80:=isAgg58
 z80:=sizeOf58
 v80:=zeroValue58
 i0:=ai
 i2:=ai
 i3:=ai
 i4:=ai
 i5:=ai
 i9:=ai
 i20:=ai
 i21:=ai
 i37:=ai
 i46:=ai
 i51:=ai
 i53:=ai
 i75:=ai
 i80:=ai
 i85:=ai
 i127:=ai
 i143:=ai
 i145:=ai
 i167:=ai
 i168:=ai
 i171:=ai
 i173:=ai
 i175:=ai
 i210:=ai
 i212:=ai
 i232:=ai
 i233:=ai
 m15:=ai
 m16:=ai
 m17:=ai
 m18:=ai
 m19:=ai
 c0:=ai
 c2:=ai
 c3:=ai
 c4:=ai
 c5:=ai
 c9:=ai
 c20:=ai
 c21:=ai
 c37:=ai
 c46:=ai
 c51:=ai
 c53:=ai
 c75:=ai
 c80:=ai
 c85:=ai
 c127:=ai
 c143:=ai
 c145:=ai
 c167:=ai
 c168:=ai
 c171:=ai
 c173:=ai
 c175:=ai
 c210:=ai
 c212:=ai
 c213:=ai
 c232:=ai
 c233:=by kernel_rfl}
open Go.RowKit in
theorem strconv_ParseInt_10_at64_ok(s:ByteArray)(TH:s.size<=9223372036854775806)(v:Int)(h:Lib.parseIntB 64 s.data.toList=.ok v)(w:Wd):
 Calls prog 190 #[.string s,.int .i64 10,.int .i64 64] w λe w'=>e=.returned (.tuple #[.int .i64 v,.nilIface])/\(w'=w\/∃t,w'=Lib.bytesWorld w 5 t):=Any.strconv_ParseInt_10_at64_ok rV s TH v h w
open Go.RowKit in
theorem strconv_ParseInt_10_at64_range_var(s:ByteArray)(TI:s.size<=281474976710656)(h:Lib.parseIntB 64 s.data.toList=.range)(tp:TypeId)(p:Va)(w:Wd)(F3:w.var? prog "strconv.ErrRange"=some #[.iface tp p]):
 Calls prog 190 #[.string s,.int .i64 10,.int .i64 64] w λe w'=>∃N,e=.returned (.tuple #[.int .i64 (Lib.intSat 64 s.data.toList),.iface 256 (.pointer (some ⟨N,0,none⟩))])/\w.heap.size<=N/\w'.heap[N]?=some (.cells #[.string ⟨#[80,97,114,115,101,73,110,116]⟩,.string s,.iface tp p] 266 (0,0))/\Below w.heap.size w w':=Any.strconv_ParseInt_10_at64_range_var rV s TI h tp p w F3
def mi:Go.Shelf.Ren:=⟨fun|271=>206|120=>225|197=>226|260=>246|n=>n,fun|9=>9|21=>21|3=>3|4=>4|5=>5|105=>233|119=>156|0=>0|46=>218|139=>271|138=>270|n=>n,fun|3=>7|4=>8|n=>n⟩
theorem BL:Go.Proofs.Lays.n271 prog mi:={
 mixed:=ai
 f120:=func225.trans (congrArg some ai)
 f197:=func226.trans (congrArg some ai)
 f260:=func246.trans (congrArg some ai)
 f271:=func206.trans (congrArg some ai)
 t0:=underlying0
 a0:=isAgg0
 z0:=sizeOf0
 v0:=zeroValue0
 t3:=underlying3
 a3:=isAgg3
 z3:=sizeOf3
 v3:=zeroValue3
 t4:=underlying4
 a4:=isAgg4
 z4:=sizeOf4
 v4:=zeroValue4
 t5:=underlying5
 a5:=isAgg5
 z5:=sizeOf5
 v5:=zeroValue5
 t9:=underlying9
 a9:=isAgg9
 z9:=sizeOf9
 v9:=zeroValue9
 t21:=underlying21
 a21:=isAgg21
 z21:=sizeOf21
 v21:=zeroValue21
 t46:=underlying218
 a46:=isAgg218
 z46:=sizeOf218
 v46:=zeroValue218
 t105:=underlying233
 a105:=isAgg233
 z105:=sizeOf233
 v105:=zeroValue233
 t119:=underlying156
 a119:=isAgg156
 z119:=sizeOf156
 t138:=underlying270
 a138:=isAgg270
 z138:=sizeOf270
 v138:=zeroValue270
 t139:=underlying271
 a139:=isAgg271
 z139:=sizeOf271
 v139:=zeroValue271
 g3:=ai
 g4:=by kernel_rfl}
open Go.RowKit Go.Lib in
theorem utf8_DecodeLastRuneInString(s:ByteArray)(w:Wd)(hs:s.size<=9223372036854775807)(hT:Lib.Utf8Tabs 7 8 w):
 Calls prog 206 #[.string s] w λe w'=>e=.returned (.tuple #[.int .i32 (Lib.decodeLastL s.data.toList).1,.int .i64 (Lib.decodeLastL s.data.toList).2])/\Below w.heap.size w w':=Any.utf8_DecodeLastRuneInString BL s w hs hT
end Go.Proofs
namespace Go.Proofs.YtoddjlclpnoomaaGreatDoor
open Go.Sh
attribute [go_sem] Bo Pk
@[go_sem ↓] theorem cells_str(l:By):(str l).cells=#[str l]:=rfl
variable (w:Wd)
@[go_sem ↓] theorem fC(a:TypeId)(l:By):(len_ #[9] a #[str l]).run prog w=.ok (.int .i64 l.length) w:=by simp[go_sem,str]
@[go_sem ↓] theorem BM(cx cy:Bool)(l m:By):(Bo .eql 9 cx cy (str l) (str m)).run prog w=.ok (.bool (l==m)) w:=by simp[go_sem,str,Bo]
@[go_sem ↓] theorem KN(cx cy:Bool)(l m:By):(Bo .neq 9 cx cy (str l) (str m)).run prog w=.ok (.bool (!(l==m))) w:=by simp[go_sem,str,Bo]
@[go_sem ↓] theorem nq(cx cy:Bool)(l m:By):(Bo .eql 9 cx cy (str l) (.string ⟨m.toArray⟩)).run prog w=.ok (.bool (l==m)) w:=BM w cx cy l m
@[go_sem ↓] theorem KP(cx cy:Bool)(l m:By):(Bo .neq 9 cx cy (str l) (.string ⟨m.toArray⟩)).run prog w=.ok (.bool (!(l==m))) w:=KN w cx cy l m
theorem dU(l:By)(i:Nat)(h:i<l.length):(Instr.index 9 (str l) (.int .i64 i)).run prog w=.ok (.int .u8 (l[i]).toNat) w:=by
 simp[go_sem,str,h];rfl
theorem nr(l:By)(i:Nat)(h:i<=l.length):(sliceAt 9 (str l) (some (.int .i64 i)) none none).run prog w=.ok (str (l.drop i)) w:=by
 simp[go_sem,str,h]
 rw[show({data:=l.toArray}:ByteArray).extract i l.length={data:=(l.drop i).toArray}from by
  simp[ByteArray.extract_mk]
  exact List.take_of_length_le ak]
theorem BN(l:By)(i:Nat)(h:i<=l.length):(sliceAt 9 (str l) none (some (.int .i64 i)) none).run prog w=.ok (str (l.take i)) w:=by
 simp[go_sem,str,h]
 rw[show({data:=l.toArray}:ByteArray).extract 0 i={data:=(l.take i).toArray}from by
  simp[ByteArray.extract_mk]]
theorem BO(cx cy:Bool)(l m:By)(h:l.length+m.length<=9223372036854775807):(Bo .add 9 cx cy (str l) (str m)).run prog w=.ok (str (l++m)) w:=by
 have h':¬9223372036854775807<l.length+m.length:=by omega
 simp[go_sem,str,Bo,h']
 rfl
theorem TJ{b o n c:Nat}(h:1<n)(h2:n<=c):(sliceAt 73 (.slice (some ⟨b,o,none⟩) n c) (some (.int .i64 1)) none none).run prog w=.ok (.slice (some ⟨b,o+4,none⟩) (n-1) (c-1)) w:=by
 have h3:(1:Int)<=n:=by omega
 have h4:¬c=1:=by omega
 simp[go_sem,h3,h4]
theorem mD{b n c k:Nat}(h:k<n):(indexAt 45 (.slice (some ⟨b,0,none⟩) n c) (.int .i64 k)).run prog w=.ok (.pointer (some ⟨b,k,none⟩)) w:=by
 have:(k:Int)<n:=by omega
 simp[go_sem,h,Addr.add]
 rintro rfl;rfl
theorem cC(t:TypeId)(cx cy:Bool)(a b:Int)(h:-9223372036854775808<=a+b)(h':a+b<=9223372036854775807):(Bo .add t cx cy (.int .i64 a) (.int .i64 b)).run prog w=.ok (.int .i64 (a+b)) w:=by
 simp[go_sem,Bo];rw[IntWalk.i64_in _ aj]
theorem fP(t:TypeId)(cx cy:Bool)(a b:Int)(h:-9223372036854775808<=a-b)(h':a-b<=9223372036854775807):(Bo .sub t cx cy (.int .i64 a) (.int .i64 b)).run prog w=.ok (.int .i64 (a-b)) w:=by
 simp[go_sem,Bo];rw[IntWalk.i64_in _ aj]
end Go.Proofs.YtoddjlclpnoomaaGreatDoor

namespace Go.Proofs.YtoddjlclpnoomaaGreatDoor
open Go.Sh
inductive Tr where
 |nil
 |hole
 |cons (a b:Tr)
 |ex (kind n:Int) (text:By) (l r keys args:Tr) (params:LB) (body:Tr)
 |st (kind:Int) (name:By) (l r KQ a b:Tr)
inductive Md where
 |P (v:Va)
 |L (v:Va)
 |E (b o n:Nat)
def ptr(b:Nat):Va:=.pointer (some ⟨b,0,none⟩)
def Strs(F:Nat->Prop)(w:Wd)(v:Va)(ss:LB):Prop:=
 (v=.slice none 0 0/\ss=[])\/∃b c cs,v=.slice (some ⟨b,0,none⟩) ss.length c/\F b/\At w b cs/\cs.take ss.length=ss.map str/\ss.length<=c
def aP(F:Nat->Prop)(w:Wd):Tr->Md->Prop
 |.hole,_=>True
 |.nil,.P v=>v=.pointer none
 |.nil,.L v=>v=.slice none 0 0\/∃b c,v=.slice (some ⟨b,0,none⟩) 0 c
 |.nil,.E _ _ n=>n=0
 |.cons a t,.L v=>∃b n c u,v=.slice (some ⟨b,0,none⟩) (n+1) c/\n+1<=c/\F b/\w.cell? ⟨b,0,none⟩=some u/\aP F w a (.P u)/\aP F w t (.E b 1 n)
 |.cons a t,.E b o n=>∃m u,n=m+1/\w.cell? ⟨b,o,none⟩=some u/\F b/\aP F w a (.P u)/\aP F w t (.E b (o+1) m)
 |.ex k n text l r keys args params body,.P v=>∃b line lv rv kv av pv bv,v=ptr b/\F b/\
   At w b [.int .i64 k,.int .i64 line,.int .i64 n,str text,lv,rv,kv,av,pv,bv]/\
   aP F w l (.P lv)/\aP F w r (.P rv)/\aP F w keys (.L kv)/\aP F w args (.L av)/\Strs F w pv params/\aP F w body (.L bv)
 |.st k name l r KQ a b,.P v=>∃c line lv rv tv av bv,v=ptr c/\F c/\
   At w c [.int .i64 k,.int .i64 line,str name,lv,rv,tv,av,bv]/\
   aP F w l (.P lv)/\aP F w r (.P rv)/\aP F w KQ (.P tv)/\aP F w a (.L av)/\aP F w b (.L bv)
 |_,_=>False
theorem qc{w:Wd}{a:Addr}{v:Va}(hc:w.cell? a=some v):a.block<w.heap.size:=by
 unfold cell? at hc;rcases lt_or_ge a.block w.heap.size with h'|h'
 .exact h'
 .rw[Array.getElem?_eq_none h']at hc;cases hc
theorem Strs.aA{F G:Nat->Prop}{w w':Wd}{M:List Nat}(hk:aD M w w')(hM:∀b,F b->b<w.heap.size->b∉M/\G b){v:Va}{ss:LB}
  (h:Strs F w v ss):Strs G w' v ss:=by
 rcases h with h|⟨b,c,cs,h1,h2,h3,h4⟩
 .exact .inl h
 .exact .inr ⟨b,c,cs,h1,(hM b h2 h3.lt).2,hk.at h3 (hM b h2 h3.lt).1,h4⟩
theorem aP.aA{F G:Nat->Prop}{w w':Wd}{M:List Nat}(hk:aD M w w')(hM:∀b,F b->b<w.heap.size->b∉M/\G b):
  ∀(t:Tr) (m:Md),aP F w t m->aP G w' t m:=by
 intro t;induction t with
 |hole=>intro m _;cases m<;>trivial
 |nil=>intro m h;cases m<;>exact h
 |cons a t Ic Rn=>
  intro m h
  cases m with
  |P v=>exact h
  |L v=>
   obtain⟨b,n,c,u,h1,h2,h3,h4,h5,h6⟩:=h;have:=hM b h3 (qc h4);exact⟨b,n,c,u,h1,h2,this.2,hk.cell h4 this.1,Ic _ h5,Rn _ h6⟩
  |E b o n=>
   obtain⟨m,u,h1,h2,h3,h4,h5⟩:=h;have:=hM b h3 (qc h2);exact⟨m,u,h1,hk.cell h2 this.1,this.2,Ic _ h4,Rn _ h5⟩
 |ex k n text l r keys args params body TK TL ihk Ic TM=>
  intro m h
  cases m with
  |P v=>
   obtain⟨b,line,lv,rv,kv,av,pv,bv,h1,h2,h3,h4,h5,h6,h7,h8,h9⟩:=h;have:=hM b h2 h3.lt;exact⟨b,line,lv,rv,kv,av,pv,bv,h1,this.2,hk.at h3 this.1,TK _ h4,TL _ h5,ihk _ h6,Ic _ h7,h8.aA hk hM,TM _ h9⟩
  |L v=>exact h
  |E b o n=>exact h
 |st k name l r KQ a b TK TL Rn Ic TM=>
  intro m h
  cases m with
  |P v=>
   obtain⟨c,line,lv,rv,tv,av,bv,h1,h2,h3,h4,h5,h6,h7,h8⟩:=h;have:=hM c h2 h3.lt;exact⟨c,line,lv,rv,tv,av,bv,h1,this.2,hk.at h3 this.1,TK _ h4,TL _ h5,Rn _ h6,Ic _ h7,TM _ h8⟩
  |L v=>exact h
  |E b o n=>exact h
theorem aP.imp{F G:Nat->Prop}{w:Wd}(hM:∀b,F b->b<w.heap.size->G b)(t:Tr)(m:Md)(h:aP F w t m):aP G w t m:=
 aP.aA (aD.refl [] w) (λb h1 h2=>⟨by simp,hM b h1 h2⟩) t m h
theorem aP.new{F:Nat->Prop}{w w':Wd}(hk:aD [] w w')(t:Tr)(m:Md)(h:aP F w t m):aP F w' t m:=
 aP.aA hk (λb h1 h2=>⟨by simp,h1⟩) t m h
def snoc:Tr->Tr->Tr
 |.cons a t,x=>.cons a (snoc t x)
 |_,x=>.cons x .nil
def dM:Tr->Bool
 |.nil=>true
 |.cons _ t=>dM t
 |_=>false
def len:Tr->Nat
 |.cons _ t=>len t+1
 |_=>0
theorem vk{F:Nat->Prop}{w:Wd}:∀(t:Tr) (b o n:Nat),dM t=true->aP F w t (.E b o n)->n=len t
 |.nil,b,o,n,_,h=>h
 |.cons a t,b,o,n,hl,⟨m,u,h1,_,_,_,h5⟩=>by rw[h1,vk t b (o+1) m hl h5];rfl
end Go.Proofs.YtoddjlclpnoomaaGreatDoor
namespace Go.Proofs.YtoddjlclpnoomaaGreatDoor
structure Tok where
 kind:Int
 text:By
 n:Int
 line:Int
abbrev LT:=List Tok
def bG:LT->LT
 |_::u::ts=>u::ts
 |l=>l
def gw(t:Tok)(ss:LB):Bool:=t.kind==4&&ss.contains t.text
def dQ(t:Tok):Bool:=t.kind==5||gw t [[101,110,100],[101,108,115,101],[101,108,115,101,105,102],[99,97,116,99,104]]
def bD(s:By):Int:=
 if s=[111,114]then 1 else if s=[97,110,100]then 2 else if s=[60]\/s=[60,61]\/s=[62]\/s=[62,61]\/s=[61,61]\/s=[126,61]then 3
 else if s=[124]then 4 else if s=[126]then 5 else if s=[38]then 6 else if s=[60,60]\/s=[62,62]then 7 else if s=[46,46]then 8
 else if s=[43]\/s=[45]then 9 else if s=[42]\/s=[47,47]\/s=[37]then 10 else 0
def hd:LT->Tok
 |t::_=>t
 |[]=>⟨5,[],0,0⟩
inductive bN where
 |ok (t:Tr) (ts:LT) (own:Bool)
 |fail (code:Int)
 |bH
def bN.bind(r:bN)(f:Tr->LT->Bool->bN):bN:=match r with
 |.ok t ts own=>f t ts own
 |.fail c=>.fail c
 |.bH=>.bH
def bC(s:By)(ts:LT):Bool:=gw (hd ts) [s]
def aR(s:By)(ts:LT)(f:LT->bN):bN:=match bC s ts with
 |true=>f (bG ts)
 |false=>.fail 4
def cU(ts:LT)(f:By->LT->bN):bN:=match(hd ts).kind==1 with
 |true=>f (hd ts).text (bG ts)
 |false=>.fail 4
def cD(deep:Int)(f:Int->bN):bN:=match decide (64<deep+1)with
 |true=>.fail 3
 |false=>f (deep+1)
def lf(kind n:Int)(text:By):Tr:=.ex kind n text .nil .nil .nil .nil [] .nil
def kindOf:Tr->Int
 |.ex k ..=>k
 |.st k ..=>k
 |_=>0
inductive Cl where
 |block|fD (acc:Tr)
 |inner (s:By)
 |stmt|simple|lM|branch
 |func (named:Bool)
 |params (acc:LB)
 |expr (ef:Int)|exprL (left:Tr) (ef:Int)|bin (left:Tr) (n:Int)
 |operand|post|dH (e:Tr) (own:Bool)|dz|signed
 |bracket (l:Tr)
 |args (acc:Tr)|items (keys acc:Tr)|item
def nt:By:=[108,111,99,97,108]
def bR:By:=[102,117,110,99,116,105,111,110]
def qd:By:=[100,111]
def nu:By:=[119,104,105,108,101]
def ye:By:=[102,111,114]
def DG:By:=[105,102]
def gM:By:=[114,101,116,117,114,110]
def ke:By:=[98,114,101,97,107]
def nv:By:=[116,114,121]
def cT:By:=[101,110,100]
def rW:By:=[116,104,101,110]
def eu:By:=[101,108,115,101]
def eR:By:=[101,108,115,101,105,102]
def fa:By:=[99,97,116,99,104]
def lO:By:=[110,105,108]
def ie:By:=[116,114,117,101]
def fE:By:=[102,97,108,115,101]
def mE:By:=[110,111,116]
def run:Nat->Cl->Int->LT->bN
 |0,_,_,_=>.bH
 |n+1,c,deep,ts=>match c with
  |.block=>run n (.fD .nil) deep ts
  |.fD acc=>match dQ (hd ts)with
   |true=>.ok acc ts false
   |false=>(run n .stmt deep ts).bind λs ts _=>match kindOf s==8 with
    |true=>.ok (snoc acc s) ts false
    |false=>run n (.fD (snoc acc s)) deep ts
  |.inner s=>match bC s ts with
   |false=>.fail 4
   |true=>cD deep λd=>run n .block d (bG ts)
  |.stmt=>match(hd ts).kind==4 with
   |false=>run n .simple deep ts
   |true=>
    if(hd ts).text=nt then run n .lM deep ts
    else if(hd ts).text=bR then(run n (.func true) deep ts).bind λr ts _=>match r with
     |.cons f (.cons nm .nil)=>.ok (.st 2 [] nm f .nil .nil .nil) ts false
     |_=>.bH
    else if(hd ts).text=qd then(run n (.inner qd) deep ts).bind λa ts _=>aR cT ts λts=>.ok (.st 4 [] .nil .nil .nil a .nil) ts false
    else if(hd ts).text=nu then(run n (.expr 0) deep (bG ts)).bind λr ts _=>(run n (.inner qd) deep ts).bind λa ts _=>aR cT ts λts=>.ok (.st 5 [] .nil r .nil a .nil) ts false
    else if(hd ts).text=ye then cU (bG ts) λnm ts=>aR [61] ts λts=>(run n (.expr 0) deep ts).bind λr ts _=>aR [44] ts λts=>
     (run n (.expr 0) deep ts).bind λKQ ts _=>(run n (.inner qd) deep ts).bind λa ts _=>aR cT ts λts=>.ok (.st 7 nm .nil r KQ a .nil) ts false
    else if(hd ts).text=DG then(run n .branch deep (bG ts)).bind λs ts _=>aR cT ts λts=>.ok s ts false
    else if(hd ts).text=gM then match dQ (hd (bG ts))with
     |true=>.ok (.st 8 [] .nil .nil .nil .nil .nil) (bG ts) false
     |false=>(run n (.expr 0) deep (bG ts)).bind λr ts _=>match dQ (hd ts)with
      |true=>.ok (.st 8 [] .nil r .nil .nil .nil) ts false
      |false=>.fail 4
    else if(hd ts).text=ke then .ok (.st 9 [] .nil .nil .nil .nil .nil) (bG ts) false
    else if(hd ts).text=nv then(run n (.inner nv) deep ts).bind λa ts _=>match bC fa ts with
     |false=>.fail 4
     |true=>cD deep λd=>cU (bG ts) λnm ts=>(run n .block d ts).bind λb ts _=>aR cT ts λts=>.ok (.st 10 nm .nil .nil .nil a b) ts false
    else run n .simple deep ts
  |.simple=>(run n .post deep ts).bind λe ts own=>
   match bC [61] ts&&!own&&(kindOf e==6||kindOf e==7)with
   |true=>(run n (.expr 0) deep (bG ts)).bind λr ts _=>.ok (.st 2 [] e r .nil .nil .nil) ts false
   |false=>match !bC [61] ts&&!own&&kindOf e==8 with
    |true=>.ok (.st 3 [] .nil e .nil .nil .nil) ts false
    |false=>.fail 4
  |.lM=>match bC bR (bG ts)with
   |true=>(run n (.func true) deep (bG ts)).bind λr ts _=>match r with
     |.cons f (.cons (.ex _ _ nm _ _ _ _ _ _) .nil)=>.ok (.st 11 nm .nil f .nil .nil .nil) ts false
     |_=>.bH
   |false=>cU (bG ts) λnm ts=>match bC [61] ts with
    |true=>(run n (.expr 0) deep (bG ts)).bind λr ts _=>.ok (.st 1 nm .nil r .nil .nil .nil) ts false
    |false=>.ok (.st 1 nm .nil .nil .nil .nil .nil) ts false
  |.branch=>(run n (.expr 0) deep ts).bind λr ts _=>(run n (.inner rW) deep ts).bind λa ts _=>match bC eR ts with
   |true=>(run n .branch deep (bG ts)).bind λs ts _=>.ok (.st 6 [] .nil r .nil a (.cons s .nil)) ts false
   |false=>match bC eu ts with
    |true=>(run n (.inner eu) deep ts).bind λb ts _=>.ok (.st 6 [] .nil r .nil a b) ts false
    |false=>.ok (.st 6 [] .nil r .nil a .nil) ts false
  |.func named=>cD deep λd=>aR bR ts λts=>match named with
   |true=>cU ts λnm ts=>match bC [40] ts with
    |false=>.fail 4
    |true=>cD d λd2=>match bC [41] (bG ts)with
     |true=>(run n .block d (bG (bG ts))).bind λb ts _=>aR cT ts λts=>.ok (.cons (.ex 9 0 [] .nil .nil .nil .nil [] b) (.cons (lf 6 0 nm) .nil)) ts false
     |false=>(run n (.params []) d2 (bG ts)).bind λps ts _=>match ps with
      |.ex _ _ _ _ _ _ _ pl _=>aR [41] ts λts=>(run n .block d ts).bind λb ts _=>aR cT ts λts=>.ok (.cons (.ex 9 0 [] .nil .nil .nil .nil pl b) (.cons (lf 6 0 nm) .nil)) ts false
      |_=>.bH
   |false=>match bC [40] ts with
    |false=>.fail 4
    |true=>cD d λd2=>match bC [41] (bG ts)with
     |true=>(run n .block d (bG (bG ts))).bind λb ts _=>aR cT ts λts=>.ok (.ex 9 0 [] .nil .nil .nil .nil [] b) ts false
     |false=>(run n (.params []) d2 (bG ts)).bind λps ts _=>match ps with
      |.ex _ _ _ _ _ _ _ pl _=>aR [41] ts λts=>(run n .block d ts).bind λb ts _=>aR cT ts λts=>.ok (.ex 9 0 [] .nil .nil .nil .nil pl b) ts false
      |_=>.bH
  |.params acc=>cU ts λnm ts=>match bC [44] ts with
   |true=>run n (.params (acc++[nm])) deep (bG ts)
   |false=>.ok (.ex 0 0 [] .nil .nil .nil .nil (acc++[nm]) .nil) ts false
  |.expr ef=>(run n .operand deep ts).bind λl ts _=>run n (.exprL l ef) deep ts
  |.exprL l ef=>match !((hd ts).kind==4)||decide (bD (hd ts).text<=ef)with
   |true=>.ok l ts false
   |false=>(run n (.bin l (bD (hd ts).text)) deep ts).bind λe ts _=>run n (.exprL e ef) deep ts
  |.bin l k=>match(hd ts).text==[46,46]with
   |true=>cD deep λd=>(run n (.expr (k-1)) d (bG ts)).bind λr bX _=>.ok (.ex 11 0 (hd ts).text l r .nil .nil [] .nil) bX false
   |false=>(run n (.expr k) deep (bG ts)).bind λr bX _=>.ok (.ex 11 0 (hd ts).text l r .nil .nil [] .nil) bX false
  |.operand=>match gw (hd ts) [mE,[45],[35],[126]]with
   |false=>run n .post deep ts
   |true=>cD deep λd=>(run n .operand d (bG ts)).bind λr bX _=>.ok (.ex 10 0 (hd ts).text .nil r .nil .nil [] .nil) bX false
  |.post=>(run n .dz deep ts).bind λe bX _=>run n (.dH e (bC [40] ts)) deep bX
  |.dH e own=>match bC [91] ts with
   |true=>(run n (.bracket e) deep ts).bind λe ts _=>run n (.dH e false) deep ts
   |false=>match bC [46] ts with
    |true=>cU (bG ts) λnm ts=>run n (.dH (.ex 7 0 [] e (lf 5 0 nm) .nil .nil [] .nil) false) deep ts
    |false=>match bC [40] ts with
     |true=>cD deep λd=>match bC [41] (bG ts)with
      |true=>run n (.dH (.ex 8 0 [] e .nil .nil .nil [] .nil) false) deep (bG (bG ts))
      |false=>(run n (.args .nil) d (bG ts)).bind λew ts _=>aR [41] ts λts=>run n (.dH (.ex 8 0 [] e .nil .nil ew [] .nil) false) deep ts
     |false=>.ok e ts own
  |.dz=>if(hd ts).kind=1 then .ok (lf 6 0 (hd ts).text) (bG ts) false
   else if(hd ts).kind=2 then .ok (lf 4 (hd ts).n []) (bG ts) false
   else if(hd ts).kind=3 then .ok (lf 5 0 (hd ts).text) (bG ts) false
   else run n .signed deep ts
  |.signed=>if bC lO ts then .ok (lf 1 0 []) (bG ts) false else if bC ie ts then .ok (lf 2 0 []) (bG ts) false else if bC fE ts then .ok (lf 3 0 []) (bG ts) false
   else if bC [40] ts then cD deep λd=>(run n (.expr 0) d (bG ts)).bind λe ts _=>aR [41] ts λts=>.ok e ts false
   else if bC bR ts then run n (.func false) deep ts
   else if bC [123] ts then cD deep λd=>match bC [125] (bG ts)with
    |true=>.ok (.ex 12 0 [] .nil .nil .nil .nil [] .nil) (bG (bG ts)) false
    |false=>(run n (.items .nil .nil) d (bG ts)).bind λr ts _=>match r with
     |.cons ks (.cons ew .nil)=>aR [125] ts λts=>.ok (.ex 12 0 [] .nil .nil ks ew [] .nil) ts false
     |_=>.bH
   else .fail 4
  |.bracket l=>cD deep λd=>aR [91] ts λts=>(run n (.expr 0) d ts).bind λr ts _=>aR [93] ts λts=>.ok (.ex 7 0 [] l r .nil .nil [] .nil) ts false
  |.args acc=>(run n (.expr 0) deep ts).bind λa ts _=>match bC [44] ts with
   |true=>run n (.args (snoc acc a)) deep (bG ts)
   |false=>.ok (snoc acc a) ts false
  |.items ks ew=>(run n .item deep ts).bind λr ts _=>match r with
   |.cons k (.cons a .nil)=>(match bC [44] ts with
    |true=>run n (.items (snoc ks k) (snoc ew a)) deep (bG ts)
    |false=>.ok (.cons (snoc ks k) (.cons (snoc ew a) .nil)) ts false)
   |_=>.bH
  |.item=>
   if(hd ts).kind=1/\1<ts.length/\bC [61] (bG ts)=true then(run n (.expr 0) deep (bG (bG ts))).bind λa bX _=>.ok (.cons (lf 5 0 (hd ts).text) (.cons a .nil)) bX false
   else if bC [91] ts then(run n (.bracket .nil) deep ts).bind λk ts _=>match k with
    |.ex _ _ _ _ r _ _ _ _=>aR [61] ts λts=>(run n (.expr 0) deep ts).bind λa ts _=>.ok (.cons r (.cons a .nil)) ts false
    |_=>.bH
   else(run n (.expr 0) deep ts).bind λa ts _=>.ok (.cons .nil (.cons a .nil)) ts false
def lP(n:Nat)(ts:LT):bN:=(run n .block 0 ts).bind λb ts _=>match(hd ts).kind==5 with
 |true=>.ok b ts false
 |false=>.fail 4
def du:By:=[97,98,99,100,101,102,103,104,105,106,107,108,109,110,111,112,113,114,115,116,117,118,119,120,121,122,65,66,67,68,69,70,71,72,73,74,75,76,77,78,79,80,81,82,83,84,85,86,87,88,89,90,95]
def cA:By:=[48,49,50,51,52,53,54,55,56,57]
def iX:By:=[43,45,42,37,38,124,126,60,62,61,46,44,40,41,91,93,123,125,35]
def gX:By:=[47,47,32,60,60,32,62,62,32,61,61,32,126,61,32,60,61,32,62,61,32,46,46]
def qf:By:=[32,97,110,100,32,98,114,101,97,107,32,99,97,116,99,104,32,100,111,32,101,108,115,101,32,101,108,115,101,105,102,32,101,110,100,32,102,97,108,115,101,32,102,111,114,32,102,117,110,99,116,105,111,110,32,105,102,32,108,111,99,97,108,32,110,105,108,32,110,111,116,32,111,114,32,114,101,116,117,114,110,32,116,104,101,110,32,116,114,117,101,32,116,114,121,32,119,104,105,108,101,32]
def ia(s set:By):Nat:=(s.takeWhile (λc=>set.contains c)).length
def gY(s:By):Bool:=!(s==[])&&!(Lib.contains s [32])&&Lib.contains qf ([32]++s++[32])
def qh(d:By):Nat:=d.foldl (λa c=>10*a+(c.toNat-48)) 0
def iG(d:By):Int×Int:=
 if d.headD 0=48/\d≠[48]then(0,4)else if 9223372036854775808<=qh d then(0,15)else(qh d,0)
def dj(c:UInt8):Int:=if 48<=c/\c<=57 then(c.toNat:Int)-48 else if 97<=c/\c<=102 then(c.toNat:Int)-97+10 else-1
def AU(c:UInt8):Option UInt8:=if c=110 then some 10 else if c=116 then some 9 else if c=92 then some 92 else if c=34 then some 34 else none
def ny(s:By):Option (UInt8×Nat):=match s with
  |[]=>none
  |c::l=>if c<32\/126<c\/c=34\/(c=92/\l=[])then none
    else if c=92 then
      (if l.headD 0=120 then(if s.length<4\/dj (s.getD 2 0)<0\/dj (s.getD 3 0)<0 then none else some (UInt8.ofNat ((dj (s.getD 2 0)).toNat*16+(dj (s.getD 3 0)).toNat),4))
       else match AU (l.headD 0)with|some v=>some (v,2)|none=>none)
    else some (c,1)
def eI:Nat->By->Option (By)
 |0,_=>none
 |n+1,s=>if s=[]then some []else match ny s with
  |none=>none
  |some (c,k)=>(eI n (s.drop k)).map (c::·)
def iH(m:By):By×Int:=match eI (m.length+1) m with
 |none=>([],4)
 |some b=>if 4096<b.length then([],3)else(b,0)
inductive WR where
 |tok (t:Tok) (n:Nat)
 |err (c:Int)
def fb:By->Nat->Option Nat
 |[],_=>none
 |c::l,k=>if c=34 then some k else if c=92 then(match l with|[]=>none|_::l'=>fb l' (k+2))else fb l (k+1)
def mF(s:By):WR:=match fb ((s.takeWhile (λc=>!(c==10))).drop 1) 1 with
 |none=>.err 14
 |some k=>match iH ((s.take k).drop 1)with
  |(t,e)=>if e=0 then .tok ⟨3,t,0,0⟩ (k+1)else if e=4 then .err 14 else .err e
def mG(s:By):WR:=match iG (s.take (ia s cA))with
 |(v,e)=>if e=4\/du.contains ((s.drop (ia s cA)).headD 0)=true then .err 14 else if e=0 then .tok ⟨2,s.take (ia s cA),v,0⟩ (ia s cA)else .err e
def eT(s:By):WR:=
 if du.contains (s.headD 0)=true then
  (if 24<ia s (du++cA)then .err 14 else .tok ⟨if gY (s.take (ia s (du++cA)))=true then 4 else 1,s.take (ia s (du++cA)),0,0⟩ (ia s (du++cA)))
 else if cA.contains (s.headD 0)=true then mG s
 else if s.headD 0=34 then mF s
 else if 1<s.length/\(s.take 2).contains 32=false/\Lib.contains gX (s.take 2)=true then .tok ⟨4,s.take 2,0,0⟩ 2
 else if iX.contains (s.headD 0)=true then .tok ⟨4,s.take 1,0,0⟩ 1
 else .err 14
inductive LR where
 |ok (ts:LT)
 |fail (c:Int)
def LR.cons(t:Tok):LR->LR
 |.ok ts=>.ok (t::ts)
 |.fail c=>.fail c
def jK(line:Int):Tok:=⟨5,[],0,line⟩
def Tok.at(t:Tok)(line:Int):Tok:={t with line:=line}
def dF:Nat->By->Int->LR
 |0,_,line=>.ok [jK line]
 |n+1,s,line=>if s=[]then .ok [jK line]
  else if s.headD 0=10 then dF n (s.drop 1) (line+1)
  else if[32,9,13].contains (s.headD 0)=true then dF n (s.drop 1) line
  else if s.take 2=[45,45]then(if s.contains 10=true then dF n (s.dropWhile (λc=>!(c==10))) line else .ok [jK line])
  else match eT s with
   |.err c=>.fail c
   |.tok t k=>(dF n (s.drop k) line).cons (t.at line)
def kF(s:By):LR:=if 32768<s.length then .fail 3 else dF (s.length+1) s 0
end Go.Proofs.YtoddjlclpnoomaaGreatDoor
namespace Go.Sh
variable {P:Program}{w:Wd}
theorem aD.grown{w w':Wd}{row:Option Nat}(h:w.grownBy w' row):aD row.toList w w':=
 ⟨h.size,λb hb hn=>h.block b hb λe=>hn (by rw[←e];simp),h.os,h.output⟩
theorem gC(t ty e:TypeId)(i:TypeInfo)(z:Va)(size bytes:Nat)(ht:P.underlying t=some (.slice e))(hi:P.info? e=some i)(hz:i.zero=some z)
  (rX:i.size=size) (KS:i.bytes=bytes) (Ro:z.cells.size=size) (Ia:0<size)
  (v:Va) (n:Nat) (xs:LV) (fV:w.ownsRow 0 e size v n xs)
  (a:Addr) (m c:Nat) (news:LV) (hl:news.length=m*size) (vl:∀j u,news[j]?=some u->w.cell? (a.add j)=some u) (h1:∀u∈news,u.oneCell'=true)
  (xn:n+m<=maxLen) (ua:(n+m)*bytes<=140737488355328):
  ∃v' w',(append_ #[t,t] ty #[v,.slice (some a) m c]).run P w=.ok v' w'/\w'.ownsRow 0 e size v' (n+m) (xs++news)/\aD v.ownBlock.toList w w'/\
   (v'.ownBlock=v.ownBlock\/∃g,v'.ownBlock=some g/\w.heap.size<=g):=by
 obtain⟨v',w',hr,ho,hg,hn⟩:=run_append_own (P:=P) w 0 t ty e i z size bytes ht hi hz rX KS Ro Ia v n xs fV a m c news hl vl h1 xn ua (Nat.zero_le _);refine⟨v',w',hr,ho,aD.grown hg,?_⟩;rcases fV.2 with⟨rfl,rfl⟩|⟨g,cap,cur,rfl,ZF,Rr,ZG,ZH,jn,oZ⟩
 .obtain⟨v2,w2,gO,KT,_,_⟩:=run_append_own (P:=P) w w.heap.size t ty e i z size bytes ht hi hz rX KS Ro Ia (.slice none 0 0) 0 xs ⟨fV.1,.inl ⟨rfl,rfl⟩⟩ a m c news hl vl h1 xn ua (le_refl _);rw[hr]at gO
  cases gO
  rcases KT.2 with⟨rfl,_⟩|⟨g,cap,cur,rfl,hb,_⟩
  .exact .inl rfl
  .exact .inr ⟨g,rfl,hb⟩
 .subst rX;by_cases vn:n+m<=cap
  .have TN:n*i.size+news.length<=cur.size:=by rw[hl,jn,←Nat.add_mul];exact Nat.mul_le_mul_right _ vn
   have gO:=run_append_room (P:=P) w t ty e i ht hi g n cap cur Rr a m c news hl vl h1 vn TN;rw[hr]at gO
   cases gO
   exact .inl rfl
  .have hsmall:n+m<=9223372036854775807:=by simp only[maxLen]at xn;omega
   subst KS;have holds:∀j u,xs[j]?=some u->w.cell? ((⟨g,0,none⟩:Addr).add j)=some u:=World.ownsRow.cells (base:=0) ⟨fV.1,.inr ⟨g,cap,cur,rfl,ZF,Rr,ZG,ZH,jn,oZ⟩⟩ (g:=g) rfl;have gO:=run_append_grow (P:=P) w t ty e i z ht hi hz ⟨g,0,none⟩ n cap xs fV.1 holds a m c news hl vl aj aj (growslice_fits aj ua);rw[hr]at gO
   cases gO
   exact .inr ⟨_,rfl,le_refl _⟩
end Go.Sh

