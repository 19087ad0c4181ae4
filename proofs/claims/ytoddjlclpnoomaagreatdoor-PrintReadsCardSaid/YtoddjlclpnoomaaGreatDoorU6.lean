import Derived.IntWalk
import Derived.Lib.IndexMore
import Derived.OwnWalk
import Derived.Shelf.LaysC
import Derived.Shelf.LaysM
import Derived.Shelf.Small.Strs
import Derived.Shelf.Small.Wraps
import Derived.Shelf.Strconv.ErrVarParseInt
import Derived.Shelf.Strconv.Itoa4
import Derived.Shelf.Strconv.ParseIntPublic10
import Derived.Shelf.Strings.Cut
import Derived.Shelf.Strings.Fields
import Derived.Shelf.Strings.Prefix
import Derived.Shelf.Strings.Search3
import Derived.Shelf.Unicode.DecodeLast
import Derived.Test.YtoddjlclpnoomaaGreatDoorU3
set_option linter.unusedVariables false
set_option linter.unusedSimpArgs false
set_option maxRecDepth 100000
open Go.Proofs.Tryz
open Go.Instr (sliceAt indexAt)
open Nat (lt_or_ge le_refl)
open Go.Builtin (append_ len_)
open Go.World (cell?)
namespace Go.Proofs
open Go.Shelf
def qh:Go.Shelf.Ren:=⟨fun|137=>53|217=>86|266=>147|n=>n,fun|9=>9|5=>5|3=>3|n=>n,fun|n=>n⟩
theorem zH:Go.Proofs.Lays.n137 prog qh:={
 mixed:=ai
 f137:=func53.trans (congrArg some ai)
 f217:=func86.trans (congrArg some ai)
 f266:=func147.trans (congrArg some ai)
 t3:=underlying3
 a3:=isAgg3
 z3:=sizeOf3
 v3:=zeroValue3
 t5:=underlying5
 a5:=isAgg5
 z5:=sizeOf5
 v5:=zeroValue5
 t9:=underlying9
 a9:=isAgg9
 z9:=sizeOf9
 v9:=zeroValue9}
open Go.RowKit in
theorem strings_IndexByte(s:ByteArray)(c:Int)(w:Wd):
 Calls prog 53 #[.string s,.int .u8 c] w λe w'=>e=.returned (.int .i64 (Lib.indexByte s.data.toList c.toNat.toUInt8))/\w'=w:=Any.strings_IndexByte zH s c w
def qi:Go.Shelf.Ren:=⟨fun|144=>92|143=>152|219=>196|217=>86|225=>217|224=>218|267=>219|266=>147|314=>237|n=>n,fun|9=>9|4=>4|3=>3|5=>5|46=>218|146=>259|51=>190|n=>n,fun|1=>3|n=>n⟩
theorem zI:Go.Proofs.Lays.n144 prog qi:={
 mixed:=ai
 f143:=func152.trans (congrArg some ai)
 f144:=func92.trans (congrArg some ai)
 f217:=func86.trans (congrArg some ai)
 f219:=func196.trans (congrArg some ai)
 f224:=func218.trans (congrArg some ai)
 f225:=func217.trans (congrArg some ai)
 f266:=func147.trans (congrArg some ai)
 f267:=func219.trans (congrArg some ai)
 f314:=func237.trans (congrArg some ai)
 t3:=underlying3
 a3:=isAgg3
 z3:=sizeOf3
 v3:=zeroValue3
 t4:=underlying4
 a4:=isAgg4
 z4:=sizeOf4
 v4:=zeroValue4
 t5:=underlying5
 a5:=isAgg5
 z5:=sizeOf5
 v5:=zeroValue5
 t9:=underlying9
 a9:=isAgg9
 z9:=sizeOf9
 v9:=zeroValue9
 t46:=underlying218
 a46:=isAgg218
 z46:=sizeOf218
 v46:=zeroValue218
 t51:=underlying190
 a51:=isAgg190
 z51:=sizeOf190
 v51:=zeroValue190
 t146:=underlying259
 a146:=isAgg259
 z146:=sizeOf259
 v146:=zeroValue259
 g1:=by kernel_rfl}
open Go.RowKit Go.Lib in
theorem strings_Contains(s sub:ByteArray)(m:Int)(w:Wd)(hs:s.size<4294967281)(hm:w.cell? ⟨3,0,none⟩=some (.int .i64 m)):
 Calls prog 92 #[.string s,.string sub] w λe w'=>e=.returned (.bool (Lib.contains s.data.toList sub.data.toList))/\w'=w:=Any.strings_Contains zI s sub m w hs hm
def qj:Go.Shelf.Ren:=⟨fun|145=>149|220=>191|219=>196|217=>86|225=>217|224=>218|267=>219|266=>147|314=>237|n=>n,fun|9=>9|4=>4|59=>178|3=>3|5=>5|46=>218|146=>259|51=>190|n=>n,fun|1=>3|n=>n⟩
theorem zJ:Go.Proofs.Lays.n145 prog qj:={
 mixed:=ai
 f145:=func149.trans (congrArg some ai)
 f217:=func86.trans (congrArg some ai)
 f219:=func196.trans (congrArg some ai)
 f220:=func191.trans (congrArg some ai)
 f224:=func218.trans (congrArg some ai)
 f225:=func217.trans (congrArg some ai)
 f266:=func147.trans (congrArg some ai)
 f267:=func219.trans (congrArg some ai)
 f314:=func237.trans (congrArg some ai)
 t3:=underlying3
 a3:=isAgg3
 z3:=sizeOf3
 v3:=zeroValue3
 t4:=underlying4
 a4:=isAgg4
 z4:=sizeOf4
 v4:=zeroValue4
 t5:=underlying5
 a5:=isAgg5
 z5:=sizeOf5
 v5:=zeroValue5
 t9:=underlying9
 a9:=isAgg9
 z9:=sizeOf9
 v9:=zeroValue9
 t46:=underlying218
 a46:=isAgg218
 z46:=sizeOf218
 v46:=zeroValue218
 t51:=underlying190
 a51:=isAgg190
 z51:=sizeOf190
 v51:=zeroValue190
 t59:=underlying178
 a59:=isAgg178
 z59:=sizeOf178
 v59:=zeroValue178
 t146:=underlying259
 a146:=isAgg259
 z146:=sizeOf259
 v146:=zeroValue259
 g1:=by kernel_rfl}
open Go.RowKit Go.Lib in
theorem strings_Cut(s sep:ByteArray)(m:Int)(w:Wd)(hs:s.size<4294967281)(hm:w.cell? ⟨3,0,none⟩=some (.int .i64 m)):
 Calls prog 149 #[.string s,.string sep] w λe w'=>e=.returned (.tuple #[.string ⟨(Lib.cut s.data.toList sep.data.toList).1.toArray⟩,.string ⟨(Lib.cut s.data.toList sep.data.toList).2.1.toArray⟩,.bool (Lib.cut s.data.toList sep.data.toList).2.2])/\∃n,w'=w.drewN n:=Any.strings_Cut zJ s sep m w hs hm
def ql:Go.Shelf.Ren:=⟨fun|157=>56|229=>97|199=>98|261=>155|311=>197|312=>198|n=>n,fun|9=>9|31=>45|3=>3|5=>5|4=>4|119=>156|0=>0|40=>158|152=>187|21=>21|154=>189|51=>190|141=>192|196=>223|193=>220|198=>226|49=>224|194=>221|201=>229|226=>243|46=>218|227=>244|n=>n,fun|0=>1|6=>2|n=>n⟩
theorem zK:Go.Proofs.Lays.n157 prog ql:={
 mixed:=ai
 f157:=func56.trans (congrArg some ai)
 f199:=func98.trans (congrArg some ai)
 f229:=func97.trans (congrArg some ai)
 f261:=func155.trans (congrArg some ai)
 f311:=func197.trans (congrArg some ai)
 f312:=func198.trans (congrArg some ai)
 t0:=underlying0
 a0:=isAgg0
 z0:=sizeOf0
 v0:=zeroValue0
 t3:=underlying3
 a3:=isAgg3
 z3:=sizeOf3
 v3:=zeroValue3
 t4:=underlying4
 a4:=isAgg4
 z4:=sizeOf4
 v4:=zeroValue4
 t5:=underlying5
 a5:=isAgg5
 z5:=sizeOf5
 v5:=zeroValue5
 t9:=underlying9
 a9:=isAgg9
 z9:=sizeOf9
 v9:=zeroValue9
 t21:=underlying21
 a21:=isAgg21
 z21:=sizeOf21
 v21:=zeroValue21
 t31:=underlying45
 a31:=isAgg45
 z31:=sizeOf45
 v31:=zeroValue45
 t40:=underlying158
 a40:=isAgg158
 z40:=sizeOf158
 v40:=zeroValue158
 t46:=underlying218
 a46:=isAgg218
 z46:=sizeOf218
 v46:=zeroValue218
 t49:=underlying224
 a49:=isAgg224
 z49:=sizeOf224
 v49:=zeroValue224
 t51:=underlying190
 a51:=isAgg190
 z51:=sizeOf190
 v51:=zeroValue190
 t119:=underlying156
 a119:=isAgg156
 z119:=sizeOf156
 t141:=underlying192
 a141:=isAgg192
 z141:=sizeOf192
 v141:=zeroValue192
 t152:=underlying187
 a152:=isAgg187
 z152:=sizeOf187
 v152:=zeroValue187
 t154:=underlying189
 a154:=isAgg189
 z154:=sizeOf189
 v154:=zeroValue189
 t193:=underlying220
 a193:=isAgg220
 z193:=sizeOf220
 v193:=zeroValue220
 t194:=underlying221
 a194:=isAgg221
 z194:=sizeOf221
 v194:=zeroValue221
 t196:=underlying223
 a196:=isAgg223
 z196:=sizeOf223
 v196:=zeroValue223
 t198:=underlying226
 a198:=isAgg226
 z198:=sizeOf226
 v198:=zeroValue226
 t201:=underlying229
 a201:=isAgg229
 z201:=sizeOf229
 v201:=zeroValue229
 t226:=underlying243
 a226:=isAgg243
 z226:=sizeOf243
 v226:=zeroValue243
 t227:=underlying244
 a227:=isAgg244
 z227:=sizeOf244
 v227:=zeroValue244
 g0:=ai
 g6:=by kernel_rfl}
open Go.RowKit Go.Lib in
theorem strings_Fields(s:ByteArray)(w:Wd)(hs:s.size<4294967281)(DL:∀(j:Nat) b,s.data.toList[j]?=some b->b.toNat<128)(DM:Lib.TabIs prog w "strings.asciiSpace" .u8 Lib.asciiSpaceTab):
 Calls prog 56 #[.string s] w λe w'=>
  e=.returned (.slice (some ⟨w.heap.size,0,none⟩) (Lib.fields s.data.toList).length (Lib.fields s.data.toList).length)/\w'=w.alloc (.cells ((Lib.fields s.data.toList).map λl=>Value.string ⟨l.toArray⟩).toArray 9):=Any.strings_Fields zK ai ai s w hs DL DM
def sa:Go.Shelf.Ren:=⟨fun|99=>52|206=>85|n=>n,fun|9=>9|4=>4|3=>3|n=>n,fun|n=>n⟩
theorem DN:Go.Proofs.Lays.n99 prog sa:={
 mixed:=ai
 f99:=func52.trans (congrArg some ai)
 f206:=func85.trans (congrArg some ai)
 t3:=underlying3
 a3:=isAgg3
 z3:=sizeOf3
 v3:=zeroValue3
 t4:=underlying4
 a4:=isAgg4
 z4:=sizeOf4
 v4:=zeroValue4
 t9:=underlying9
 a9:=isAgg9
 z9:=sizeOf9
 v9:=zeroValue9}
open Go.RowKit Go.Lib in
theorem strings_HasPrefix(s p:ByteArray)(w:Wd):
 Calls prog 52 #[.string s,.string p] w λe w'=>e=.returned (.bool (Lib.hasPrefix s.data.toList p.data.toList))/\w'=w:=Any.strings_HasPrefix DN s p w
def qm:Go.Shelf.Ren:=⟨fun|101=>189|208=>212|206=>85|n=>n,fun|9=>9|4=>4|3=>3|n=>n,fun|n=>n⟩
theorem zL:Go.Proofs.Lays.n101 prog qm:={
 mixed:=ai
 f101:=func189.trans (congrArg some ai)
 f206:=func85.trans (congrArg some ai)
 f208:=func212.trans (congrArg some ai)
 t3:=underlying3
 a3:=isAgg3
 z3:=sizeOf3
 v3:=zeroValue3
 t4:=underlying4
 a4:=isAgg4
 z4:=sizeOf4
 v4:=zeroValue4
 t9:=underlying9
 a9:=isAgg9
 z9:=sizeOf9
 v9:=zeroValue9}
open Go.RowKit Go.Lib in
theorem strings_TrimPrefix(s p:ByteArray)(w:Wd):
 Calls prog 189 #[.string s,.string p] w λe w'=>e=.returned (.string ⟨(Lib.trimPrefix s.data.toList p.data.toList).toArray⟩)/\w'=w:=Any.strings_TrimPrefix zL s p w
def qn:Go.Shelf.Ren:=⟨fun|103=>192|210=>215|206=>85|n=>n,fun|9=>9|4=>4|24=>213|3=>3|n=>n,fun|n=>n⟩
theorem zM:Go.Proofs.Lays.n103 prog qn:={
 mixed:=ai
 f103:=func192.trans (congrArg some ai)
 f206:=func85.trans (congrArg some ai)
 f210:=func215.trans (congrArg some ai)
 t3:=underlying3
 a3:=isAgg3
 z3:=sizeOf3
 v3:=zeroValue3
 t4:=underlying4
 a4:=isAgg4
 z4:=sizeOf4
 v4:=zeroValue4
 t9:=underlying9
 a9:=isAgg9
 z9:=sizeOf9
 v9:=zeroValue9
 t24:=underlying213
 a24:=isAgg213
 z24:=sizeOf213
 v24:=zeroValue213}
open Go.RowKit in
theorem strings_CutPrefix(s p:ByteArray)(w:Wd):
 Calls prog 192 #[.string s,.string p] w λe w'=>e=.returned (.tuple #[.string ⟨(Lib.trimPrefix s.data.toList p.data.toList).toArray⟩,.bool (Lib.hasPrefix s.data.toList p.data.toList)])/\w'=w:=Any.strings_CutPrefix zM s p w
def qo:Go.Shelf.Ren:=⟨fun|104=>193|211=>216|207=>236|n=>n,fun|9=>9|4=>4|24=>213|3=>3|n=>n,fun|n=>n⟩
theorem zO:Go.Proofs.Lays.n104 prog qo:={
 mixed:=ai
 f104:=func193.trans (congrArg some ai)
 f207:=func236.trans (congrArg some ai)
 f211:=func216.trans (congrArg some ai)
 t3:=underlying3
 a3:=isAgg3
 z3:=sizeOf3
 v3:=zeroValue3
 t4:=underlying4
 a4:=isAgg4
 z4:=sizeOf4
 v4:=zeroValue4
 t9:=underlying9
 a9:=isAgg9
 z9:=sizeOf9
 v9:=zeroValue9
 t24:=underlying213
 a24:=isAgg213
 z24:=sizeOf213
 v24:=zeroValue213}
open Go.RowKit in
theorem strings_CutSuffix(s p:ByteArray)(w:Wd)(hs:s.size<=9223372036854775807):
 Calls prog 193 #[.string s,.string p] w λe w'=>e=.returned (.tuple #[.string ⟨(Lib.trimSuffix s.data.toList p.data.toList).toArray⟩,.bool (Lib.hasSuffix s.data.toList p.data.toList)])/\w'=w:=Any.strings_CutSuffix zO s p w hs
def oJ:Go.Shelf.Ren:=⟨fun|173=>164|246=>203|283=>221|284=>222|285=>223|286=>224|129=>242|317=>241|318=>243|319=>244|320=>245|337=>252|338=>253|n=>n,fun|2=>2|3=>3|9=>9|4=>4|171=>246|0=>0|53=>205|37=>22|5=>5|173=>249|212=>262|51=>190|20=>20|213=>263|46=>218|232=>275|233=>276|n=>n,fun|17=>5|18=>9|19=>10|n=>n⟩
theorem wi:Go.Proofs.LaysM.n173 prog oJ:={
 mixed:=ai
 f129:=func242.trans (congrArg some ai)
 f173:=func164.trans (congrArg some ai)
 f246:=func203.trans (congrArg some ai)
 f283:=func221.trans (congrArg some ai)
 f284:=func222.trans (congrArg some ai)
 f285:=func223.trans (congrArg some ai)
 f286:=func224.trans (congrArg some ai)
 f317:=func241.trans (congrArg some ai)
 f318:=func243.trans (congrArg some ai)
 f319:=func244.trans (congrArg some ai)
 f320:=func245.trans (congrArg some ai)
 f337:=func252.trans (congrArg some ai)
 f338:=func253.trans (congrArg some ai)
 t0:=underlying0
 a0:=isAgg0
 z0:=sizeOf0
 v0:=zeroValue0
 t2:=underlying2
 a2:=isAgg2
 z2:=sizeOf2
 v2:=zeroValue2
 t3:=underlying3
 a3:=isAgg3
 z3:=sizeOf3
 v3:=zeroValue3
 t4:=underlying4
 a4:=isAgg4
 z4:=sizeOf4
 v4:=zeroValue4
 t5:=underlying5
 a5:=isAgg5
 z5:=sizeOf5
 v5:=zeroValue5
 t9:=underlying9
 a9:=isAgg9
 z9:=sizeOf9
 v9:=zeroValue9
 t20:=underlying20
 a20:=isAgg20
 z20:=sizeOf20
 v20:=zeroValue20
 t37:=underlying22
 a37:=isAgg22
 z37:=sizeOf22
 v37:=zeroValue22
 t46:=underlying218
 a46:=isAgg218
 z46:=sizeOf218
 v46:=zeroValue218
 t51:=underlying190
 a51:=isAgg190
 z51:=sizeOf190
 v51:=zeroValue190
 t53:=underlying205
 a53:=isAgg205
 z53:=sizeOf205
 v53:=zeroValue205
 t171:=underlying246
 a171:=isAgg246
 z171:=sizeOf246
 v171:=zeroValue246
 t173:=underlying249
 a173:=isAgg249
 z173:=sizeOf249
 v173:=zeroValue249
 t212:=underlying262
 a212:=isAgg262
 z212:=sizeOf262
 v212:=zeroValue262
 t213:=underlying263
 a213:=isAgg263
 z213:=sizeOf263
 t232:=underlying275
 a232:=isAgg275
 z232:=sizeOf275
 v232:=zeroValue275
 t233:=underlying276
 a233:=isAgg276
 z233:=sizeOf276
 v233:=zeroValue276
 g17:=ai
 g18:=ai
 g19:=ai
 i0:=ai
 i2:=ai
 i3:=ai
 i4:=ai
 i5:=ai
 i9:=ai
 i20:=ai
 i37:=ai
 i46:=ai
 i51:=ai
 i53:=ai
 i171:=ai
 i173:=ai
 i212:=ai
 i232:=ai
 i233:=ai
 m17:=ai
 m18:=ai
 m19:=by kernel_rfl}
open Go.RowKit Go.Sort Go.Lib in
theorem strconv_FormatInt_10(n:Int)(h0:-9223372036854775808<=n)(h1:n<=9223372036854775807)(w:Wd)(DM:Lib.TabIs prog w "internal/strconv.uint64pow10" .u64 Lib.pow10Tab):
 Calls prog 164 #[.int .i64 n,.int .i64 10] w λe w'=>e=.returned (.string ⟨(Lib.itoa n).toArray⟩)/\∃k os,w'=grow (w.drewN k) os:=Any.strconv_FormatInt_10 wi n h0 h1 w DM
def oK:Go.Shelf.Ren:=⟨fun|174=>190|247=>213|245=>214|287=>231|279=>232|280=>233|281=>234|282=>235|321=>247|322=>248|316=>249|171=>251|205=>250|243=>254|246=>203|283=>221|284=>222|285=>223|286=>224|129=>242|317=>241|318=>243|319=>244|320=>245|337=>252|338=>253|n=>n,fun|9=>9|3=>3|2=>2|75=>31|85=>211|4=>4|167=>253|5=>5|53=>205|175=>254|46=>218|168=>256|37=>22|0=>0|210=>266|21=>21|127=>93|145=>274|143=>272|171=>246|173=>249|212=>262|51=>190|20=>20|213=>263|232=>275|233=>276|80=>58|n=>n,fun|15=>6|16=>4|17=>5|18=>9|19=>10|n=>n⟩
theorem qp:Go.Proofs.LaysC.n174 prog oK:={
 mixed:=ai
 f129:=func242.trans (congrArg some ai)
 f171:=func251.trans (congrArg some ai)
 f174:=func190.trans (congrArg some ai)
 f205:=func250.trans (congrArg some ai)
 f243:=func254.trans (congrArg some ai)
 f245:=func214.trans (congrArg some ai)
 f246:=func203.trans (congrArg some ai)
 f247:=func213.trans (congrArg some ai)
 f279:=func232.trans (congrArg some ai)
 f280:=func233.trans (congrArg some ai)
 f281:=func234.trans (congrArg some ai)
 f282:=func235.trans (congrArg some ai)
 f283:=func221.trans (congrArg some ai)
 f284:=func222.trans (congrArg some ai)
 f285:=func223.trans (congrArg some ai)
 f286:=func224.trans (congrArg some ai)
 f287:=func231.trans (congrArg some ai)
 f316:=func249.trans (congrArg some ai)
 f317:=func241.trans (congrArg some ai)
 f318:=func243.trans (congrArg some ai)
 f319:=func244.trans (congrArg some ai)
 f320:=func245.trans (congrArg some ai)
 f321:=func247.trans (congrArg some ai)
 f322:=func248.trans (congrArg some ai)
 f337:=func252.trans (congrArg some ai)
 f338:=func253.trans (congrArg some ai)
 t0:=underlying0
 a0:=isAgg0
 z0:=sizeOf0
 v0:=zeroValue0
 t2:=underlying2
 a2:=isAgg2
 z2:=sizeOf2
 v2:=zeroValue2
 t3:=underlying3
 a3:=isAgg3
 z3:=sizeOf3
 v3:=zeroValue3
 t4:=underlying4
 a4:=isAgg4
 z4:=sizeOf4
 v4:=zeroValue4
 t5:=underlying5
 a5:=isAgg5
 z5:=sizeOf5
 v5:=zeroValue5
 t9:=underlying9
 a9:=isAgg9
 z9:=sizeOf9
 v9:=zeroValue9
 t20:=underlying20
 a20:=isAgg20
 z20:=sizeOf20
 v20:=zeroValue20
 t21:=underlying21
 a21:=isAgg21
 z21:=sizeOf21
 v21:=zeroValue21
 t37:=underlying22
 a37:=isAgg22
 z37:=sizeOf22
 v37:=zeroValue22
 t46:=underlying218
 a46:=isAgg218
 z46:=sizeOf218
 v46:=zeroValue218
 t51:=underlying190
 a51:=isAgg190
 z51:=sizeOf190
 v51:=zeroValue190
 t53:=underlying205
 a53:=isAgg205
 z53:=sizeOf205
 v53:=zeroValue205
 t75:=underlying31
 a75:=isAgg31
 z75:=sizeOf31
 v75:=zeroValue31
 t85:=underlying211
 a85:=isAgg211
 z85:=sizeOf211
 v85:=zeroValue211
 t127:=underlying93
 a127:=isAgg93
 z127:=sizeOf93
 v127:=zeroValue93
 t143:=underlying272
 a143:=isAgg272
 z143:=sizeOf272
 v143:=zeroValue272
 t145:=underlying274
 a145:=isAgg274
 z145:=sizeOf274
 v145:=zeroValue274
 t167:=underlying253
 a167:=isAgg253
 z167:=sizeOf253
 v167:=zeroValue253
 t168:=underlying256
 a168:=isAgg256
 z168:=sizeOf256
 v168:=zeroValue256
 t171:=underlying246
 a171:=isAgg246
 z171:=sizeOf246
 v171:=zeroValue246
 t173:=underlying249
 a173:=isAgg249
 z173:=sizeOf249
 v173:=zeroValue249
 t175:=underlying254
 a175:=isAgg254
 z175:=sizeOf254
 v175:=zeroValue254
 t210:=underlying266
 a210:=isAgg266
 z210:=sizeOf266
 v210:=zeroValue266
 t212:=underlying262
 a212:=isAgg262
 z212:=sizeOf262
 v212:=zeroValue262
 t213:=underlying263
 a213:=isAgg263
 z213:=sizeOf263
 t232:=underlying275
 a232:=isAgg275
 z232:=sizeOf275
 v232:=zeroValue275
 t233:=underlying276
 a233:=isAgg276
 z233:=sizeOf276
 v233:=zeroValue276
 g15:=ai
 g16:=ai
 g17:=ai
 g18:=ai
 g19:=ai
 t80:=underlying58
 a80:=isAgg58
 z80:=sizeOf58
 v80:=zeroValue58
 i0:=ai
 i2:=ai
 i3:=ai
 i4:=ai
 i5:=ai
 i9:=ai
 i20:=ai
 i21:=ai
 i37:=ai
 i46:=ai
 i51:=ai
 i53:=ai
 i75:=ai
 i80:=ai
 i85:=ai
 i127:=ai
 i143:=ai
 i145:=ai
 i167:=ai
 i168:=ai
 i171:=ai
 i173:=ai
 i175:=ai
 i210:=ai
 i212:=ai
 i232:=ai
 i233:=ai
 m15:=ai
 m16:=ai
 m17:=ai
 m18:=ai
 m19:=ai
 c0:=ai
 c2:=ai
 c3:=ai
 c4:=ai
 c5:=ai
 c9:=ai
 c20:=ai
 c21:=ai
 c37:=ai
 c46:=ai
 c51:=ai
 c53:=ai
 c75:=ai
 c80:=ai
 c85:=ai
 c127:=ai
 c143:=ai
 c145:=ai
 c167:=ai
 c168:=ai
 c171:=ai
 c173:=ai
 c175:=ai
 c210:=ai
 c212:=ai
 c213:=ai
 c232:=ai
 c233:=by kernel_rfl}
open Go.RowKit in
theorem strconv_ParseInt_10_at64_ok(s:ByteArray)(P4:s.size<=9223372036854775806)(v:Int)(h:Lib.parseIntB 64 s.data.toList=.ok v)(w:Wd):
 Calls prog 190 #[.string s,.int .i64 10,.int .i64 64] w λe w'=>e=.returned (.tuple #[.int .i64 v,.nilIface])/\(w'=w\/∃t,w'=Lib.bytesWorld w 5 t):=Any.strconv_ParseInt_10_at64_ok qp s P4 v h w
open Go.RowKit in
theorem strconv_ParseInt_10_at64_range_var(s:ByteArray)(P6:s.size<=281474976710656)(h:Lib.parseIntB 64 s.data.toList=.range)(tp:TypeId)(p:Va)(w:Wd)(DO:w.var? prog "strconv.ErrRange"=some #[.iface tp p]):
 Calls prog 190 #[.string s,.int .i64 10,.int .i64 64] w λe w'=>∃N,e=.returned (.tuple #[.int .i64 (Lib.intSat 64 s.data.toList),.iface 256 (.pointer (some ⟨N,0,none⟩))])/\w.heap.size<=N/\w'.heap[N]?=some (.cells #[.string ⟨#[80,97,114,115,101,73,110,116]⟩,.string s,.iface tp p] 266 (0,0))/\Below w.heap.size w w':=Any.strconv_ParseInt_10_at64_range_var qp s P6 h tp p w DO
def kX:Go.Shelf.Ren:=⟨fun|271=>206|120=>225|197=>226|260=>246|n=>n,fun|9=>9|21=>21|3=>3|4=>4|5=>5|105=>233|119=>156|0=>0|46=>218|139=>271|138=>270|n=>n,fun|3=>7|4=>8|n=>n⟩
theorem zP:Go.Proofs.Lays.n271 prog kX:={
 mixed:=ai
 f120:=func225.trans (congrArg some ai)
 f197:=func226.trans (congrArg some ai)
 f260:=func246.trans (congrArg some ai)
 f271:=func206.trans (congrArg some ai)
 t0:=underlying0
 a0:=isAgg0
 z0:=sizeOf0
 v0:=zeroValue0
 t3:=underlying3
 a3:=isAgg3
 z3:=sizeOf3
 v3:=zeroValue3
 t4:=underlying4
 a4:=isAgg4
 z4:=sizeOf4
 v4:=zeroValue4
 t5:=underlying5
 a5:=isAgg5
 z5:=sizeOf5
 v5:=zeroValue5
 t9:=underlying9
 a9:=isAgg9
 z9:=sizeOf9
 v9:=zeroValue9
 t21:=underlying21
 a21:=isAgg21
 z21:=sizeOf21
 v21:=zeroValue21
 t46:=underlying218
 a46:=isAgg218
 z46:=sizeOf218
 v46:=zeroValue218
 t105:=underlying233
 a105:=isAgg233
 z105:=sizeOf233
 v105:=zeroValue233
 t119:=underlying156
 a119:=isAgg156
 z119:=sizeOf156
 t138:=underlying270
 a138:=isAgg270
 z138:=sizeOf270
 v138:=zeroValue270
 t139:=underlying271
 a139:=isAgg271
 z139:=sizeOf271
 v139:=zeroValue271
 g3:=ai
 g4:=by kernel_rfl}
open Go.RowKit Go.Lib in
theorem utf8_DecodeLastRuneInString(s:ByteArray)(w:Wd)(hs:s.size<=9223372036854775807)(hT:Lib.Utf8Tabs 7 8 w):
 Calls prog 206 #[.string s] w λe w'=>e=.returned (.tuple #[.int .i32 (Lib.decodeLastL s.data.toList).1,.int .i64 (Lib.decodeLastL s.data.toList).2])/\Below w.heap.size w w':=Any.utf8_DecodeLastRuneInString zP s w hs hT
end Go.Proofs
namespace Go.Proofs.YtoddjlclpnoomaaGreatDoor
open Go.Sh
attribute [go_sem] Bo Pk
@[go_sem ↓] theorem cells_str(l:By):(str l).cells=#[str l]:=rfl
variable (w:Wd)
@[go_sem ↓] theorem eX(a:TypeId)(l:By):(len_ #[9] a #[str l]).run prog w=.ok (.int .i64 l.length) w:=by simp[go_sem,str]
@[go_sem ↓] theorem zQ(cx cy:Bool)(l m:By):(Bo .eql 9 cx cy (str l) (str m)).run prog w=.ok (.bool (l==m)) w:=by simp[go_sem,str,Bo]
@[go_sem ↓] theorem H0(cx cy:Bool)(l m:By):(Bo .neq 9 cx cy (str l) (str m)).run prog w=.ok (.bool (!(l==m))) w:=by simp[go_sem,str,Bo]
@[go_sem ↓] theorem mu(cx cy:Bool)(l m:By):(Bo .eql 9 cx cy (str l) (.string ⟨m.toArray⟩)).run prog w=.ok (.bool (l==m)) w:=zQ w cx cy l m
@[go_sem ↓] theorem H2(cx cy:Bool)(l m:By):(Bo .neq 9 cx cy (str l) (.string ⟨m.toArray⟩)).run prog w=.ok (.bool (!(l==m))) w:=H0 w cx cy l m
theorem dL(l:By)(i:Nat)(h:i<l.length):(Instr.index 9 (str l) (.int .i64 i)).run prog w=.ok (.int .u8 (l[i]).toNat) w:=by
 simp[go_sem,str,h];rfl
theorem mv(l:By)(i:Nat)(h:i<=l.length):(sliceAt 9 (str l) (some (.int .i64 i)) none none).run prog w=.ok (str (l.drop i)) w:=by
 simp[go_sem,str,h]
 rw[show({data:=l.toArray}:ByteArray).extract i l.length={data:=(l.drop i).toArray}from by
  simp[ByteArray.extract_mk]
  exact List.take_of_length_le ak]
theorem yW(l:By)(i:Nat)(h:i<=l.length):(sliceAt 9 (str l) none (some (.int .i64 i)) none).run prog w=.ok (str (l.take i)) w:=by
 simp[go_sem,str,h]
 rw[show({data:=l.toArray}:ByteArray).extract 0 i={data:=(l.take i).toArray}from by
  simp[ByteArray.extract_mk]]
theorem zR(cx cy:Bool)(l m:By)(h:l.length+m.length<=9223372036854775807):(Bo .add 9 cx cy (str l) (str m)).run prog w=.ok (str (l++m)) w:=by
 have h':¬9223372036854775807<l.length+m.length:=by omega
 simp[go_sem,str,Bo,h']
 rfl
theorem P7{b o n c:Nat}(h:1<n)(h2:n<=c):(sliceAt 73 (.slice (some ⟨b,o,none⟩) n c) (some (.int .i64 1)) none none).run prog w=.ok (.slice (some ⟨b,o+4,none⟩) (n-1) (c-1)) w:=by
 have h3:(1:Int)<=n:=by omega
 have h4:¬c=1:=by omega
 simp[go_sem,h3,h4]
theorem lG{b n c k:Nat}(h:k<n):(indexAt 45 (.slice (some ⟨b,0,none⟩) n c) (.int .i64 k)).run prog w=.ok (.pointer (some ⟨b,k,none⟩)) w:=by
 have:(k:Int)<n:=by omega
 simp[go_sem,h,Addr.add]
 rintro rfl;rfl
theorem cC(t:TypeId)(cx cy:Bool)(a b:Int)(h:-9223372036854775808<=a+b)(h':a+b<=9223372036854775807):(Bo .add t cx cy (.int .i64 a) (.int .i64 b)).run prog w=.ok (.int .i64 (a+b)) w:=by
 simp[go_sem,Bo];rw[IntWalk.i64_in _ aj]
theorem jK(t:TypeId)(cx cy:Bool)(a b:Int)(h:-9223372036854775808<=a-b)(h':a-b<=9223372036854775807):(Bo .sub t cx cy (.int .i64 a) (.int .i64 b)).run prog w=.ok (.int .i64 (a-b)) w:=by
 simp[go_sem,Bo];rw[IntWalk.i64_in _ aj]
end Go.Proofs.YtoddjlclpnoomaaGreatDoor

namespace Go.Proofs.YtoddjlclpnoomaaGreatDoor
open Go.Sh
inductive Tr where
 |nil
 |hole
 |cons (a b:Tr)
 |ex (kind n:Int) (text:By) (l r keys args:Tr) (params:LB) (body:Tr)
 |st (kind:Int) (name:By) (l r H3 a b:Tr)
inductive Md where
 |P (v:Va)
 |L (v:Va)
 |E (b o n:Nat)
def ptr(b:Nat):Va:=.pointer (some ⟨b,0,none⟩)
def Strs(F:Nat->Prop)(w:Wd)(v:Va)(ss:LB):Prop:=
 (v=.slice none 0 0/\ss=[])\/∃b c cs,v=.slice (some ⟨b,0,none⟩) ss.length c/\F b/\At w b cs/\cs.take ss.length=ss.map str/\ss.length<=c
def aU(F:Nat->Prop)(w:Wd):Tr->Md->Prop
 |.hole,_=>True
 |.nil,.P v=>v=.pointer none
 |.nil,.L v=>v=.slice none 0 0\/∃b c,v=.slice (some ⟨b,0,none⟩) 0 c
 |.nil,.E _ _ n=>n=0
 |.cons a t,.L v=>∃b n c u,v=.slice (some ⟨b,0,none⟩) (n+1) c/\n+1<=c/\F b/\w.cell? ⟨b,0,none⟩=some u/\aU F w a (.P u)/\aU F w t (.E b 1 n)
 |.cons a t,.E b o n=>∃m u,n=m+1/\w.cell? ⟨b,o,none⟩=some u/\F b/\aU F w a (.P u)/\aU F w t (.E b (o+1) m)
 |.ex k n text l r keys args params body,.P v=>∃b line lv rv kv av pv bv,v=ptr b/\F b/\
   At w b [.int .i64 k,.int .i64 line,.int .i64 n,str text,lv,rv,kv,av,pv,bv]/\
   aU F w l (.P lv)/\aU F w r (.P rv)/\aU F w keys (.L kv)/\aU F w args (.L av)/\Strs F w pv params/\aU F w body (.L bv)
 |.st k name l r H3 a b,.P v=>∃c line lv rv tv av bv,v=ptr c/\F c/\
   At w c [.int .i64 k,.int .i64 line,str name,lv,rv,tv,av,bv]/\
   aU F w l (.P lv)/\aU F w r (.P rv)/\aU F w H3 (.P tv)/\aU F w a (.L av)/\aU F w b (.L bv)
 |_,_=>False
theorem tD{w:Wd}{a:Addr}{v:Va}(hc:w.cell? a=some v):a.block<w.heap.size:=by
 unfold cell? at hc;rcases lt_or_ge a.block w.heap.size with h'|h'
 .exact h'
 .rw[Array.getElem?_eq_none h']at hc;cases hc
theorem Strs.aA{F G:Nat->Prop}{w w':Wd}{M:List Nat}(hk:aD M w w')(hM:∀b,F b->b<w.heap.size->b∉M/\G b){v:Va}{ss:LB}
  (h:Strs F w v ss):Strs G w' v ss:=by
 rcases h with h|⟨b,c,cs,h1,h2,h3,h4⟩
 .exact .inl h
 .exact .inr ⟨b,c,cs,h1,(hM b h2 h3.lt).2,hk.at h3 (hM b h2 h3.lt).1,h4⟩
theorem aU.aA{F G:Nat->Prop}{w w':Wd}{M:List Nat}(hk:aD M w w')(hM:∀b,F b->b<w.heap.size->b∉M/\G b):
  ∀(t:Tr) (m:Md),aU F w t m->aU G w' t m:=by
 intro t;induction t with
 |hole=>intro m _;cases m<;>trivial
 |nil=>intro m h;cases m<;>exact h
 |cons a t FJ Of=>
  intro m h
  cases m with
  |P v=>exact h
  |L v=>
   obtain⟨b,n,c,u,h1,h2,h3,h4,h5,h6⟩:=h;have:=hM b h3 (tD h4);exact⟨b,n,c,u,h1,h2,this.2,hk.cell h4 this.1,FJ _ h5,Of _ h6⟩
  |E b o n=>
   obtain⟨m,u,h1,h2,h3,h4,h5⟩:=h;have:=hM b h3 (tD h2);exact⟨m,u,h1,hk.cell h2 this.1,this.2,FJ _ h4,Of _ h5⟩
 |ex k n text l r keys args params body P8 P9 YV FJ Qa=>
  intro m h
  cases m with
  |P v=>
   obtain⟨b,line,lv,rv,kv,av,pv,bv,h1,h2,h3,h4,h5,h6,h7,h8,h9⟩:=h;have:=hM b h2 h3.lt;exact⟨b,line,lv,rv,kv,av,pv,bv,h1,this.2,hk.at h3 this.1,P8 _ h4,P9 _ h5,YV _ h6,FJ _ h7,h8.aA hk hM,Qa _ h9⟩
  |L v=>exact h
  |E b o n=>exact h
 |st k name l r H3 a b P8 P9 Of FJ Qa=>
  intro m h
  cases m with
  |P v=>
   obtain⟨c,line,lv,rv,tv,av,bv,h1,h2,h3,h4,h5,h6,h7,h8⟩:=h;have:=hM c h2 h3.lt;exact⟨c,line,lv,rv,tv,av,bv,h1,this.2,hk.at h3 this.1,P8 _ h4,P9 _ h5,Of _ h6,FJ _ h7,Qa _ h8⟩
  |L v=>exact h
  |E b o n=>exact h
theorem aU.imp{F G:Nat->Prop}{w:Wd}(hM:∀b,F b->b<w.heap.size->G b)(t:Tr)(m:Md)(h:aU F w t m):aU G w t m:=
 aU.aA (aD.refl [] w) (λb h1 h2=>⟨by simp,hM b h1 h2⟩) t m h
theorem aU.new{F:Nat->Prop}{w w':Wd}(hk:aD [] w w')(t:Tr)(m:Md)(h:aU F w t m):aU F w' t m:=
 aU.aA hk (λb h1 h2=>⟨by simp,h1⟩) t m h
def snoc:Tr->Tr->Tr
 |.cons a t,x=>.cons a (snoc t x)
 |_,x=>.cons x .nil
def dG:Tr->Bool
 |.nil=>true
 |.cons _ t=>dG t
 |_=>false
def len:Tr->Nat
 |.cons _ t=>len t+1
 |_=>0
theorem tE{F:Nat->Prop}{w:Wd}:∀(t:Tr) (b o n:Nat),dG t=true->aU F w t (.E b o n)->n=len t
 |.nil,b,o,n,_,h=>h
 |.cons a t,b,o,n,hl,⟨m,u,h1,_,_,_,h5⟩=>by rw[h1,tE t b (o+1) m hl h5];rfl
end Go.Proofs.YtoddjlclpnoomaaGreatDoor
namespace Go.Proofs.YtoddjlclpnoomaaGreatDoor
structure Tok where
 kind:Int
 text:By
 n:Int
 line:Int
abbrev LT:=List Tok
def bF:LT->LT
 |_::u::ts=>u::ts
 |l=>l
def fI(t:Tok)(ss:LB):Bool:=t.kind==4&&ss.contains t.text
def dI(t:Tok):Bool:=t.kind==5||fI t [[101,110,100],[101,108,115,101],[101,108,115,101,105,102],[99,97,116,99,104]]
def bD(s:By):Int:=
 if s=[111,114]then 1 else if s=[97,110,100]then 2 else if s=[60]\/s=[60,61]\/s=[62]\/s=[62,61]\/s=[61,61]\/s=[126,61]then 3
 else if s=[124]then 4 else if s=[126]then 5 else if s=[38]then 6 else if s=[60,60]\/s=[62,62]then 7 else if s=[46,46]then 8
 else if s=[43]\/s=[45]then 9 else if s=[42]\/s=[47,47]\/s=[37]then 10 else 0
def hd:LT->Tok
 |t::_=>t
 |[]=>⟨5,[],0,0⟩
inductive bL where
 |ok (t:Tr) (ts:LT) (own:Bool)
 |fail (code:Int)
 |bH
def bL.bind(r:bL)(f:Tr->LT->Bool->bL):bL:=match r with
 |.ok t ts own=>f t ts own
 |.fail c=>.fail c
 |.bH=>.bH
def bB(s:By)(ts:LT):Bool:=fI (hd ts) [s]
def aP(s:By)(ts:LT)(f:LT->bL):bL:=match bB s ts with
 |true=>f (bF ts)
 |false=>.fail 4
def cP(ts:LT)(f:By->LT->bL):bL:=match(hd ts).kind==1 with
 |true=>f (hd ts).text (bF ts)
 |false=>.fail 4
def bY(deep:Int)(f:Int->bL):bL:=match decide (64<deep+1)with
 |true=>.fail 3
 |false=>f (deep+1)
def lf(kind n:Int)(text:By):Tr:=.ex kind n text .nil .nil .nil .nil [] .nil
def kindOf:Tr->Int
 |.ex k ..=>k
 |.st k ..=>k
 |_=>0
inductive Cl where
 |block|eY (acc:Tr)
 |inner (s:By)
 |stmt|simple|kE|branch
 |func (named:Bool)
 |params (acc:LB)
 |expr (dP:Int)|exprL (left:Tr) (dP:Int)|bin (left:Tr) (n:Int)
 |operand|post|dy (e:Tr) (own:Bool)|dq|signed
 |bracket (l:Tr)
 |args (acc:Tr)|items (keys acc:Tr)|item
def mw:By:=[108,111,99,97,108]
def bP:By:=[102,117,110,99,116,105,111,110]
def oL:By:=[100,111]
def my:By:=[119,104,105,108,101]
def wm:By:=[102,111,114]
def BB:By:=[105,102]
def gg:By:=[114,101,116,117,114,110]
def jt:By:=[98,114,101,97,107]
def mz:By:=[116,114,121]
def cO:By:=[101,110,100]
def qs:By:=[116,104,101,110]
def dU:By:=[101,108,115,101]
def ew:By:=[101,108,115,101,105,102]
def eG:By:=[99,97,116,99,104]
def kF:By:=[110,105,108]
def gG:By:=[116,114,117,101]
def eZ:By:=[102,97,108,115,101]
def lH:By:=[110,111,116]
def run:Nat->Cl->Int->LT->bL
 |0,_,_,_=>.bH
 |n+1,c,deep,ts=>match c with
  |.block=>run n (.eY .nil) deep ts
  |.eY acc=>match dI (hd ts)with
   |true=>.ok acc ts false
   |false=>(run n .stmt deep ts).bind λs ts _=>match kindOf s==8 with
    |true=>.ok (snoc acc s) ts false
    |false=>run n (.eY (snoc acc s)) deep ts
  |.inner s=>match bB s ts with
   |false=>.fail 4
   |true=>bY deep λd=>run n .block d (bF ts)
  |.stmt=>match(hd ts).kind==4 with
   |false=>run n .simple deep ts
   |true=>
    if(hd ts).text=mw then run n .kE deep ts
    else if(hd ts).text=bP then(run n (.func true) deep ts).bind λr ts _=>match r with
     |.cons f (.cons nm .nil)=>.ok (.st 2 [] nm f .nil .nil .nil) ts false
     |_=>.bH
    else if(hd ts).text=oL then(run n (.inner oL) deep ts).bind λa ts _=>aP cO ts λts=>.ok (.st 4 [] .nil .nil .nil a .nil) ts false
    else if(hd ts).text=my then(run n (.expr 0) deep (bF ts)).bind λr ts _=>(run n (.inner oL) deep ts).bind λa ts _=>aP cO ts λts=>.ok (.st 5 [] .nil r .nil a .nil) ts false
    else if(hd ts).text=wm then cP (bF ts) λnm ts=>aP [61] ts λts=>(run n (.expr 0) deep ts).bind λr ts _=>aP [44] ts λts=>
     (run n (.expr 0) deep ts).bind λH3 ts _=>(run n (.inner oL) deep ts).bind λa ts _=>aP cO ts λts=>.ok (.st 7 nm .nil r H3 a .nil) ts false
    else if(hd ts).text=BB then(run n .branch deep (bF ts)).bind λs ts _=>aP cO ts λts=>.ok s ts false
    else if(hd ts).text=gg then match dI (hd (bF ts))with
     |true=>.ok (.st 8 [] .nil .nil .nil .nil .nil) (bF ts) false
     |false=>(run n (.expr 0) deep (bF ts)).bind λr ts _=>match dI (hd ts)with
      |true=>.ok (.st 8 [] .nil r .nil .nil .nil) ts false
      |false=>.fail 4
    else if(hd ts).text=jt then .ok (.st 9 [] .nil .nil .nil .nil .nil) (bF ts) false
    else if(hd ts).text=mz then(run n (.inner mz) deep ts).bind λa ts _=>match bB eG ts with
     |false=>.fail 4
     |true=>bY deep λd=>cP (bF ts) λnm ts=>(run n .block d ts).bind λb ts _=>aP cO ts λts=>.ok (.st 10 nm .nil .nil .nil a b) ts false
    else run n .simple deep ts
  |.simple=>(run n .post deep ts).bind λe ts own=>
   match bB [61] ts&&!own&&(kindOf e==6||kindOf e==7)with
   |true=>(run n (.expr 0) deep (bF ts)).bind λr ts _=>.ok (.st 2 [] e r .nil .nil .nil) ts false
   |false=>match !bB [61] ts&&!own&&kindOf e==8 with
    |true=>.ok (.st 3 [] .nil e .nil .nil .nil) ts false
    |false=>.fail 4
  |.kE=>match bB bP (bF ts)with
   |true=>(run n (.func true) deep (bF ts)).bind λr ts _=>match r with
     |.cons f (.cons (.ex _ _ nm _ _ _ _ _ _) .nil)=>.ok (.st 11 nm .nil f .nil .nil .nil) ts false
     |_=>.bH
   |false=>cP (bF ts) λnm ts=>match bB [61] ts with
    |true=>(run n (.expr 0) deep (bF ts)).bind λr ts _=>.ok (.st 1 nm .nil r .nil .nil .nil) ts false
    |false=>.ok (.st 1 nm .nil .nil .nil .nil .nil) ts false
  |.branch=>(run n (.expr 0) deep ts).bind λr ts _=>(run n (.inner qs) deep ts).bind λa ts _=>match bB ew ts with
   |true=>(run n .branch deep (bF ts)).bind λs ts _=>.ok (.st 6 [] .nil r .nil a (.cons s .nil)) ts false
   |false=>match bB dU ts with
    |true=>(run n (.inner dU) deep ts).bind λb ts _=>.ok (.st 6 [] .nil r .nil a b) ts false
    |false=>.ok (.st 6 [] .nil r .nil a .nil) ts false
  |.func named=>bY deep λd=>aP bP ts λts=>match named with
   |true=>cP ts λnm ts=>match bB [40] ts with
    |false=>.fail 4
    |true=>bY d λd2=>match bB [41] (bF ts)with
     |true=>(run n .block d (bF (bF ts))).bind λb ts _=>aP cO ts λts=>.ok (.cons (.ex 9 0 [] .nil .nil .nil .nil [] b) (.cons (lf 6 0 nm) .nil)) ts false
     |false=>(run n (.params []) d2 (bF ts)).bind λps ts _=>match ps with
      |.ex _ _ _ _ _ _ _ pl _=>aP [41] ts λts=>(run n .block d ts).bind λb ts _=>aP cO ts λts=>.ok (.cons (.ex 9 0 [] .nil .nil .nil .nil pl b) (.cons (lf 6 0 nm) .nil)) ts false
      |_=>.bH
   |false=>match bB [40] ts with
    |false=>.fail 4
    |true=>bY d λd2=>match bB [41] (bF ts)with
     |true=>(run n .block d (bF (bF ts))).bind λb ts _=>aP cO ts λts=>.ok (.ex 9 0 [] .nil .nil .nil .nil [] b) ts false
     |false=>(run n (.params []) d2 (bF ts)).bind λps ts _=>match ps with
      |.ex _ _ _ _ _ _ _ pl _=>aP [41] ts λts=>(run n .block d ts).bind λb ts _=>aP cO ts λts=>.ok (.ex 9 0 [] .nil .nil .nil .nil pl b) ts false
      |_=>.bH
  |.params acc=>cP ts λnm ts=>match bB [44] ts with
   |true=>run n (.params (acc++[nm])) deep (bF ts)
   |false=>.ok (.ex 0 0 [] .nil .nil .nil .nil (acc++[nm]) .nil) ts false
  |.expr dP=>(run n .operand deep ts).bind λl ts _=>run n (.exprL l dP) deep ts
  |.exprL l dP=>match !((hd ts).kind==4)||decide (bD (hd ts).text<=dP)with
   |true=>.ok l ts false
   |false=>(run n (.bin l (bD (hd ts).text)) deep ts).bind λe ts _=>run n (.exprL e dP) deep ts
  |.bin l k=>match(hd ts).text==[46,46]with
   |true=>bY deep λd=>(run n (.expr (k-1)) d (bF ts)).bind λr bU _=>.ok (.ex 11 0 (hd ts).text l r .nil .nil [] .nil) bU false
   |false=>(run n (.expr k) deep (bF ts)).bind λr bU _=>.ok (.ex 11 0 (hd ts).text l r .nil .nil [] .nil) bU false
  |.operand=>match fI (hd ts) [lH,[45],[35],[126]]with
   |false=>run n .post deep ts
   |true=>bY deep λd=>(run n .operand d (bF ts)).bind λr bU _=>.ok (.ex 10 0 (hd ts).text .nil r .nil .nil [] .nil) bU false
  |.post=>(run n .dq deep ts).bind λe bU _=>run n (.dy e (bB [40] ts)) deep bU
  |.dy e own=>match bB [91] ts with
   |true=>(run n (.bracket e) deep ts).bind λe ts _=>run n (.dy e false) deep ts
   |false=>match bB [46] ts with
    |true=>cP (bF ts) λnm ts=>run n (.dy (.ex 7 0 [] e (lf 5 0 nm) .nil .nil [] .nil) false) deep ts
    |false=>match bB [40] ts with
     |true=>bY deep λd=>match bB [41] (bF ts)with
      |true=>run n (.dy (.ex 8 0 [] e .nil .nil .nil [] .nil) false) deep (bF (bF ts))
      |false=>(run n (.args .nil) d (bF ts)).bind λdV ts _=>aP [41] ts λts=>run n (.dy (.ex 8 0 [] e .nil .nil dV [] .nil) false) deep ts
     |false=>.ok e ts own
  |.dq=>if(hd ts).kind=1 then .ok (lf 6 0 (hd ts).text) (bF ts) false
   else if(hd ts).kind=2 then .ok (lf 4 (hd ts).n []) (bF ts) false
   else if(hd ts).kind=3 then .ok (lf 5 0 (hd ts).text) (bF ts) false
   else run n .signed deep ts
  |.signed=>if bB kF ts then .ok (lf 1 0 []) (bF ts) false else if bB gG ts then .ok (lf 2 0 []) (bF ts) false else if bB eZ ts then .ok (lf 3 0 []) (bF ts) false
   else if bB [40] ts then bY deep λd=>(run n (.expr 0) d (bF ts)).bind λe ts _=>aP [41] ts λts=>.ok e ts false
   else if bB bP ts then run n (.func false) deep ts
   else if bB [123] ts then bY deep λd=>match bB [125] (bF ts)with
    |true=>.ok (.ex 12 0 [] .nil .nil .nil .nil [] .nil) (bF (bF ts)) false
    |false=>(run n (.items .nil .nil) d (bF ts)).bind λr ts _=>match r with
     |.cons ks (.cons dV .nil)=>aP [125] ts λts=>.ok (.ex 12 0 [] .nil .nil ks dV [] .nil) ts false
     |_=>.bH
   else .fail 4
  |.bracket l=>bY deep λd=>aP [91] ts λts=>(run n (.expr 0) d ts).bind λr ts _=>aP [93] ts λts=>.ok (.ex 7 0 [] l r .nil .nil [] .nil) ts false
  |.args acc=>(run n (.expr 0) deep ts).bind λa ts _=>match bB [44] ts with
   |true=>run n (.args (snoc acc a)) deep (bF ts)
   |false=>.ok (snoc acc a) ts false
  |.items ks dV=>(run n .item deep ts).bind λr ts _=>match r with
   |.cons k (.cons a .nil)=>(match bB [44] ts with
    |true=>run n (.items (snoc ks k) (snoc dV a)) deep (bF ts)
    |false=>.ok (.cons (snoc ks k) (.cons (snoc dV a) .nil)) ts false)
   |_=>.bH
  |.item=>
   if(hd ts).kind=1/\1<ts.length/\bB [61] (bF ts)=true then(run n (.expr 0) deep (bF (bF ts))).bind λa bU _=>.ok (.cons (lf 5 0 (hd ts).text) (.cons a .nil)) bU false
   else if bB [91] ts then(run n (.bracket .nil) deep ts).bind λk ts _=>match k with
    |.ex _ _ _ _ r _ _ _ _=>aP [61] ts λts=>(run n (.expr 0) deep ts).bind λa ts _=>.ok (.cons r (.cons a .nil)) ts false
    |_=>.bH
   else(run n (.expr 0) deep ts).bind λa ts _=>.ok (.cons .nil (.cons a .nil)) ts false
def kG(n:Nat)(ts:LT):bL:=(run n .block 0 ts).bind λb ts _=>match(hd ts).kind==5 with
 |true=>.ok b ts false
 |false=>.fail 4
def di:By:=[97,98,99,100,101,102,103,104,105,106,107,108,109,110,111,112,113,114,115,116,117,118,119,120,121,122,65,66,67,68,69,70,71,72,73,74,75,76,77,78,79,80,81,82,83,84,85,86,87,88,89,90,95]
def bW:By:=[48,49,50,51,52,53,54,55,56,57]
def iw:By:=[43,45,42,37,38,124,126,60,62,61,46,44,40,41,91,93,123,125,35]
def gw:By:=[47,47,32,60,60,32,62,62,32,61,61,32,126,61,32,60,61,32,62,61,32,46,46]
def oM:By:=[32,97,110,100,32,98,114,101,97,107,32,99,97,116,99,104,32,100,111,32,101,108,115,101,32,101,108,115,101,105,102,32,101,110,100,32,102,97,108,115,101,32,102,111,114,32,102,117,110,99,116,105,111,110,32,105,102,32,108,111,99,97,108,32,110,105,108,32,110,111,116,32,111,114,32,114,101,116,117,114,110,32,116,104,101,110,32,116,114,117,101,32,116,114,121,32,119,104,105,108,101,32]
def gC(s set:By):Nat:=(s.takeWhile (λc=>set.contains c)).length
def gx(s:By):Bool:=!(s==[])&&!(Lib.contains s [32])&&Lib.contains oM ([32]++s++[32])
def oN(d:By):Nat:=d.foldl (λa c=>10*a+(c.toNat-48)) 0
def gY(d:By):Int×Int:=
 if d.headD 0=48/\d≠[48]then(0,4)else if 9223372036854775808<=oN d then(0,15)else(oN d,0)
def cU(c:UInt8):Int:=if 48<=c/\c<=57 then(c.toNat:Int)-48 else if 97<=c/\c<=102 then(c.toNat:Int)-97+10 else-1
def yX(c:UInt8):Option UInt8:=if c=110 then some 10 else if c=116 then some 9 else if c=92 then some 92 else if c=34 then some 34 else none
def mA(s:By):Option (UInt8×Nat):=match s with
  |[]=>none
  |c::l=>if c<32\/126<c\/c=34\/(c=92/\l=[])then none
    else if c=92 then
      (if l.headD 0=120 then(if s.length<4\/cU (s.getD 2 0)<0\/cU (s.getD 3 0)<0 then none else some (UInt8.ofNat ((cU (s.getD 2 0)).toNat*16+(cU (s.getD 3 0)).toNat),4))
       else match yX (l.headD 0)with|some v=>some (v,2)|none=>none)
    else some (c,1)
def ef:Nat->By->Option (By)
 |0,_=>none
 |n+1,s=>if s=[]then some []else match mA s with
  |none=>none
  |some (c,k)=>(ef n (s.drop k)).map (c::·)
def gZ(m:By):By×Int:=match ef (m.length+1) m with
 |none=>([],4)
 |some b=>if 4096<b.length then([],3)else(b,0)
inductive WR where
 |tok (t:Tok) (n:Nat)
 |err (c:Int)
def eH:By->Nat->Option Nat
 |[],_=>none
 |c::l,k=>if c=34 then some k else if c=92 then(match l with|[]=>none|_::l'=>eH l' (k+2))else eH l (k+1)
def lI(s:By):WR:=match eH ((s.takeWhile (λc=>!(c==10))).drop 1) 1 with
 |none=>.err 14
 |some k=>match gZ ((s.take k).drop 1)with
  |(t,e)=>if e=0 then .tok ⟨3,t,0,0⟩ (k+1)else if e=4 then .err 14 else .err e
def lJ(s:By):WR:=match gY (s.take (gC s bW))with
 |(v,e)=>if e=4\/di.contains ((s.drop (gC s bW)).headD 0)=true then .err 14 else if e=0 then .tok ⟨2,s.take (gC s bW),v,0⟩ (gC s bW)else .err e
def eA(s:By):WR:=
 if di.contains (s.headD 0)=true then
  (if 24<gC s (di++bW)then .err 14 else .tok ⟨if gx (s.take (gC s (di++bW)))=true then 4 else 1,s.take (gC s (di++bW)),0,0⟩ (gC s (di++bW)))
 else if bW.contains (s.headD 0)=true then lJ s
 else if s.headD 0=34 then lI s
 else if 1<s.length/\(s.take 2).contains 32=false/\Lib.contains gw (s.take 2)=true then .tok ⟨4,s.take 2,0,0⟩ 2
 else if iw.contains (s.headD 0)=true then .tok ⟨4,s.take 1,0,0⟩ 1
 else .err 14
inductive LR where
 |ok (ts:LT)
 |fail (c:Int)
def LR.cons(t:Tok):LR->LR
 |.ok ts=>.ok (t::ts)
 |.fail c=>.fail c
def iZ(line:Int):Tok:=⟨5,[],0,line⟩
def Tok.at(t:Tok)(line:Int):Tok:={t with line:=line}
def dv:Nat->By->Int->LR
 |0,_,line=>.ok [iZ line]
 |n+1,s,line=>if s=[]then .ok [iZ line]
  else if s.headD 0=10 then dv n (s.drop 1) (line+1)
  else if[32,9,13].contains (s.headD 0)=true then dv n (s.drop 1) line
  else if s.take 2=[45,45]then(if s.contains 10=true then dv n (s.dropWhile (λc=>!(c==10))) line else .ok [iZ line])
  else match eA s with
   |.err c=>.fail c
   |.tok t k=>(dv n (s.drop k) line).cons (t.at line)
def jL(s:By):LR:=if 32768<s.length then .fail 3 else dv (s.length+1) s 0
end Go.Proofs.YtoddjlclpnoomaaGreatDoor
namespace Go.Sh
variable {P:Program}{w:Wd}
theorem aD.grown{w w':Wd}{row:Option Nat}(h:w.grownBy w' row):aD row.toList w w':=
 ⟨h.size,λb hb hn=>h.block b hb λe=>hn (by rw[←e];simp),h.os,h.output⟩
theorem fO(t ty e:TypeId)(i:TypeInfo)(z:Va)(size bytes:Nat)(ht:P.underlying t=some (.slice e))(hi:P.info? e=some i)(hz:i.zero=some z)
  (qt:i.size=size) (H4:i.bytes=bytes) (Og:z.cells.size=size) (FH:0<size)
  (v:Va) (n:Nat) (xs:LV) (hH:w.ownsRow 0 e size v n xs)
  (a:Addr) (m c:Nat) (news:LV) (hl:news.length=m*size) (tF:∀j u,news[j]?=some u->w.cell? (a.add j)=some u) (h1:∀u∈news,u.oneCell'=true)
  (vp:n+m<=maxLen) (sb:(n+m)*bytes<=140737488355328):
  ∃v' w',(append_ #[t,t] ty #[v,.slice (some a) m c]).run P w=.ok v' w'/\w'.ownsRow 0 e size v' (n+m) (xs++news)/\aD v.ownBlock.toList w w'/\
   (v'.ownBlock=v.ownBlock\/∃g,v'.ownBlock=some g/\w.heap.size<=g):=by
 obtain⟨v',w',hr,ho,hg,hn⟩:=run_append_own (P:=P) w 0 t ty e i z size bytes ht hi hz qt H4 Og FH v n xs hH a m c news hl tF h1 vp sb (Nat.zero_le _);refine⟨v',w',hr,ho,aD.grown hg,?_⟩;rcases hH.2 with⟨rfl,rfl⟩|⟨g,cap,cur,rfl,We,Oh,Wf,Wg,lK,nJ⟩
 .obtain⟨v2,w2,gh,H5,_,_⟩:=run_append_own (P:=P) w w.heap.size t ty e i z size bytes ht hi hz qt H4 Og FH (.slice none 0 0) 0 xs ⟨hH.1,.inl ⟨rfl,rfl⟩⟩ a m c news hl tF h1 vp sb (le_refl _);rw[hr]at gh
  cases gh
  rcases H5.2 with⟨rfl,_⟩|⟨g,cap,cur,rfl,hb,_⟩
  .exact .inl rfl
  .exact .inr ⟨g,rfl,hb⟩
 .subst qt;by_cases tG:n+m<=cap
  .have Qb:n*i.size+news.length<=cur.size:=by rw[hl,lK,←Nat.add_mul];exact Nat.mul_le_mul_right _ tG
   have gh:=run_append_room (P:=P) w t ty e i ht hi g n cap cur Oh a m c news hl tF h1 tG Qb;rw[hr]at gh
   cases gh
   exact .inl rfl
  .have hsmall:n+m<=9223372036854775807:=by simp only[maxLen]at vp;omega
   subst H4;have holds:∀j u,xs[j]?=some u->w.cell? ((⟨g,0,none⟩:Addr).add j)=some u:=World.ownsRow.cells (base:=0) ⟨hH.1,.inr ⟨g,cap,cur,rfl,We,Oh,Wf,Wg,lK,nJ⟩⟩ (g:=g) rfl;have gh:=run_append_grow (P:=P) w t ty e i z ht hi hz ⟨g,0,none⟩ n cap xs hH.1 holds a m c news hl tF aj aj (growslice_fits aj sb);rw[hr]at gh
   cases gh
   exact .inr ⟨_,rfl,le_refl _⟩
end Go.Sh

