/-
  The contracts of Go's library at this translation, laid by the kit's own tool (plain form), its remarks struck.
-/
import Derived.Shelf.Strings.Builder1
import Derived.Shelf.Strings.Builder2
import Derived.Shelf.Small.Strs
import Derived.Shelf.Small.Wraps
import Derived.Shelf.Strconv.Atoi
import Derived.Shelf.Strconv.Itoa0
import Derived.Shelf.Strconv.Itoa1
import Derived.Shelf.LaysM
import Derived.Shelf.Strconv.Itoa2
import Derived.Shelf.Strconv.Itoa3
import Derived.Shelf.Strconv.Clone
import Derived.Shelf.Strings.Search1
import Derived.Shelf.Strings.Search2
import Derived.Shelf.Strings.Search3
import Derived.Shelf.Strings.Cut
import Derived.Shelf.Strings.Count
import Derived.Shelf.Strings.Shaped
import Derived.Shelf.Strings.Prefix
import Derived.Shelf.Strings.Split
import Derived.Shelf.Strings.Replace
import Derived.Shelf.Unicode.DecodeSlow
import Derived.Test.YtkaiaijcieaofaaGreatDoorProg
namespace Go.Proofs
open Go.Shelf
open Tryz (prog)
theorem Tryz.tk {α:Type} {a:Option α} {b c:α} (h:a=some b) (e:b=c:=by kernel_rfl):a=some c:=h.trans (congrArg some e)
open Tryz
def Tryz.lays137_ren:Go.Shelf.Ren:=⟨fun | 137=>58 | 217=>88 | 266=>132 | n=>n,fun | 9=>9 | 5=>5 | 3=>3 | n=>n,fun | n=>n⟩
theorem Tryz.lays137:Go.Proofs.Lays.n137 prog lays137_ren:={
 mixed:=by kernel_rfl
 f137:=tk func58
 f217:=tk func88
 f266:=tk func132
 t3:=underlying3
 a3:=isAgg3
 z3:=sizeOf3
 v3:=zeroValue3
 t5:=underlying5
 a5:=isAgg5
 z5:=sizeOf5
 v5:=zeroValue5
 t9:=underlying9
 a9:=isAgg9
 z9:=sizeOf9
 v9:=zeroValue9}
open Go.RowKit in
theorem Tryz.strings_IndexByte (s:ByteArray) (c:Int) (w:World):
 Calls prog 58 #[.string s, .int .u8 c] w fun e w'=>e= .returned (.int .i64 (Lib.indexByte s.data.toList c.toNat.toUInt8))∧w'=w:=Any.strings_IndexByte lays137 s c w
def Tryz.lays103_ren:Go.Shelf.Ren:=⟨fun | 103=>72 | 210=>105 | 206=>150 | n=>n,fun | 9=>9 | 4=>4 | 24=>163 | 3=>3 | n=>n,fun | n=>n⟩
theorem Tryz.lays103:Go.Proofs.Lays.n103 prog lays103_ren:={
 mixed:=by kernel_rfl
 f103:=tk func72
 f206:=tk func150
 f210:=tk func105
 t3:=underlying3
 a3:=isAgg3
 z3:=sizeOf3
 v3:=zeroValue3
 t4:=underlying4
 a4:=isAgg4
 z4:=sizeOf4
 v4:=zeroValue4
 t9:=underlying9
 a9:=isAgg9
 z9:=sizeOf9
 v9:=zeroValue9
 t24:=underlying163
 a24:=isAgg163
 z24:=sizeOf163
 v24:=zeroValue163}
open Go.RowKit in
theorem Tryz.strings_CutPrefix (s p:ByteArray) (w:World):
 Calls prog 72 #[.string s, .string p] w fun e w'=>e= .returned (.tuple #[.string ⟨(Lib.trimPrefix s.data.toList p.data.toList).toArray⟩, .bool (Lib.hasPrefix s.data.toList p.data.toList)])∧w'=w:=Any.strings_CutPrefix lays103 s p w
def Tryz.lays172_ren:Go.Shelf.Ren:=⟨fun | 172=>178 | 244=>194 | 245=>195 | 247=>208 | 279=>209 | 280=>210 | 281=>211 | 282=>212 | 287=>230 | 316=>176 | 171=>232 | 205=>231 | 321=>237 | 322=>238 | 243=>239 | 246=>245 | 283=>248 | 284=>249 | 285=>250 | 286=>251 | 129=>253 | 317=>252 | 318=>254 | 319=>255 | 320=>256 | 337=>257 | 338=>258 | n=>n,fun | 9=>9 | 3=>3 | 75=>233 | 76=>234 | 4=>4 | 5=>5 | 167=>304 | 37=>159 | 0=>0 | 85=>305 | 2=>2 | 168=>307 | 53=>288 | 175=>323 | 46=>82 | 210=>326 | 127=>259 | 145=>334 | 143=>332 | 21=>21 | 171=>338 | 173=>341 | 212=>344 | 51=>53 | 20=>20 | 213=>345 | 232=>348 | 233=>349 | 80=>238 | n=>n,fun | 15=>3 | 16=>4 | 17=>5 | 18=>6 | 19=>7 | n=>n⟩
theorem Tryz.lays172:Go.Proofs.Lays.n172 prog lays172_ren:={
 mixed:=by kernel_rfl
 f129:=tk func253
 f171:=tk func232
 f172:=tk func178
 f205:=tk func231
 f243:=tk func239
 f244:=tk func194
 f245:=tk func195
 f246:=tk func245
 f247:=tk func208
 f279:=tk func209
 f280:=tk func210
 f281:=tk func211
 f282:=tk func212
 f283:=tk func248
 f284:=tk func249
 f285:=tk func250
 f286:=tk func251
 f287:=tk func230
 f316:=tk func176
 f317:=tk func252
 f318:=tk func254
 f319:=tk func255
 f320:=tk func256
 f321:=tk func237
 f322:=tk func238
 f337:=tk func257
 f338:=tk func258
 t0:=underlying0
 a0:=isAgg0
 z0:=sizeOf0
 v0:=zeroValue0
 t2:=underlying2
 a2:=isAgg2
 z2:=sizeOf2
 v2:=zeroValue2
 t3:=underlying3
 a3:=isAgg3
 z3:=sizeOf3
 v3:=zeroValue3
 t4:=underlying4
 a4:=isAgg4
 z4:=sizeOf4
 v4:=zeroValue4
 t5:=underlying5
 a5:=isAgg5
 z5:=sizeOf5
 v5:=zeroValue5
 t9:=underlying9
 a9:=isAgg9
 z9:=sizeOf9
 v9:=zeroValue9
 t20:=underlying20
 a20:=isAgg20
 z20:=sizeOf20
 v20:=zeroValue20
 t21:=underlying21
 a21:=isAgg21
 z21:=sizeOf21
 v21:=zeroValue21
 t37:=underlying159
 a37:=isAgg159
 z37:=sizeOf159
 v37:=zeroValue159
 t46:=underlying82
 a46:=isAgg82
 z46:=sizeOf82
 v46:=zeroValue82
 t51:=underlying53
 a51:=isAgg53
 z51:=sizeOf53
 v51:=zeroValue53
 t53:=underlying288
 a53:=isAgg288
 z53:=sizeOf288
 v53:=zeroValue288
 t75:=underlying233
 a75:=isAgg233
 z75:=sizeOf233
 v75:=zeroValue233
 t76:=underlying234
 a76:=isAgg234
 z76:=sizeOf234
 v76:=zeroValue234
 t85:=underlying305
 a85:=isAgg305
 z85:=sizeOf305
 v85:=zeroValue305
 t127:=underlying259
 a127:=isAgg259
 z127:=sizeOf259
 v127:=zeroValue259
 t143:=underlying332
 a143:=isAgg332
 z143:=sizeOf332
 v143:=zeroValue332
 t145:=underlying334
 a145:=isAgg334
 z145:=sizeOf334
 v145:=zeroValue334
 t167:=underlying304
 a167:=isAgg304
 z167:=sizeOf304
 v167:=zeroValue304
 t168:=underlying307
 a168:=isAgg307
 z168:=sizeOf307
 v168:=zeroValue307
 t171:=underlying338
 a171:=isAgg338
 z171:=sizeOf338
 v171:=zeroValue338
 t173:=underlying341
 a173:=isAgg341
 z173:=sizeOf341
 v173:=zeroValue341
 t175:=underlying323
 a175:=isAgg323
 z175:=sizeOf323
 v175:=zeroValue323
 t210:=underlying326
 a210:=isAgg326
 z210:=sizeOf326
 v210:=zeroValue326
 t212:=underlying344
 a212:=isAgg344
 z212:=sizeOf344
 v212:=zeroValue344
 t213:=underlying345
 a213:=isAgg345
 z213:=sizeOf345
 t232:=underlying348
 a232:=isAgg348
 z232:=sizeOf348
 v232:=zeroValue348
 t233:=underlying349
 a233:=isAgg349
 z233:=sizeOf349
 v233:=zeroValue349
 g15:=by kernel_rfl
 g16:=by kernel_rfl
 g17:=by kernel_rfl
 g18:=by kernel_rfl
 g19:=by kernel_rfl}
open Go.RowKit in
theorem Tryz.strconv_Atoi (s:ByteArray) (n:Int) (hl:s.size≤18) (h:Lib.atoi s.data.toList=some n) (w:World):
 Calls prog 178 #[.string s] w fun e w'=>e= .returned (.tuple #[.int .i64 n, .nilIface])∧∃t,w'=Lib.bytesWorld w 5 t:=Any.strconv_Atoi lays172 s n hl h w
def Tryz.laysM316_ren:Go.Shelf.Ren:=⟨fun | 316=>176 | n=>n,fun | 9=>9 | 3=>3 | 4=>4 | 37=>159 | 0=>0 | 127=>259 | 5=>5 | n=>n,fun | n=>n⟩
theorem Tryz.laysM316:Go.Proofs.LaysM.n316 prog laysM316_ren:={
 mixed:=by kernel_rfl
 f316:=tk func176
 t0:=underlying0
 a0:=isAgg0
 z0:=sizeOf0
 v0:=zeroValue0
 t3:=underlying3
 a3:=isAgg3
 z3:=sizeOf3
 v3:=zeroValue3
 t4:=underlying4
 a4:=isAgg4
 z4:=sizeOf4
 v4:=zeroValue4
 t9:=underlying9
 a9:=isAgg9
 z9:=sizeOf9
 v9:=zeroValue9
 t37:=underlying159
 a37:=isAgg159
 z37:=sizeOf159
 v37:=zeroValue159
 t127:=underlying259
 a127:=isAgg259
 z127:=sizeOf259
 v127:=zeroValue259
 t5:=underlying5
 a5:=isAgg5
 z5:=sizeOf5
 v5:=zeroValue5
 i0:=by kernel_rfl
 i3:=by kernel_rfl
 i4:=by kernel_rfl
 i5:=by kernel_rfl
 i9:=by kernel_rfl
 i37:=by kernel_rfl
 i127:=by kernel_rfl}
open Go.RowKit in
theorem Tryz.stringslite_Clone (s:ByteArray) (w:World) (hlim:s.size≤281474976710656):
 Calls prog 176 #[.string s] w fun e w'=>e= .returned (.string s)∧Below w.heap.size w w':=Any.stringslite_Clone laysM316 s w hlim
def Tryz.lays219_ren:Go.Shelf.Ren:=⟨fun | 219=>167 | 217=>88 | 225=>187 | 224=>188 | 267=>189 | 266=>132 | 314=>207 | n=>n,fun | 9=>9 | 3=>3 | 4=>4 | 5=>5 | 46=>82 | 146=>302 | 51=>53 | n=>n,fun | 1=>0 | n=>n⟩
theorem Tryz.lays219:Go.Proofs.Lays.n219 prog lays219_ren:={
 mixed:=by kernel_rfl
 f217:=tk func88
 f219:=tk func167
 f224:=tk func188
 f225:=tk func187
 f266:=tk func132
 f267:=tk func189
 f314:=tk func207
 t3:=underlying3
 a3:=isAgg3
 z3:=sizeOf3
 v3:=zeroValue3
 t4:=underlying4
 a4:=isAgg4
 z4:=sizeOf4
 v4:=zeroValue4
 t5:=underlying5
 a5:=isAgg5
 z5:=sizeOf5
 v5:=zeroValue5
 t9:=underlying9
 a9:=isAgg9
 z9:=sizeOf9
 v9:=zeroValue9
 t46:=underlying82
 a46:=isAgg82
 z46:=sizeOf82
 v46:=zeroValue82
 t51:=underlying53
 a51:=isAgg53
 z51:=sizeOf53
 v51:=zeroValue53
 t146:=underlying302
 a146:=isAgg302
 z146:=sizeOf302
 v146:=zeroValue302
 g1:=by kernel_rfl}
open Go.RowKit Go.Lib in
theorem Tryz.stringslite_Index_one (s:ByteArray) (c:UInt8) (w:World):
 Calls prog 167 #[.string s, .string ⟨#[c]⟩] w fun e w'=>e= .returned (.int .i64 (Lib.indexByte s.data.toList c))∧w'=w:=Any.stringslite_Index_one lays219 s c w
def Tryz.lays144_ren:Go.Shelf.Ren:=⟨fun | 144=>193 | 143=>131 | 219=>167 | 217=>88 | 225=>187 | 224=>188 | 267=>189 | 266=>132 | 314=>207 | n=>n,fun | 9=>9 | 4=>4 | 3=>3 | 5=>5 | 46=>82 | 146=>302 | 51=>53 | n=>n,fun | 1=>0 | n=>n⟩
theorem Tryz.lays144:Go.Proofs.Lays.n144 prog lays144_ren:={
 mixed:=by kernel_rfl
 f143:=tk func131
 f144:=tk func193
 f217:=tk func88
 f219:=tk func167
 f224:=tk func188
 f225:=tk func187
 f266:=tk func132
 f267:=tk func189
 f314:=tk func207
 t3:=underlying3
 a3:=isAgg3
 z3:=sizeOf3
 v3:=zeroValue3
 t4:=underlying4
 a4:=isAgg4
 z4:=sizeOf4
 v4:=zeroValue4
 t5:=underlying5
 a5:=isAgg5
 z5:=sizeOf5
 v5:=zeroValue5
 t9:=underlying9
 a9:=isAgg9
 z9:=sizeOf9
 v9:=zeroValue9
 t46:=underlying82
 a46:=isAgg82
 z46:=sizeOf82
 v46:=zeroValue82
 t51:=underlying53
 a51:=isAgg53
 z51:=sizeOf53
 v51:=zeroValue53
 t146:=underlying302
 a146:=isAgg302
 z146:=sizeOf302
 v146:=zeroValue302
 g1:=by kernel_rfl}
open Go.RowKit Go.Lib in
theorem Tryz.strings_Contains_one (s:ByteArray) (c:UInt8) (w:World):
 Calls prog 193 #[.string s, .string ⟨#[c]⟩] w fun e w'=>e= .returned (.bool (decide (0≤Lib.indexByte s.data.toList c)))∧w'=w:=Any.strings_Contains_one lays144 s c w
def Tryz.lays138_ren:Go.Shelf.Ren:=⟨fun | 138=>87 | 195=>129 | 218=>130 | 143=>131 | 219=>167 | 217=>88 | 225=>187 | 224=>188 | 267=>189 | 266=>132 | 314=>207 | n=>n,fun | 9=>9 | 3=>3 | 4=>4 | 5=>5 | 0=>0 | 46=>82 | 146=>302 | 51=>53 | n=>n,fun | 1=>0 | n=>n⟩
theorem Tryz.lays138:Go.Proofs.Lays.n138 prog lays138_ren:={
 mixed:=by kernel_rfl
 f138:=tk func87
 f143:=tk func131
 f195:=tk func129
 f217:=tk func88
 f218:=tk func130
 f219:=tk func167
 f224:=tk func188
 f225:=tk func187
 f266:=tk func132
 f267:=tk func189
 f314:=tk func207
 t0:=underlying0
 a0:=isAgg0
 z0:=sizeOf0
 v0:=zeroValue0
 t3:=underlying3
 a3:=isAgg3
 z3:=sizeOf3
 v3:=zeroValue3
 t4:=underlying4
 a4:=isAgg4
 z4:=sizeOf4
 v4:=zeroValue4
 t5:=underlying5
 a5:=isAgg5
 z5:=sizeOf5
 v5:=zeroValue5
 t9:=underlying9
 a9:=isAgg9
 z9:=sizeOf9
 v9:=zeroValue9
 t46:=underlying82
 a46:=isAgg82
 z46:=sizeOf82
 v46:=zeroValue82
 t51:=underlying53
 a51:=isAgg53
 z51:=sizeOf53
 v51:=zeroValue53
 t146:=underlying302
 a146:=isAgg302
 z146:=sizeOf302
 v146:=zeroValue302
 g1:=by kernel_rfl}
open Go.RowKit Go.Lib in
theorem Tryz.strings_Count_one (s:ByteArray) (c:UInt8) (w:World):
 Calls prog 87 #[.string s, .string ⟨#[c]⟩] w fun e w'=>e= .returned (.int .i64 (Lib.countByte s.data.toList c))∧w'=w:=Any.strings_Count_one lays138 s c w
def Tryz.lays99_ren:Go.Shelf.Ren:=⟨fun | 99=>106 | 206=>150 | n=>n,fun | 9=>9 | 4=>4 | 3=>3 | n=>n,fun | n=>n⟩
theorem Tryz.lays99:Go.Proofs.Lays.n99 prog lays99_ren:={
 mixed:=by kernel_rfl
 f99:=tk func106
 f206:=tk func150
 t3:=underlying3
 a3:=isAgg3
 z3:=sizeOf3
 v3:=zeroValue3
 t4:=underlying4
 a4:=isAgg4
 z4:=sizeOf4
 v4:=zeroValue4
 t9:=underlying9
 a9:=isAgg9
 z9:=sizeOf9
 v9:=zeroValue9}
open Go.RowKit Go.Lib in
theorem Tryz.strings_HasPrefix (s p:ByteArray) (w:World):
 Calls prog 106 #[.string s, .string p] w fun e w'=>e= .returned (.bool (Lib.hasPrefix s.data.toList p.data.toList))∧w'=w:=Any.strings_HasPrefix lays99 s p w
def Tryz.lays155_ren:Go.Shelf.Ren:=⟨fun | 155=>60 | 154=>93 | 138=>87 | 165=>135 | 143=>131 | 166=>136 | 197=>137 | 169=>138 | 195=>129 | 218=>130 | 240=>169 | 241=>170 | 219=>167 | 260=>171 | 276=>191 | 277=>192 | 217=>88 | 225=>187 | 224=>188 | 267=>189 | 266=>132 | 314=>207 | n=>n,fun | 9=>9 | 3=>3 | 4=>4 | 72=>230 | 0=>0 | 76=>234 | 105=>236 | 21=>21 | 5=>5 | 70=>228 | 20=>20 | 37=>159 | 75=>233 | 127=>259 | 164=>190 | 46=>82 | 119=>280 | 139=>283 | 138=>282 | 146=>302 | 51=>53 | 80=>238 | n=>n,fun | 1=>0 | 3=>1 | 4=>2 | n=>n⟩
theorem Tryz.lays155:Go.Proofs.Lays.n155 prog lays155_ren:={
 mixed:=by kernel_rfl
 f138:=tk func87
 f143:=tk func131
 f154:=tk func93
 f155:=tk func60
 f165:=tk func135
 f166:=tk func136
 f169:=tk func138
 f195:=tk func129
 f197:=tk func137
 f217:=tk func88
 f218:=tk func130
 f219:=tk func167
 f224:=tk func188
 f225:=tk func187
 f240:=tk func169
 f241:=tk func170
 f260:=tk func171
 f266:=tk func132
 f267:=tk func189
 f276:=tk func191
 f277:=tk func192
 f314:=tk func207
 t0:=underlying0
 a0:=isAgg0
 z0:=sizeOf0
 v0:=zeroValue0
 t3:=underlying3
 a3:=isAgg3
 z3:=sizeOf3
 v3:=zeroValue3
 t4:=underlying4
 a4:=isAgg4
 z4:=sizeOf4
 v4:=zeroValue4
 t5:=underlying5
 a5:=isAgg5
 z5:=sizeOf5
 v5:=zeroValue5
 t9:=underlying9
 a9:=isAgg9
 z9:=sizeOf9
 v9:=zeroValue9
 t20:=underlying20
 a20:=isAgg20
 z20:=sizeOf20
 v20:=zeroValue20
 t21:=underlying21
 a21:=isAgg21
 z21:=sizeOf21
 v21:=zeroValue21
 t37:=underlying159
 a37:=isAgg159
 z37:=sizeOf159
 v37:=zeroValue159
 t46:=underlying82
 a46:=isAgg82
 z46:=sizeOf82
 v46:=zeroValue82
 t51:=underlying53
 a51:=isAgg53
 z51:=sizeOf53
 v51:=zeroValue53
 t70:=underlying228
 a70:=isAgg228
 z70:=sizeOf228
 v70:=zeroValue228
 t72:=underlying230
 a72:=isAgg230
 z72:=sizeOf230
 v72:=zeroValue230
 t75:=underlying233
 a75:=isAgg233
 z75:=sizeOf233
 v75:=zeroValue233
 t76:=underlying234
 a76:=isAgg234
 z76:=sizeOf234
 v76:=zeroValue234
 t105:=underlying236
 a105:=isAgg236
 z105:=sizeOf236
 v105:=zeroValue236
 t119:=underlying280
 a119:=isAgg280
 z119:=sizeOf280
 t127:=underlying259
 a127:=isAgg259
 z127:=sizeOf259
 v127:=zeroValue259
 t138:=underlying282
 a138:=isAgg282
 z138:=sizeOf282
 v138:=zeroValue282
 t139:=underlying283
 a139:=isAgg283
 z139:=sizeOf283
 v139:=zeroValue283
 t146:=underlying302
 a146:=isAgg302
 z146:=sizeOf302
 v146:=zeroValue302
 t164:=underlying190
 a164:=isAgg190
 z164:=sizeOf190
 v164:=zeroValue190
 g1:=by kernel_rfl
 g3:=by kernel_rfl
 g4:=by kernel_rfl}
theorem Tryz.Builder_Extra_155:Builder.Extra prog lays155_ren:={
 sizeBuilder:=by kernel_rfl
 liesBuilder:=by kernel_rfl
 t5:=underlying5
 a5:=isAgg5
 z5:=sizeOf5
 v5:=zeroValue5
 infoByte:=by kernel_rfl
 cellsByte:=by kernel_rfl
 sizeByte:=by kernel_rfl
 neB5:=by decide}
open Go.RowKit Go.Lib in
theorem Tryz.strings_ReplaceAll (s old new:ByteArray) (m:Int) (w:World) (hs:s.size < 4294967281) (hm:w.cell? ⟨0,0,none⟩=some (.int .i64 m)) (h1:1≤old.size) (hlen:s.size+Lib.countB s old *new.size≤140737488355328):
 Calls prog 60 #[.string s, .string old, .string new] w fun e w'=>
  e= .returned (.string ⟨(Lib.replaceAll s.data.toList old.data.toList new.data.toList).toArray⟩)∧Below w.heap.size w w':=Any.strings_ReplaceAll lays155 Tryz.Builder_Extra_155 s old new m w hs hm h1 hlen
end Go.Proofs
