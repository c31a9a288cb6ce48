/- Part 5 of the proof of the law ServerMailsAreValid: what it needs. -/
import Derived.Test.YtmmjihadplknjaaGreatDoorKServerMailsAreValid4
import Derived.Shelf.Strings.Builder1
import Derived.Shelf.Strings.Builder2
import Derived.Shelf.Strings.OnBuilder
import Derived.Shelf.Strings.Trim
import Derived.Shelf.Small.Utf8
import Derived.Shelf.Small.Strs
import Derived.Shelf.Small.Wraps
import Derived.Shelf.Strings.BuilderF
import Derived.Shelf.Strconv.Atoi
import Derived.Shelf.Strconv.Itoa0
import Derived.Shelf.Strconv.Itoa1
import Derived.Shelf.LaysM
import Derived.Shelf.Strconv.Itoa2
import Derived.Shelf.Strconv.Itoa3
import Derived.Shelf.Strconv.AtoiErrFast
import Derived.Shelf.Strconv.ParseIntEmpty
import Derived.Shelf.Strconv.AtoiFail
import Derived.Shelf.Strconv.Clone
import Derived.Shelf.Strconv.SyntaxError
import Derived.Shelf.LaysC
import Derived.Shelf.Strconv.ToError
import Derived.Shelf.Strconv.AtoiErr
import Derived.Shelf.Strconv.ErrVar
import Derived.Shelf.Strings.Search1
import Derived.Shelf.Strings.Search2
import Derived.Shelf.Strings.Search3
import Derived.Shelf.Strings.Cut
import Derived.Shelf.Strings.Count
import Derived.Shelf.Strings.Shaped
import Derived.Shelf.Strings.Prefix
import Derived.Shelf.Strings.Split
import Derived.Shelf.Strings.Runes
import Derived.Shelf.Strings.IndexAny
import Derived.Shelf.Strings.AsciiSet
import Derived.Shelf.Strings.IndexAnyAll
import Derived.Shelf.Unicode.DecodeSlow
import Derived.Shelf.Strings.FieldsFuncAny
import Derived.Shelf.Bytes.SlIndexSmall
import Derived.Shelf.Bytes.SlIndexAt
import Derived.Shelf.Bytes.SlSearch0
import Derived.Shelf.Bytes.SlSearch1
import Derived.Shelf.Bytes.SlSearch2
import Derived.Shelf.Bytes.SlIndexWhole
import Derived.Shelf.Bytes.SlSmallAll
import Derived.Shelf.Bytes.SlEqualAll
import Derived.Shelf.Bytes.Small
import Derived.Shelf.Bytes.IndexByte
import Derived.Test.YtmmjihadplknjaaGreatDoorProg
import Derived.Tactics
import Derived.Tactics2
import Derived.Defers
import Derived.Laws.Pointers
import Derived.Laws.LoneSync
import Derived.RegionTactic
import Derived.RegionCalls
import Derived.ChangeAlike
import Derived.WalkKit
import Derived.Lib.Walk
import Derived.Lib.Strings
import Derived.Lib.IndexBytes
import Derived.Lib.AsciiSet
import Derived.Laws.Strings3
import Derived.Laws.ResultCell
import Derived.Deep.LoopGhost
import Derived.Deep.WholeRow
import Derived.Shelf.RegionOpenPlain
import Derived.Laws.NewBlocks
import Derived.Laws.Cover3
import Derived.Laws.IdiomStrings
import Derived.Laws.BytesArg
import Derived.Lib.TrimByte
import Derived.Shelf.Strings.SlTrimAscii
set_option linter.unusedVariables false
set_option linter.unusedSimpArgs false
set_option maxRecDepth 100000
set_option maxHeartbeats 40000000
namespace Go.Proofs
open Go.Shelf
def Tryz.lays156_ren:Go.Shelf.Ren:=⟨fun | 156=>188 | 165=>206 | 166=>207 | 169=>208 | 240=>227 | 241=>228 | 276=>239 | 277=>240 | n=>n,fun | 31=>26 | 9=>9 | 3=>3 | 4=>4 | 0=>0 | 20=>20 | 72=>226 | 76=>207 | 70=>224 | 37=>23 | 75=>206 | 127=>253 | 164=>278 | 5=>5 | 80=>228 | n=>n,fun | n=>n⟩
theorem Tryz.lays156:Go.Proofs.Lays.n156 Tryz.prog Tryz.lays156_ren:={
 mixed:=by kernel_rfl
 f156:=Tryz.func188.trans (congrArg some (by kernel_rfl))
 f165:=Tryz.func206.trans (congrArg some (by kernel_rfl))
 f166:=Tryz.func207.trans (congrArg some (by kernel_rfl))
 f169:=Tryz.func208.trans (congrArg some (by kernel_rfl))
 f240:=Tryz.func227.trans (congrArg some (by kernel_rfl))
 f241:=Tryz.func228.trans (congrArg some (by kernel_rfl))
 f276:=Tryz.func239.trans (congrArg some (by kernel_rfl))
 f277:=Tryz.func240.trans (congrArg some (by kernel_rfl))
 t0:=Tryz.underlying0
 a0:=Tryz.isAgg0
 z0:=Tryz.sizeOf0
 v0:=Tryz.zeroValue0
 t3:=Tryz.underlying3
 a3:=Tryz.isAgg3
 z3:=Tryz.sizeOf3
 v3:=Tryz.zeroValue3
 t4:=Tryz.underlying4
 a4:=Tryz.isAgg4
 z4:=Tryz.sizeOf4
 v4:=Tryz.zeroValue4
 t9:=Tryz.underlying9
 a9:=Tryz.isAgg9
 z9:=Tryz.sizeOf9
 v9:=Tryz.zeroValue9
 t20:=Tryz.underlying20
 a20:=Tryz.isAgg20
 z20:=Tryz.sizeOf20
 v20:=Tryz.zeroValue20
 t31:=Tryz.underlying26
 a31:=Tryz.isAgg26
 z31:=Tryz.sizeOf26
 v31:=Tryz.zeroValue26
 t37:=Tryz.underlying23
 a37:=Tryz.isAgg23
 z37:=Tryz.sizeOf23
 v37:=Tryz.zeroValue23
 t70:=Tryz.underlying224
 a70:=Tryz.isAgg224
 z70:=Tryz.sizeOf224
 v70:=Tryz.zeroValue224
 t72:=Tryz.underlying226
 a72:=Tryz.isAgg226
 z72:=Tryz.sizeOf226
 v72:=Tryz.zeroValue226
 t75:=Tryz.underlying206
 a75:=Tryz.isAgg206
 z75:=Tryz.sizeOf206
 v75:=Tryz.zeroValue206
 t76:=Tryz.underlying207
 a76:=Tryz.isAgg207
 z76:=Tryz.sizeOf207
 v76:=Tryz.zeroValue207
 t127:=Tryz.underlying253
 a127:=Tryz.isAgg253
 z127:=Tryz.sizeOf253
 v127:=Tryz.zeroValue253
 t164:=Tryz.underlying278
 a164:=Tryz.isAgg278
 z164:=Tryz.sizeOf278
 v164:=Tryz.zeroValue278}
theorem Tryz.Builder_Extra_156:Builder.Extra Tryz.prog Tryz.lays156_ren:={
 sizeBuilder:=by kernel_rfl
 liesBuilder:=by kernel_rfl
 t5:=Tryz.underlying5
 a5:=Tryz.isAgg5
 z5:=Tryz.sizeOf5
 v5:=Tryz.zeroValue5
 infoByte:=by kernel_rfl
 cellsByte:=by kernel_rfl
 sizeByte:=by kernel_rfl
 neB5:=by decide}
open Go.RowKit in
theorem Tryz.strings_Join_none(a:Option Addr)(c:Nat)(sep:ByteArray)(w:World):
 Calls Tryz.prog 188 #[.slice a 0 c,.string sep] w fun e w' =>e=.returned (.string ⟨#[]⟩)/\w' =w:=Any.strings_Join_none Tryz.lays156 Tryz.Builder_Extra_156 a c sep w
open Go.RowKit in
theorem Tryz.strings_Join(bk o c:Nat)(xs:List ByteArray)(sep:ByteArray)(w:World)(hcells:∀(j:Nat) x,xs[j]? =some x->w.cell? ⟨bk,o+j,none⟩=some (.string x))(hbk:bk < w.heap.size)(hN:xs.length<=140737488355328)(hcap:xs.length<=c)(hlen:(Lib.join (xs.map (·.data.toList)) sep.data.toList).length<=140737488355328):
 Calls Tryz.prog 188 #[.slice (some ⟨bk,o,none⟩) xs.length c,.string sep] w fun e w' =>e=.returned (.string ⟨(Lib.join (xs.map (·.data.toList)) sep.data.toList).toArray⟩)/\Below w.heap.size w w' :=Any.strings_Join Tryz.lays156 Tryz.Builder_Extra_156 bk o c xs sep w hcells hbk hN hcap hlen
def Tryz.lays162_ren:Go.Shelf.Ren:=⟨fun | 162=>169 | 232=>172 | 227=>173 | 234=>175 | 236=>177 | 228=>192 | 271=>195 | 151=>194 | 120=>213 | 197=>193 | 152=>209 | 260=>212 | 137=>118 | 119=>229 | 224=>148 | 225=>190 | 217=>141 | 266=>162 | n=>n,fun | 9=>9 | 4=>4 | 3=>3 | 5=>5 | 117=>194 | 116=>193 | 0=>0 | 124=>197 | 21=>21 | 105=>214 | 46=>162 | 119=>239 | 139=>256 | 138=>255 | n=>n,fun | 3=>2 | 4=>3 | n=>n⟩
theorem Tryz.lays162:Go.Proofs.Lays.n162 Tryz.prog Tryz.lays162_ren:={
 mixed:=by kernel_rfl
 f119:=Tryz.func229.trans (congrArg some (by kernel_rfl))
 f120:=Tryz.func213.trans (congrArg some (by kernel_rfl))
 f137:=Tryz.func118.trans (congrArg some (by kernel_rfl))
 f151:=Tryz.func194.trans (congrArg some (by kernel_rfl))
 f152:=Tryz.func209.trans (congrArg some (by kernel_rfl))
 f162:=Tryz.func169.trans (congrArg some (by kernel_rfl))
 f197:=Tryz.func193.trans (congrArg some (by kernel_rfl))
 f217:=Tryz.func141.trans (congrArg some (by kernel_rfl))
 f224:=Tryz.func148.trans (congrArg some (by kernel_rfl))
 f225:=Tryz.func190.trans (congrArg some (by kernel_rfl))
 f227:=Tryz.func173.trans (congrArg some (by kernel_rfl))
 f228:=Tryz.func192.trans (congrArg some (by kernel_rfl))
 f232:=Tryz.func172.trans (congrArg some (by kernel_rfl))
 f234:=Tryz.func175.trans (congrArg some (by kernel_rfl))
 f236:=Tryz.func177.trans (congrArg some (by kernel_rfl))
 f260:=Tryz.func212.trans (congrArg some (by kernel_rfl))
 f266:=Tryz.func162.trans (congrArg some (by kernel_rfl))
 f271:=Tryz.func195.trans (congrArg some (by kernel_rfl))
 t0:=Tryz.underlying0
 a0:=Tryz.isAgg0
 z0:=Tryz.sizeOf0
 v0:=Tryz.zeroValue0
 t3:=Tryz.underlying3
 a3:=Tryz.isAgg3
 z3:=Tryz.sizeOf3
 v3:=Tryz.zeroValue3
 t4:=Tryz.underlying4
 a4:=Tryz.isAgg4
 z4:=Tryz.sizeOf4
 v4:=Tryz.zeroValue4
 t5:=Tryz.underlying5
 a5:=Tryz.isAgg5
 z5:=Tryz.sizeOf5
 v5:=Tryz.zeroValue5
 t9:=Tryz.underlying9
 a9:=Tryz.isAgg9
 z9:=Tryz.sizeOf9
 v9:=Tryz.zeroValue9
 t21:=Tryz.underlying21
 a21:=Tryz.isAgg21
 z21:=Tryz.sizeOf21
 v21:=Tryz.zeroValue21
 t46:=Tryz.underlying162
 a46:=Tryz.isAgg162
 z46:=Tryz.sizeOf162
 v46:=Tryz.zeroValue162
 t105:=Tryz.underlying214
 a105:=Tryz.isAgg214
 z105:=Tryz.sizeOf214
 v105:=Tryz.zeroValue214
 t116:=Tryz.underlying193
 a116:=Tryz.isAgg193
 z116:=Tryz.sizeOf193
 t117:=Tryz.underlying194
 a117:=Tryz.isAgg194
 z117:=Tryz.sizeOf194
 v117:=Tryz.zeroValue194
 t119:=Tryz.underlying239
 a119:=Tryz.isAgg239
 z119:=Tryz.sizeOf239
 t124:=Tryz.underlying197
 a124:=Tryz.isAgg197
 z124:=Tryz.sizeOf197
 v124:=Tryz.zeroValue197
 t138:=Tryz.underlying255
 a138:=Tryz.isAgg255
 z138:=Tryz.sizeOf255
 v138:=Tryz.zeroValue255
 t139:=Tryz.underlying256
 a139:=Tryz.isAgg256
 z139:=Tryz.sizeOf256
 v139:=Tryz.zeroValue256
 g3:=by kernel_rfl
 g4:=by kernel_rfl}
def Tryz.lays160_ren:Go.Shelf.Ren:=⟨fun | 160=>153 | 232=>172 | 231=>171 | 227=>173 | 234=>175 | 233=>174 | 236=>177 | 235=>176 | 228=>192 | 271=>195 | 151=>194 | 197=>193 | 120=>213 | 152=>209 | 260=>212 | 137=>118 | 119=>229 | 224=>148 | 225=>190 | 217=>141 | 266=>162 | n=>n,fun | 9=>9 | 4=>4 | 3=>3 | 5=>5 | 117=>194 | 116=>193 | 0=>0 | 124=>197 | 21=>21 | 105=>214 | 46=>162 | 119=>239 | 139=>256 | 138=>255 | n=>n,fun | 3=>2 | 4=>3 | n=>n⟩
theorem Tryz.lays160:Go.Proofs.Lays.n160 Tryz.prog Tryz.lays160_ren:={
 mixed:=by kernel_rfl
 f119:=Tryz.func229.trans (congrArg some (by kernel_rfl))
 f120:=Tryz.func213.trans (congrArg some (by kernel_rfl))
 f137:=Tryz.func118.trans (congrArg some (by kernel_rfl))
 f151:=Tryz.func194.trans (congrArg some (by kernel_rfl))
 f152:=Tryz.func209.trans (congrArg some (by kernel_rfl))
 f160:=Tryz.func153.trans (congrArg some (by kernel_rfl))
 f197:=Tryz.func193.trans (congrArg some (by kernel_rfl))
 f217:=Tryz.func141.trans (congrArg some (by kernel_rfl))
 f224:=Tryz.func148.trans (congrArg some (by kernel_rfl))
 f225:=Tryz.func190.trans (congrArg some (by kernel_rfl))
 f227:=Tryz.func173.trans (congrArg some (by kernel_rfl))
 f228:=Tryz.func192.trans (congrArg some (by kernel_rfl))
 f231:=Tryz.func171.trans (congrArg some (by kernel_rfl))
 f232:=Tryz.func172.trans (congrArg some (by kernel_rfl))
 f233:=Tryz.func174.trans (congrArg some (by kernel_rfl))
 f234:=Tryz.func175.trans (congrArg some (by kernel_rfl))
 f235:=Tryz.func176.trans (congrArg some (by kernel_rfl))
 f236:=Tryz.func177.trans (congrArg some (by kernel_rfl))
 f260:=Tryz.func212.trans (congrArg some (by kernel_rfl))
 f266:=Tryz.func162.trans (congrArg some (by kernel_rfl))
 f271:=Tryz.func195.trans (congrArg some (by kernel_rfl))
 t0:=Tryz.underlying0
 a0:=Tryz.isAgg0
 z0:=Tryz.sizeOf0
 v0:=Tryz.zeroValue0
 t3:=Tryz.underlying3
 a3:=Tryz.isAgg3
 z3:=Tryz.sizeOf3
 v3:=Tryz.zeroValue3
 t4:=Tryz.underlying4
 a4:=Tryz.isAgg4
 z4:=Tryz.sizeOf4
 v4:=Tryz.zeroValue4
 t5:=Tryz.underlying5
 a5:=Tryz.isAgg5
 z5:=Tryz.sizeOf5
 v5:=Tryz.zeroValue5
 t9:=Tryz.underlying9
 a9:=Tryz.isAgg9
 z9:=Tryz.sizeOf9
 v9:=Tryz.zeroValue9
 t21:=Tryz.underlying21
 a21:=Tryz.isAgg21
 z21:=Tryz.sizeOf21
 v21:=Tryz.zeroValue21
 t46:=Tryz.underlying162
 a46:=Tryz.isAgg162
 z46:=Tryz.sizeOf162
 v46:=Tryz.zeroValue162
 t105:=Tryz.underlying214
 a105:=Tryz.isAgg214
 z105:=Tryz.sizeOf214
 v105:=Tryz.zeroValue214
 t116:=Tryz.underlying193
 a116:=Tryz.isAgg193
 z116:=Tryz.sizeOf193
 t117:=Tryz.underlying194
 a117:=Tryz.isAgg194
 z117:=Tryz.sizeOf194
 v117:=Tryz.zeroValue194
 t119:=Tryz.underlying239
 a119:=Tryz.isAgg239
 z119:=Tryz.sizeOf239
 t124:=Tryz.underlying197
 a124:=Tryz.isAgg197
 z124:=Tryz.sizeOf197
 v124:=Tryz.zeroValue197
 t138:=Tryz.underlying255
 a138:=Tryz.isAgg255
 z138:=Tryz.sizeOf255
 v138:=Tryz.zeroValue255
 t139:=Tryz.underlying256
 a139:=Tryz.isAgg256
 z139:=Tryz.sizeOf256
 v139:=Tryz.zeroValue256
 g3:=by kernel_rfl
 g4:=by kernel_rfl}
def Tryz.lays137_ren:Go.Shelf.Ren:=⟨fun | 137=>118 | 217=>141 | 266=>162 | n=>n,fun | 9=>9 | 5=>5 | 3=>3 | n=>n,fun | n=>n⟩
theorem Tryz.lays137:Go.Proofs.Lays.n137 Tryz.prog Tryz.lays137_ren:={
 mixed:=by kernel_rfl
 f137:=Tryz.func118.trans (congrArg some (by kernel_rfl))
 f217:=Tryz.func141.trans (congrArg some (by kernel_rfl))
 f266:=Tryz.func162.trans (congrArg some (by kernel_rfl))
 t3:=Tryz.underlying3
 a3:=Tryz.isAgg3
 z3:=Tryz.sizeOf3
 v3:=Tryz.zeroValue3
 t5:=Tryz.underlying5
 a5:=Tryz.isAgg5
 z5:=Tryz.sizeOf5
 v5:=Tryz.zeroValue5
 t9:=Tryz.underlying9
 a9:=Tryz.isAgg9
 z9:=Tryz.sizeOf9
 v9:=Tryz.zeroValue9}
open Go.RowKit in
theorem Tryz.strings_IndexByte(s:ByteArray)(c:Int)(w:World):
 Calls Tryz.prog 118 #[.string s,.int .u8 c] w fun e w' =>e=.returned (.int .i64 (Lib.indexByte s.data.toList c.toNat.toUInt8))/\w' =w:=Any.strings_IndexByte Tryz.lays137 s c w
def Tryz.lays103_ren:Go.Shelf.Ren:=⟨fun | 103=>156 | 210=>184 | 206=>163 | n=>n,fun | 9=>9 | 4=>4 | 24=>130 | 3=>3 | n=>n,fun | n=>n⟩
theorem Tryz.lays103:Go.Proofs.Lays.n103 Tryz.prog Tryz.lays103_ren:={
 mixed:=by kernel_rfl
 f103:=Tryz.func156.trans (congrArg some (by kernel_rfl))
 f206:=Tryz.func163.trans (congrArg some (by kernel_rfl))
 f210:=Tryz.func184.trans (congrArg some (by kernel_rfl))
 t3:=Tryz.underlying3
 a3:=Tryz.isAgg3
 z3:=Tryz.sizeOf3
 v3:=Tryz.zeroValue3
 t4:=Tryz.underlying4
 a4:=Tryz.isAgg4
 z4:=Tryz.sizeOf4
 v4:=Tryz.zeroValue4
 t9:=Tryz.underlying9
 a9:=Tryz.isAgg9
 z9:=Tryz.sizeOf9
 v9:=Tryz.zeroValue9
 t24:=Tryz.underlying130
 a24:=Tryz.isAgg130
 z24:=Tryz.sizeOf130
 v24:=Tryz.zeroValue130}
open Go.RowKit in
theorem Tryz.strings_CutPrefix(s p:ByteArray)(w:World):
 Calls Tryz.prog 156 #[.string s,.string p] w fun e w' =>e=.returned (.tuple #[.string ⟨(Lib.trimPrefix s.data.toList p.data.toList).toArray⟩,.bool (Lib.hasPrefix s.data.toList p.data.toList)])/\w' =w:=Any.strings_CutPrefix Tryz.lays103 s p w
def Tryz.lays104_ren:Go.Shelf.Ren:=⟨fun | 104=>157 | 211=>185 | 207=>164 | n=>n,fun | 9=>9 | 4=>4 | 24=>130 | 3=>3 | n=>n,fun | n=>n⟩
theorem Tryz.lays104:Go.Proofs.Lays.n104 Tryz.prog Tryz.lays104_ren:={
 mixed:=by kernel_rfl
 f104:=Tryz.func157.trans (congrArg some (by kernel_rfl))
 f207:=Tryz.func164.trans (congrArg some (by kernel_rfl))
 f211:=Tryz.func185.trans (congrArg some (by kernel_rfl))
 t3:=Tryz.underlying3
 a3:=Tryz.isAgg3
 z3:=Tryz.sizeOf3
 v3:=Tryz.zeroValue3
 t4:=Tryz.underlying4
 a4:=Tryz.isAgg4
 z4:=Tryz.sizeOf4
 v4:=Tryz.zeroValue4
 t9:=Tryz.underlying9
 a9:=Tryz.isAgg9
 z9:=Tryz.sizeOf9
 v9:=Tryz.zeroValue9
 t24:=Tryz.underlying130
 a24:=Tryz.isAgg130
 z24:=Tryz.sizeOf130
 v24:=Tryz.zeroValue130}
open Go.RowKit in
theorem Tryz.strings_CutSuffix(s p:ByteArray)(w:World)(hs:s.size<=9223372036854775807):
 Calls Tryz.prog 157 #[.string s,.string p] w fun e w' =>e=.returned (.tuple #[.string ⟨(Lib.trimSuffix s.data.toList p.data.toList).toArray⟩,.bool (Lib.hasSuffix s.data.toList p.data.toList)])/\w' =w:=Any.strings_CutSuffix Tryz.lays104 s p w hs
def Tryz.lays172_ren:Go.Shelf.Ren:=⟨fun | 172=>186 | 244=>204 | 245=>205 | 247=>222 | 279=>223 | 280=>224 | 281=>225 | 282=>226 | 287=>236 | 316=>237 | 171=>92 | 205=>238 | 321=>250 | 322=>251 | 243=>124 | 246=>155 | 283=>180 | 284=>181 | 285=>182 | 286=>183 | 129=>200 | 317=>199 | 318=>201 | 319=>202 | 320=>203 | 337=>220 | 338=>221 | n=>n,fun | 9=>9 | 3=>3 | 75=>206 | 76=>207 | 4=>4 | 5=>5 | 167=>247 | 37=>23 | 0=>0 | 85=>248 | 2=>2 | 168=>250 | 53=>200 | 175=>273 | 46=>162 | 210=>276 | 127=>253 | 145=>293 | 143=>291 | 21=>21 | 171=>199 | 173=>203 | 212=>220 | 51=>172 | 20=>20 | 213=>221 | 232=>271 | 233=>272 | 80=>228 | n=>n,fun | 15=>6 | 16=>7 | 17=>1 | 18=>4 | 19=>5 | n=>n⟩
theorem Tryz.lays172:Go.Proofs.Lays.n172 Tryz.prog Tryz.lays172_ren:={
 mixed:=by kernel_rfl
 f129:=Tryz.func200.trans (congrArg some (by kernel_rfl))
 f171:=Tryz.func92.trans (congrArg some (by kernel_rfl))
 f172:=Tryz.func186.trans (congrArg some (by kernel_rfl))
 f205:=Tryz.func238.trans (congrArg some (by kernel_rfl))
 f243:=Tryz.func124.trans (congrArg some (by kernel_rfl))
 f244:=Tryz.func204.trans (congrArg some (by kernel_rfl))
 f245:=Tryz.func205.trans (congrArg some (by kernel_rfl))
 f246:=Tryz.func155.trans (congrArg some (by kernel_rfl))
 f247:=Tryz.func222.trans (congrArg some (by kernel_rfl))
 f279:=Tryz.func223.trans (congrArg some (by kernel_rfl))
 f280:=Tryz.func224.trans (congrArg some (by kernel_rfl))
 f281:=Tryz.func225.trans (congrArg some (by kernel_rfl))
 f282:=Tryz.func226.trans (congrArg some (by kernel_rfl))
 f283:=Tryz.func180.trans (congrArg some (by kernel_rfl))
 f284:=Tryz.func181.trans (congrArg some (by kernel_rfl))
 f285:=Tryz.func182.trans (congrArg some (by kernel_rfl))
 f286:=Tryz.func183.trans (congrArg some (by kernel_rfl))
 f287:=Tryz.func236.trans (congrArg some (by kernel_rfl))
 f316:=Tryz.func237.trans (congrArg some (by kernel_rfl))
 f317:=Tryz.func199.trans (congrArg some (by kernel_rfl))
 f318:=Tryz.func201.trans (congrArg some (by kernel_rfl))
 f319:=Tryz.func202.trans (congrArg some (by kernel_rfl))
 f320:=Tryz.func203.trans (congrArg some (by kernel_rfl))
 f321:=Tryz.func250.trans (congrArg some (by kernel_rfl))
 f322:=Tryz.func251.trans (congrArg some (by kernel_rfl))
 f337:=Tryz.func220.trans (congrArg some (by kernel_rfl))
 f338:=Tryz.func221.trans (congrArg some (by kernel_rfl))
 t0:=Tryz.underlying0
 a0:=Tryz.isAgg0
 z0:=Tryz.sizeOf0
 v0:=Tryz.zeroValue0
 t2:=Tryz.underlying2
 a2:=Tryz.isAgg2
 z2:=Tryz.sizeOf2
 v2:=Tryz.zeroValue2
 t3:=Tryz.underlying3
 a3:=Tryz.isAgg3
 z3:=Tryz.sizeOf3
 v3:=Tryz.zeroValue3
 t4:=Tryz.underlying4
 a4:=Tryz.isAgg4
 z4:=Tryz.sizeOf4
 v4:=Tryz.zeroValue4
 t5:=Tryz.underlying5
 a5:=Tryz.isAgg5
 z5:=Tryz.sizeOf5
 v5:=Tryz.zeroValue5
 t9:=Tryz.underlying9
 a9:=Tryz.isAgg9
 z9:=Tryz.sizeOf9
 v9:=Tryz.zeroValue9
 t20:=Tryz.underlying20
 a20:=Tryz.isAgg20
 z20:=Tryz.sizeOf20
 v20:=Tryz.zeroValue20
 t21:=Tryz.underlying21
 a21:=Tryz.isAgg21
 z21:=Tryz.sizeOf21
 v21:=Tryz.zeroValue21
 t37:=Tryz.underlying23
 a37:=Tryz.isAgg23
 z37:=Tryz.sizeOf23
 v37:=Tryz.zeroValue23
 t46:=Tryz.underlying162
 a46:=Tryz.isAgg162
 z46:=Tryz.sizeOf162
 v46:=Tryz.zeroValue162
 t51:=Tryz.underlying172
 a51:=Tryz.isAgg172
 z51:=Tryz.sizeOf172
 v51:=Tryz.zeroValue172
 t53:=Tryz.underlying200
 a53:=Tryz.isAgg200
 z53:=Tryz.sizeOf200
 v53:=Tryz.zeroValue200
 t75:=Tryz.underlying206
 a75:=Tryz.isAgg206
 z75:=Tryz.sizeOf206
 v75:=Tryz.zeroValue206
 t76:=Tryz.underlying207
 a76:=Tryz.isAgg207
 z76:=Tryz.sizeOf207
 v76:=Tryz.zeroValue207
 t85:=Tryz.underlying248
 a85:=Tryz.isAgg248
 z85:=Tryz.sizeOf248
 v85:=Tryz.zeroValue248
 t127:=Tryz.underlying253
 a127:=Tryz.isAgg253
 z127:=Tryz.sizeOf253
 v127:=Tryz.zeroValue253
 t143:=Tryz.underlying291
 a143:=Tryz.isAgg291
 z143:=Tryz.sizeOf291
 v143:=Tryz.zeroValue291
 t145:=Tryz.underlying293
 a145:=Tryz.isAgg293
 z145:=Tryz.sizeOf293
 v145:=Tryz.zeroValue293
 t167:=Tryz.underlying247
 a167:=Tryz.isAgg247
 z167:=Tryz.sizeOf247
 v167:=Tryz.zeroValue247
 t168:=Tryz.underlying250
 a168:=Tryz.isAgg250
 z168:=Tryz.sizeOf250
 v168:=Tryz.zeroValue250
 t171:=Tryz.underlying199
 a171:=Tryz.isAgg199
 z171:=Tryz.sizeOf199
 v171:=Tryz.zeroValue199
 t173:=Tryz.underlying203
 a173:=Tryz.isAgg203
 z173:=Tryz.sizeOf203
 v173:=Tryz.zeroValue203
 t175:=Tryz.underlying273
 a175:=Tryz.isAgg273
 z175:=Tryz.sizeOf273
 v175:=Tryz.zeroValue273
 t210:=Tryz.underlying276
 a210:=Tryz.isAgg276
 z210:=Tryz.sizeOf276
 v210:=Tryz.zeroValue276
 t212:=Tryz.underlying220
 a212:=Tryz.isAgg220
 z212:=Tryz.sizeOf220
 v212:=Tryz.zeroValue220
 t213:=Tryz.underlying221
 a213:=Tryz.isAgg221
 z213:=Tryz.sizeOf221
 t232:=Tryz.underlying271
 a232:=Tryz.isAgg271
 z232:=Tryz.sizeOf271
 v232:=Tryz.zeroValue271
 t233:=Tryz.underlying272
 a233:=Tryz.isAgg272
 z233:=Tryz.sizeOf272
 v233:=Tryz.zeroValue272
 g15:=by kernel_rfl
 g16:=by kernel_rfl
 g17:=by kernel_rfl
 g18:=by kernel_rfl
 g19:=by kernel_rfl}
open Go.RowKit in
theorem Tryz.strconv_Atoi(s:ByteArray)(n:Int)(hl:s.size<=18)(h:Lib.atoi s.data.toList=some n)(w:World):
 Calls Tryz.prog 186 #[.string s] w fun e w' =>e=.returned (.tuple #[.int .i64 n,.nilIface])/\∃t,w' =Lib.bytesWorld w 5 t:=Any.strconv_Atoi Tryz.lays172 s n hl h w
def Tryz.laysM171_ren:Go.Shelf.Ren:=⟨fun | 171=>92 | 243=>124 | 246=>155 | 283=>180 | 284=>181 | 285=>182 | 286=>183 | 129=>200 | 317=>199 | 318=>201 | 319=>202 | 320=>203 | 337=>220 | 338=>221 | n=>n,fun | 3=>3 | 9=>9 | 2=>2 | 4=>4 | 171=>199 | 0=>0 | 53=>200 | 37=>23 | 5=>5 | 173=>203 | 212=>220 | 51=>172 | 20=>20 | 213=>221 | 46=>162 | 232=>271 | 233=>272 | n=>n,fun | 17=>1 | 18=>4 | 19=>5 | n=>n⟩
theorem Tryz.laysM171:Go.Proofs.LaysM.n171 Tryz.prog Tryz.laysM171_ren:={
 mixed:=by kernel_rfl
 f129:=Tryz.func200.trans (congrArg some (by kernel_rfl))
 f171:=Tryz.func92.trans (congrArg some (by kernel_rfl))
 f243:=Tryz.func124.trans (congrArg some (by kernel_rfl))
 f246:=Tryz.func155.trans (congrArg some (by kernel_rfl))
 f283:=Tryz.func180.trans (congrArg some (by kernel_rfl))
 f284:=Tryz.func181.trans (congrArg some (by kernel_rfl))
 f285:=Tryz.func182.trans (congrArg some (by kernel_rfl))
 f286:=Tryz.func183.trans (congrArg some (by kernel_rfl))
 f317:=Tryz.func199.trans (congrArg some (by kernel_rfl))
 f318:=Tryz.func201.trans (congrArg some (by kernel_rfl))
 f319:=Tryz.func202.trans (congrArg some (by kernel_rfl))
 f320:=Tryz.func203.trans (congrArg some (by kernel_rfl))
 f337:=Tryz.func220.trans (congrArg some (by kernel_rfl))
 f338:=Tryz.func221.trans (congrArg some (by kernel_rfl))
 t0:=Tryz.underlying0
 a0:=Tryz.isAgg0
 z0:=Tryz.sizeOf0
 v0:=Tryz.zeroValue0
 t2:=Tryz.underlying2
 a2:=Tryz.isAgg2
 z2:=Tryz.sizeOf2
 v2:=Tryz.zeroValue2
 t3:=Tryz.underlying3
 a3:=Tryz.isAgg3
 z3:=Tryz.sizeOf3
 v3:=Tryz.zeroValue3
 t4:=Tryz.underlying4
 a4:=Tryz.isAgg4
 z4:=Tryz.sizeOf4
 v4:=Tryz.zeroValue4
 t5:=Tryz.underlying5
 a5:=Tryz.isAgg5
 z5:=Tryz.sizeOf5
 v5:=Tryz.zeroValue5
 t9:=Tryz.underlying9
 a9:=Tryz.isAgg9
 z9:=Tryz.sizeOf9
 v9:=Tryz.zeroValue9
 t20:=Tryz.underlying20
 a20:=Tryz.isAgg20
 z20:=Tryz.sizeOf20
 v20:=Tryz.zeroValue20
 t37:=Tryz.underlying23
 a37:=Tryz.isAgg23
 z37:=Tryz.sizeOf23
 v37:=Tryz.zeroValue23
 t46:=Tryz.underlying162
 a46:=Tryz.isAgg162
 z46:=Tryz.sizeOf162
 v46:=Tryz.zeroValue162
 t51:=Tryz.underlying172
 a51:=Tryz.isAgg172
 z51:=Tryz.sizeOf172
 v51:=Tryz.zeroValue172
 t53:=Tryz.underlying200
 a53:=Tryz.isAgg200
 z53:=Tryz.sizeOf200
 v53:=Tryz.zeroValue200
 t171:=Tryz.underlying199
 a171:=Tryz.isAgg199
 z171:=Tryz.sizeOf199
 v171:=Tryz.zeroValue199
 t173:=Tryz.underlying203
 a173:=Tryz.isAgg203
 z173:=Tryz.sizeOf203
 v173:=Tryz.zeroValue203
 t212:=Tryz.underlying220
 a212:=Tryz.isAgg220
 z212:=Tryz.sizeOf220
 v212:=Tryz.zeroValue220
 t213:=Tryz.underlying221
 a213:=Tryz.isAgg221
 z213:=Tryz.sizeOf221
 t232:=Tryz.underlying271
 a232:=Tryz.isAgg271
 z232:=Tryz.sizeOf271
 v232:=Tryz.zeroValue271
 t233:=Tryz.underlying272
 a233:=Tryz.isAgg272
 z233:=Tryz.sizeOf272
 v233:=Tryz.zeroValue272
 g17:=by kernel_rfl
 g18:=by kernel_rfl
 g19:=by kernel_rfl
 i0:=by kernel_rfl
 i2:=by kernel_rfl
 i3:=by kernel_rfl
 i4:=by kernel_rfl
 i5:=by kernel_rfl
 i9:=by kernel_rfl
 i20:=by kernel_rfl
 i37:=by kernel_rfl
 i46:=by kernel_rfl
 i51:=by kernel_rfl
 i53:=by kernel_rfl
 i171:=by kernel_rfl
 i173:=by kernel_rfl
 i212:=by kernel_rfl
 i232:=by kernel_rfl
 i233:=by kernel_rfl
 m17:=by kernel_rfl
 m18:=by kernel_rfl
 m19:=by kernel_rfl}
open Go.RowKit Go.Sort Go.Lib in
theorem Tryz.strconv_Itoa (n : Int) (h0 : -9223372036854775808 <= n) (h1 : n <= 9223372036854775807) (w : World) (htab : Lib.TabIs Tryz.prog w "internal/strconv.uint64pow10" .u64 Lib.pow10Tab) :
 Calls Tryz.prog 92 #[.int .i64 n] w fun e w' =>e=.returned (.string ⟨(Lib.itoa n).toArray⟩)/\∃k os,w' =grow (w.drewN k) os:=Any.strconv_Itoa Tryz.laysM171 n h0 h1 w htab
def Tryz.laysC172_ren:Go.Shelf.Ren:=⟨fun | 172=>186 | 244=>204 | 245=>205 | 247=>222 | 279=>223 | 280=>224 | 281=>225 | 282=>226 | 287=>236 | 316=>237 | 171=>92 | 205=>238 | 321=>250 | 322=>251 | 243=>124 | 246=>155 | 283=>180 | 284=>181 | 285=>182 | 286=>183 | 129=>200 | 317=>199 | 318=>201 | 319=>202 | 320=>203 | 337=>220 | 338=>221 | n=>n,fun | 9=>9 | 3=>3 | 75=>206 | 76=>207 | 4=>4 | 5=>5 | 167=>247 | 37=>23 | 0=>0 | 85=>248 | 2=>2 | 168=>250 | 53=>200 | 175=>273 | 46=>162 | 210=>276 | 127=>253 | 145=>293 | 143=>291 | 21=>21 | 171=>199 | 173=>203 | 212=>220 | 51=>172 | 20=>20 | 213=>221 | 232=>271 | 233=>272 | 80=>228 | n=>n,fun | 15=>6 | 16=>7 | 17=>1 | 18=>4 | 19=>5 | n=>n⟩
theorem Tryz.laysC172:Go.Proofs.LaysC.n172 Tryz.prog Tryz.laysC172_ren:={
 mixed:=by kernel_rfl
 f129:=Tryz.func200.trans (congrArg some (by kernel_rfl))
 f171:=Tryz.func92.trans (congrArg some (by kernel_rfl))
 f172:=Tryz.func186.trans (congrArg some (by kernel_rfl))
 f205:=Tryz.func238.trans (congrArg some (by kernel_rfl))
 f243:=Tryz.func124.trans (congrArg some (by kernel_rfl))
 f244:=Tryz.func204.trans (congrArg some (by kernel_rfl))
 f245:=Tryz.func205.trans (congrArg some (by kernel_rfl))
 f246:=Tryz.func155.trans (congrArg some (by kernel_rfl))
 f247:=Tryz.func222.trans (congrArg some (by kernel_rfl))
 f279:=Tryz.func223.trans (congrArg some (by kernel_rfl))
 f280:=Tryz.func224.trans (congrArg some (by kernel_rfl))
 f281:=Tryz.func225.trans (congrArg some (by kernel_rfl))
 f282:=Tryz.func226.trans (congrArg some (by kernel_rfl))
 f283:=Tryz.func180.trans (congrArg some (by kernel_rfl))
 f284:=Tryz.func181.trans (congrArg some (by kernel_rfl))
 f285:=Tryz.func182.trans (congrArg some (by kernel_rfl))
 f286:=Tryz.func183.trans (congrArg some (by kernel_rfl))
 f287:=Tryz.func236.trans (congrArg some (by kernel_rfl))
 f316:=Tryz.func237.trans (congrArg some (by kernel_rfl))
 f317:=Tryz.func199.trans (congrArg some (by kernel_rfl))
 f318:=Tryz.func201.trans (congrArg some (by kernel_rfl))
 f319:=Tryz.func202.trans (congrArg some (by kernel_rfl))
 f320:=Tryz.func203.trans (congrArg some (by kernel_rfl))
 f321:=Tryz.func250.trans (congrArg some (by kernel_rfl))
 f322:=Tryz.func251.trans (congrArg some (by kernel_rfl))
 f337:=Tryz.func220.trans (congrArg some (by kernel_rfl))
 f338:=Tryz.func221.trans (congrArg some (by kernel_rfl))
 t0:=Tryz.underlying0
 a0:=Tryz.isAgg0
 z0:=Tryz.sizeOf0
 v0:=Tryz.zeroValue0
 t2:=Tryz.underlying2
 a2:=Tryz.isAgg2
 z2:=Tryz.sizeOf2
 v2:=Tryz.zeroValue2
 t3:=Tryz.underlying3
 a3:=Tryz.isAgg3
 z3:=Tryz.sizeOf3
 v3:=Tryz.zeroValue3
 t4:=Tryz.underlying4
 a4:=Tryz.isAgg4
 z4:=Tryz.sizeOf4
 v4:=Tryz.zeroValue4
 t5:=Tryz.underlying5
 a5:=Tryz.isAgg5
 z5:=Tryz.sizeOf5
 v5:=Tryz.zeroValue5
 t9:=Tryz.underlying9
 a9:=Tryz.isAgg9
 z9:=Tryz.sizeOf9
 v9:=Tryz.zeroValue9
 t20:=Tryz.underlying20
 a20:=Tryz.isAgg20
 z20:=Tryz.sizeOf20
 v20:=Tryz.zeroValue20
 t21:=Tryz.underlying21
 a21:=Tryz.isAgg21
 z21:=Tryz.sizeOf21
 v21:=Tryz.zeroValue21
 t37:=Tryz.underlying23
 a37:=Tryz.isAgg23
 z37:=Tryz.sizeOf23
 v37:=Tryz.zeroValue23
 t46:=Tryz.underlying162
 a46:=Tryz.isAgg162
 z46:=Tryz.sizeOf162
 v46:=Tryz.zeroValue162
 t51:=Tryz.underlying172
 a51:=Tryz.isAgg172
 z51:=Tryz.sizeOf172
 v51:=Tryz.zeroValue172
 t53:=Tryz.underlying200
 a53:=Tryz.isAgg200
 z53:=Tryz.sizeOf200
 v53:=Tryz.zeroValue200
 t75:=Tryz.underlying206
 a75:=Tryz.isAgg206
 z75:=Tryz.sizeOf206
 v75:=Tryz.zeroValue206
 t76:=Tryz.underlying207
 a76:=Tryz.isAgg207
 z76:=Tryz.sizeOf207
 v76:=Tryz.zeroValue207
 t85:=Tryz.underlying248
 a85:=Tryz.isAgg248
 z85:=Tryz.sizeOf248
 v85:=Tryz.zeroValue248
 t127:=Tryz.underlying253
 a127:=Tryz.isAgg253
 z127:=Tryz.sizeOf253
 v127:=Tryz.zeroValue253
 t143:=Tryz.underlying291
 a143:=Tryz.isAgg291
 z143:=Tryz.sizeOf291
 v143:=Tryz.zeroValue291
 t145:=Tryz.underlying293
 a145:=Tryz.isAgg293
 z145:=Tryz.sizeOf293
 v145:=Tryz.zeroValue293
 t167:=Tryz.underlying247
 a167:=Tryz.isAgg247
 z167:=Tryz.sizeOf247
 v167:=Tryz.zeroValue247
 t168:=Tryz.underlying250
 a168:=Tryz.isAgg250
 z168:=Tryz.sizeOf250
 v168:=Tryz.zeroValue250
 t171:=Tryz.underlying199
 a171:=Tryz.isAgg199
 z171:=Tryz.sizeOf199
 v171:=Tryz.zeroValue199
 t173:=Tryz.underlying203
 a173:=Tryz.isAgg203
 z173:=Tryz.sizeOf203
 v173:=Tryz.zeroValue203
 t175:=Tryz.underlying273
 a175:=Tryz.isAgg273
 z175:=Tryz.sizeOf273
 v175:=Tryz.zeroValue273
 t210:=Tryz.underlying276
 a210:=Tryz.isAgg276
 z210:=Tryz.sizeOf276
 v210:=Tryz.zeroValue276
 t212:=Tryz.underlying220
 a212:=Tryz.isAgg220
 z212:=Tryz.sizeOf220
 v212:=Tryz.zeroValue220
 t213:=Tryz.underlying221
 a213:=Tryz.isAgg221
 z213:=Tryz.sizeOf221
 t232:=Tryz.underlying271
 a232:=Tryz.isAgg271
 z232:=Tryz.sizeOf271
 v232:=Tryz.zeroValue271
 t233:=Tryz.underlying272
 a233:=Tryz.isAgg272
 z233:=Tryz.sizeOf272
 v233:=Tryz.zeroValue272
 g15:=by kernel_rfl
 g16:=by kernel_rfl
 g17:=by kernel_rfl
 g18:=by kernel_rfl
 g19:=by kernel_rfl
 t80:=Tryz.underlying228
 a80:=Tryz.isAgg228
 z80:=Tryz.sizeOf228
 v80:=Tryz.zeroValue228
 i0:=by kernel_rfl
 i2:=by kernel_rfl
 i3:=by kernel_rfl
 i4:=by kernel_rfl
 i5:=by kernel_rfl
 i9:=by kernel_rfl
 i20:=by kernel_rfl
 i21:=by kernel_rfl
 i37:=by kernel_rfl
 i46:=by kernel_rfl
 i51:=by kernel_rfl
 i53:=by kernel_rfl
 i75:=by kernel_rfl
 i76:=by kernel_rfl
 i80:=by kernel_rfl
 i85:=by kernel_rfl
 i127:=by kernel_rfl
 i143:=by kernel_rfl
 i145:=by kernel_rfl
 i167:=by kernel_rfl
 i168:=by kernel_rfl
 i171:=by kernel_rfl
 i173:=by kernel_rfl
 i175:=by kernel_rfl
 i210:=by kernel_rfl
 i212:=by kernel_rfl
 i232:=by kernel_rfl
 i233:=by kernel_rfl
 m15:=by kernel_rfl
 m16:=by kernel_rfl
 m17:=by kernel_rfl
 m18:=by kernel_rfl
 m19:=by kernel_rfl
 c0:=by kernel_rfl
 c2:=by kernel_rfl
 c3:=by kernel_rfl
 c4:=by kernel_rfl
 c5:=by kernel_rfl
 c9:=by kernel_rfl
 c20:=by kernel_rfl
 c21:=by kernel_rfl
 c37:=by kernel_rfl
 c46:=by kernel_rfl
 c51:=by kernel_rfl
 c53:=by kernel_rfl
 c75:=by kernel_rfl
 c76:=by kernel_rfl
 c80:=by kernel_rfl
 c85:=by kernel_rfl
 c127:=by kernel_rfl
 c143:=by kernel_rfl
 c145:=by kernel_rfl
 c167:=by kernel_rfl
 c168:=by kernel_rfl
 c171:=by kernel_rfl
 c173:=by kernel_rfl
 c175:=by kernel_rfl
 c210:=by kernel_rfl
 c212:=by kernel_rfl
 c213:=by kernel_rfl
 c232:=by kernel_rfl
 c233:=by kernel_rfl}
open Go.RowKit in
theorem Tryz.strconv_Atoi_err_var (s : ByteArray) (hl : s.size <= 18) (h : Lib.atoi s.data.toList = none) (tp : TypeId) (p : Value) (w : World) (hvar : w.var? Tryz.prog "strconv.ErrSyntax" = some #[.iface tp p]) :
 Calls Tryz.prog 186 #[.string s] w fun e w' =>∃N,e=.returned (.tuple #[.int .i64 0,.iface 250 (.pointer (some ⟨N,0,none⟩))])/\w.heap.size<=N/\w'.heap[N]? =some (.cells #[.string ⟨#[65,116,111,105]⟩,.string s,.iface tp p] 276 (0,0))/\Below w.heap.size w w' :=Any.strconv_Atoi_err_var Tryz.laysC172 s hl h tp p w hvar
def Tryz.lays144_ren:Go.Shelf.Ren:=⟨fun | 144=>145 | 143=>165 | 219=>161 | 217=>141 | 225=>190 | 224=>148 | 267=>191 | 266=>162 | 314=>211 | n=>n,fun | 9=>9 | 4=>4 | 3=>3 | 5=>5 | 46=>162 | 146=>173 | 51=>172 | n=>n,fun | 1=>0 | n=>n⟩
theorem Tryz.lays144:Go.Proofs.Lays.n144 Tryz.prog Tryz.lays144_ren:={
 mixed:=by kernel_rfl
 f143:=Tryz.func165.trans (congrArg some (by kernel_rfl))
 f144:=Tryz.func145.trans (congrArg some (by kernel_rfl))
 f217:=Tryz.func141.trans (congrArg some (by kernel_rfl))
 f219:=Tryz.func161.trans (congrArg some (by kernel_rfl))
 f224:=Tryz.func148.trans (congrArg some (by kernel_rfl))
 f225:=Tryz.func190.trans (congrArg some (by kernel_rfl))
 f266:=Tryz.func162.trans (congrArg some (by kernel_rfl))
 f267:=Tryz.func191.trans (congrArg some (by kernel_rfl))
 f314:=Tryz.func211.trans (congrArg some (by kernel_rfl))
 t3:=Tryz.underlying3
 a3:=Tryz.isAgg3
 z3:=Tryz.sizeOf3
 v3:=Tryz.zeroValue3
 t4:=Tryz.underlying4
 a4:=Tryz.isAgg4
 z4:=Tryz.sizeOf4
 v4:=Tryz.zeroValue4
 t5:=Tryz.underlying5
 a5:=Tryz.isAgg5
 z5:=Tryz.sizeOf5
 v5:=Tryz.zeroValue5
 t9:=Tryz.underlying9
 a9:=Tryz.isAgg9
 z9:=Tryz.sizeOf9
 v9:=Tryz.zeroValue9
 t46:=Tryz.underlying162
 a46:=Tryz.isAgg162
 z46:=Tryz.sizeOf162
 v46:=Tryz.zeroValue162
 t51:=Tryz.underlying172
 a51:=Tryz.isAgg172
 z51:=Tryz.sizeOf172
 v51:=Tryz.zeroValue172
 t146:=Tryz.underlying173
 a146:=Tryz.isAgg173
 z146:=Tryz.sizeOf173
 v146:=Tryz.zeroValue173
 g1:=by kernel_rfl}
open Go.RowKit Go.Lib in
theorem Tryz.strings_Contains(s sub:ByteArray)(m:Int)(w:World)(hs:s.size < 4294967281)(hm:w.cell? ⟨0,0,none⟩=some (.int .i64 m)):
 Calls Tryz.prog 145 #[.string s,.string sub] w fun e w' =>e=.returned (.bool (Lib.contains s.data.toList sub.data.toList))/\w' =w:=Any.strings_Contains Tryz.lays144 s sub m w hs hm
def Tryz.lays145_ren:Go.Shelf.Ren:=⟨fun | 145=>116 | 220=>140 | 219=>161 | 217=>141 | 225=>190 | 224=>148 | 267=>191 | 266=>162 | 314=>211 | n=>n,fun | 9=>9 | 4=>4 | 59=>111 | 3=>3 | 5=>5 | 46=>162 | 146=>173 | 51=>172 | n=>n,fun | 1=>0 | n=>n⟩
theorem Tryz.lays145:Go.Proofs.Lays.n145 Tryz.prog Tryz.lays145_ren:={
 mixed:=by kernel_rfl
 f145:=Tryz.func116.trans (congrArg some (by kernel_rfl))
 f217:=Tryz.func141.trans (congrArg some (by kernel_rfl))
 f219:=Tryz.func161.trans (congrArg some (by kernel_rfl))
 f220:=Tryz.func140.trans (congrArg some (by kernel_rfl))
 f224:=Tryz.func148.trans (congrArg some (by kernel_rfl))
 f225:=Tryz.func190.trans (congrArg some (by kernel_rfl))
 f266:=Tryz.func162.trans (congrArg some (by kernel_rfl))
 f267:=Tryz.func191.trans (congrArg some (by kernel_rfl))
 f314:=Tryz.func211.trans (congrArg some (by kernel_rfl))
 t3:=Tryz.underlying3
 a3:=Tryz.isAgg3
 z3:=Tryz.sizeOf3
 v3:=Tryz.zeroValue3
 t4:=Tryz.underlying4
 a4:=Tryz.isAgg4
 z4:=Tryz.sizeOf4
 v4:=Tryz.zeroValue4
 t5:=Tryz.underlying5
 a5:=Tryz.isAgg5
 z5:=Tryz.sizeOf5
 v5:=Tryz.zeroValue5
 t9:=Tryz.underlying9
 a9:=Tryz.isAgg9
 z9:=Tryz.sizeOf9
 v9:=Tryz.zeroValue9
 t46:=Tryz.underlying162
 a46:=Tryz.isAgg162
 z46:=Tryz.sizeOf162
 v46:=Tryz.zeroValue162
 t51:=Tryz.underlying172
 a51:=Tryz.isAgg172
 z51:=Tryz.sizeOf172
 v51:=Tryz.zeroValue172
 t59:=Tryz.underlying111
 a59:=Tryz.isAgg111
 z59:=Tryz.sizeOf111
 v59:=Tryz.zeroValue111
 t146:=Tryz.underlying173
 a146:=Tryz.isAgg173
 z146:=Tryz.sizeOf173
 v146:=Tryz.zeroValue173
 g1:=by kernel_rfl}
open Go.RowKit Go.Lib in
theorem Tryz.strings_Cut(s sep:ByteArray)(m:Int)(w:World)(hs:s.size < 4294967281)(hm:w.cell? ⟨0,0,none⟩=some (.int .i64 m)):
 Calls Tryz.prog 116 #[.string s,.string sep] w fun e w' =>e=.returned (.tuple #[.string ⟨(Lib.cut s.data.toList sep.data.toList).1.toArray⟩,.string ⟨(Lib.cut s.data.toList sep.data.toList).2.1.toArray⟩,.bool (Lib.cut s.data.toList sep.data.toList).2.2])/\∃n,w' =w.drewN n:=Any.strings_Cut Tryz.lays145 s sep m w hs hm
def Tryz.lays99_ren:Go.Shelf.Ren:=⟨fun | 99=>143 | 206=>163 | n=>n,fun | 9=>9 | 4=>4 | 3=>3 | n=>n,fun | n=>n⟩
theorem Tryz.lays99:Go.Proofs.Lays.n99 Tryz.prog Tryz.lays99_ren:={
 mixed:=by kernel_rfl
 f99:=Tryz.func143.trans (congrArg some (by kernel_rfl))
 f206:=Tryz.func163.trans (congrArg some (by kernel_rfl))
 t3:=Tryz.underlying3
 a3:=Tryz.isAgg3
 z3:=Tryz.sizeOf3
 v3:=Tryz.zeroValue3
 t4:=Tryz.underlying4
 a4:=Tryz.isAgg4
 z4:=Tryz.sizeOf4
 v4:=Tryz.zeroValue4
 t9:=Tryz.underlying9
 a9:=Tryz.isAgg9
 z9:=Tryz.sizeOf9
 v9:=Tryz.zeroValue9}
open Go.RowKit Go.Lib in
theorem Tryz.strings_HasPrefix(s p:ByteArray)(w:World):
 Calls Tryz.prog 143 #[.string s,.string p] w fun e w' =>e=.returned (.bool (Lib.hasPrefix s.data.toList p.data.toList))/\w' =w:=Any.strings_HasPrefix Tryz.lays99 s p w
def Tryz.lays100_ren:Go.Shelf.Ren:=⟨fun | 100=>144 | 207=>164 | n=>n,fun | 9=>9 | 4=>4 | 3=>3 | n=>n,fun | n=>n⟩
theorem Tryz.lays100:Go.Proofs.Lays.n100 Tryz.prog Tryz.lays100_ren:={
 mixed:=by kernel_rfl
 f100:=Tryz.func144.trans (congrArg some (by kernel_rfl))
 f207:=Tryz.func164.trans (congrArg some (by kernel_rfl))
 t3:=Tryz.underlying3
 a3:=Tryz.isAgg3
 z3:=Tryz.sizeOf3
 v3:=Tryz.zeroValue3
 t4:=Tryz.underlying4
 a4:=Tryz.isAgg4
 z4:=Tryz.sizeOf4
 v4:=Tryz.zeroValue4
 t9:=Tryz.underlying9
 a9:=Tryz.isAgg9
 z9:=Tryz.sizeOf9
 v9:=Tryz.zeroValue9}
open Go.RowKit Go.Lib in
theorem Tryz.strings_HasSuffix(s p:ByteArray)(w:World)(hs:s.size<=9223372036854775807):
 Calls Tryz.prog 144 #[.string s,.string p] w fun e w' =>e=.returned (.bool (Lib.hasSuffix s.data.toList p.data.toList))/\w' =w:=Any.strings_HasSuffix Tryz.lays100 s p w hs
def Tryz.lays226_ren:Go.Shelf.Ren:=⟨fun | 226=>210 | n=>n,fun | 3=>3 | 4=>4 | n=>n,fun | n=>n⟩
theorem Tryz.lays226:Go.Proofs.Lays.n226 Tryz.prog Tryz.lays226_ren:={
 mixed:=by kernel_rfl
 f226:=Tryz.func210.trans (congrArg some (by kernel_rfl))
 t3:=Tryz.underlying3
 a3:=Tryz.isAgg3
 z3:=Tryz.sizeOf3
 v3:=Tryz.zeroValue3
 t4:=Tryz.underlying4
 a4:=Tryz.isAgg4
 z4:=Tryz.sizeOf4
 v4:=Tryz.zeroValue4}
open Go.RowKit Go.Lib in
theorem Tryz.strings_shouldUseASCIISet(n:Int)(w:World):
 Calls Tryz.prog 210 #[.int .i64 n] w fun e w' =>e=.returned (.bool (decide (8 < n)))/\w' =w:=Any.strings_shouldUseASCIISet Tryz.lays226 n w
def Tryz.lays153_ren:Go.Shelf.Ren:=⟨fun | 153=>189 | 152=>209 | 226=>210 | 227=>173 | 228=>192 | 137=>118 | 119=>229 | 224=>148 | 225=>190 | 217=>141 | 266=>162 | n=>n,fun | 9=>9 | 3=>3 | 4=>4 | 5=>5 | 21=>21 | 117=>194 | 116=>193 | 0=>0 | 46=>162 | 124=>197 | n=>n,fun | n=>n⟩
theorem Tryz.lays153:Go.Proofs.Lays.n153 Tryz.prog Tryz.lays153_ren:={
 mixed:=by kernel_rfl
 f119:=Tryz.func229.trans (congrArg some (by kernel_rfl))
 f137:=Tryz.func118.trans (congrArg some (by kernel_rfl))
 f152:=Tryz.func209.trans (congrArg some (by kernel_rfl))
 f153:=Tryz.func189.trans (congrArg some (by kernel_rfl))
 f217:=Tryz.func141.trans (congrArg some (by kernel_rfl))
 f224:=Tryz.func148.trans (congrArg some (by kernel_rfl))
 f225:=Tryz.func190.trans (congrArg some (by kernel_rfl))
 f226:=Tryz.func210.trans (congrArg some (by kernel_rfl))
 f227:=Tryz.func173.trans (congrArg some (by kernel_rfl))
 f228:=Tryz.func192.trans (congrArg some (by kernel_rfl))
 f266:=Tryz.func162.trans (congrArg some (by kernel_rfl))
 t0:=Tryz.underlying0
 a0:=Tryz.isAgg0
 z0:=Tryz.sizeOf0
 v0:=Tryz.zeroValue0
 t3:=Tryz.underlying3
 a3:=Tryz.isAgg3
 z3:=Tryz.sizeOf3
 v3:=Tryz.zeroValue3
 t4:=Tryz.underlying4
 a4:=Tryz.isAgg4
 z4:=Tryz.sizeOf4
 v4:=Tryz.zeroValue4
 t5:=Tryz.underlying5
 a5:=Tryz.isAgg5
 z5:=Tryz.sizeOf5
 v5:=Tryz.zeroValue5
 t9:=Tryz.underlying9
 a9:=Tryz.isAgg9
 z9:=Tryz.sizeOf9
 v9:=Tryz.zeroValue9
 t21:=Tryz.underlying21
 a21:=Tryz.isAgg21
 z21:=Tryz.sizeOf21
 v21:=Tryz.zeroValue21
 t46:=Tryz.underlying162
 a46:=Tryz.isAgg162
 z46:=Tryz.sizeOf162
 v46:=Tryz.zeroValue162
 t116:=Tryz.underlying193
 a116:=Tryz.isAgg193
 z116:=Tryz.sizeOf193
 t117:=Tryz.underlying194
 a117:=Tryz.isAgg194
 z117:=Tryz.sizeOf194
 v117:=Tryz.zeroValue194
 t124:=Tryz.underlying197
 a124:=Tryz.isAgg197
 z124:=Tryz.sizeOf197
 v124:=Tryz.zeroValue197}
open Go.RowKit Go.Lib in
theorem Tryz.strings_IndexAny_long(hv116:∀w,(zeroValue 193).run Tryz.prog w=.ok (.agg (Array.replicate 256 (.bool false))) w)(s chars:ByteArray)(w:World)(h2:2<=chars.size)(h8:8 < s.size)(hs:s.size < 4294967281)(hcs:chars.size < 4294967281)(hascii:∀(j:Nat) b,chars.data.toList[j]? =some b->b.toNat < 128):
 Calls Tryz.prog 189 #[.string s,.string chars] w fun e w' =>e=.returned (.int .i64 (Lib.indexAny s.data.toList chars.data.toList))/\w' =((w.alloc (.cells (Lib.setCells chars.data.toList) 193)).alloc (.cells (Lib.setCells chars.data.toList) 193)):=Any.strings_IndexAny_long Tryz.lays153 hv116 (by kernel_rfl) s chars w h2 h8 hs hcs hascii
open Go.RowKit Go.Lib in
theorem Tryz.strings_IndexAny(hv116:∀w,(zeroValue 193).run Tryz.prog w=.ok (.agg (Array.replicate 256 (.bool false))) w)(s chars:ByteArray)(w:World)(hs:s.size < 4294967281)(hcs:chars.size < 4294967281)(has:∀(j:Nat) b,s.data.toList[j]? =some b->b.toNat < 128)(hac:∀(j:Nat) b,chars.data.toList[j]? =some b->b.toNat < 128):
 Calls Tryz.prog 189 #[.string s,.string chars] w fun e w' =>e=.returned (.int .i64 (Lib.indexAny s.data.toList chars.data.toList))/\Below w.heap.size w w' :=Any.strings_IndexAny Tryz.lays153 hv116 (by kernel_rfl) s chars w hs hcs has hac
def Tryz.lays150_ren:Go.Shelf.Ren:=⟨fun | 150=>160 | 153=>189 | 152=>209 | 226=>210 | 227=>173 | 228=>192 | 137=>118 | 119=>229 | 224=>148 | 225=>190 | 217=>141 | 266=>162 | n=>n,fun | 9=>9 | 4=>4 | 3=>3 | 5=>5 | 21=>21 | 117=>194 | 116=>193 | 0=>0 | 46=>162 | 124=>197 | n=>n,fun | n=>n⟩
theorem Tryz.lays150:Go.Proofs.Lays.n150 Tryz.prog Tryz.lays150_ren:={
 mixed:=by kernel_rfl
 f119:=Tryz.func229.trans (congrArg some (by kernel_rfl))
 f137:=Tryz.func118.trans (congrArg some (by kernel_rfl))
 f150:=Tryz.func160.trans (congrArg some (by kernel_rfl))
 f152:=Tryz.func209.trans (congrArg some (by kernel_rfl))
 f153:=Tryz.func189.trans (congrArg some (by kernel_rfl))
 f217:=Tryz.func141.trans (congrArg some (by kernel_rfl))
 f224:=Tryz.func148.trans (congrArg some (by kernel_rfl))
 f225:=Tryz.func190.trans (congrArg some (by kernel_rfl))
 f226:=Tryz.func210.trans (congrArg some (by kernel_rfl))
 f227:=Tryz.func173.trans (congrArg some (by kernel_rfl))
 f228:=Tryz.func192.trans (congrArg some (by kernel_rfl))
 f266:=Tryz.func162.trans (congrArg some (by kernel_rfl))
 t0:=Tryz.underlying0
 a0:=Tryz.isAgg0
 z0:=Tryz.sizeOf0
 v0:=Tryz.zeroValue0
 t3:=Tryz.underlying3
 a3:=Tryz.isAgg3
 z3:=Tryz.sizeOf3
 v3:=Tryz.zeroValue3
 t4:=Tryz.underlying4
 a4:=Tryz.isAgg4
 z4:=Tryz.sizeOf4
 v4:=Tryz.zeroValue4
 t5:=Tryz.underlying5
 a5:=Tryz.isAgg5
 z5:=Tryz.sizeOf5
 v5:=Tryz.zeroValue5
 t9:=Tryz.underlying9
 a9:=Tryz.isAgg9
 z9:=Tryz.sizeOf9
 v9:=Tryz.zeroValue9
 t21:=Tryz.underlying21
 a21:=Tryz.isAgg21
 z21:=Tryz.sizeOf21
 v21:=Tryz.zeroValue21
 t46:=Tryz.underlying162
 a46:=Tryz.isAgg162
 z46:=Tryz.sizeOf162
 v46:=Tryz.zeroValue162
 t116:=Tryz.underlying193
 a116:=Tryz.isAgg193
 z116:=Tryz.sizeOf193
 t117:=Tryz.underlying194
 a117:=Tryz.isAgg194
 z117:=Tryz.sizeOf194
 v117:=Tryz.zeroValue194
 t124:=Tryz.underlying197
 a124:=Tryz.isAgg197
 z124:=Tryz.sizeOf197
 v124:=Tryz.zeroValue197}
open Go.RowKit Go.Lib in
theorem Tryz.strings_ContainsAny(hv116:∀w,(zeroValue 193).run Tryz.prog w=.ok (.agg (Array.replicate 256 (.bool false))) w)(s chars:ByteArray)(w:World)(hs:s.size < 4294967281)(hcs:chars.size < 4294967281)(has:∀(j:Nat) b,s.data.toList[j]? =some b->b.toNat < 128)(hac:∀(j:Nat) b,chars.data.toList[j]? =some b->b.toNat < 128):
 Calls Tryz.prog 160 #[.string s,.string chars] w fun e w' =>e=.returned (.bool (Lib.containsAny s.data.toList chars.data.toList))/\Below w.heap.size w w' :=Any.strings_ContainsAny Tryz.lays150 hv116 (by kernel_rfl) s chars w hs hcs has hac
def Tryz.lays229_ren:Go.Shelf.Ren:=⟨fun | 229=>95 | n=>n,fun | 9=>9 | 40=>120 | 31=>26 | 152=>142 | 3=>3 | 0=>0 | 4=>4 | 21=>21 | 154=>144 | n=>n,fun | n=>n⟩
theorem Tryz.lays229:Go.Proofs.Lays.n229 Tryz.prog Tryz.lays229_ren:={
 mixed:=by kernel_rfl
 f229:=Tryz.func95.trans (congrArg some (by kernel_rfl))
 t0:=Tryz.underlying0
 a0:=Tryz.isAgg0
 z0:=Tryz.sizeOf0
 v0:=Tryz.zeroValue0
 t3:=Tryz.underlying3
 a3:=Tryz.isAgg3
 z3:=Tryz.sizeOf3
 v3:=Tryz.zeroValue3
 t4:=Tryz.underlying4
 a4:=Tryz.isAgg4
 z4:=Tryz.sizeOf4
 v4:=Tryz.zeroValue4
 t9:=Tryz.underlying9
 a9:=Tryz.isAgg9
 z9:=Tryz.sizeOf9
 v9:=Tryz.zeroValue9
 t21:=Tryz.underlying21
 a21:=Tryz.isAgg21
 z21:=Tryz.sizeOf21
 v21:=Tryz.zeroValue21
 t31:=Tryz.underlying26
 a31:=Tryz.isAgg26
 z31:=Tryz.sizeOf26
 v31:=Tryz.zeroValue26
 t40:=Tryz.underlying120
 a40:=Tryz.isAgg120
 z40:=Tryz.sizeOf120
 v40:=Tryz.zeroValue120
 t152:=Tryz.underlying142
 a152:=Tryz.isAgg142
 z152:=Tryz.sizeOf142
 v152:=Tryz.zeroValue142
 t154:=Tryz.underlying144
 a154:=Tryz.isAgg144
 z154:=Tryz.sizeOf144
 v154:=Tryz.zeroValue144}
open Go.RowKit Go.Lib in
theorem Tryz.strings_FieldsFunc(g:Nat)(lb:Array Value)(eg:∀args w,(callFunc g args).run Tryz.prog w=.ok (.enter g args) w)(p:Nat->Bool)(s:ByteArray)(w:World)(hs:s.size<=4294967296)(hp:PredAt Tryz.prog g lb encR p w):
 Calls Tryz.prog 95 #[.string s,.func (.func g) #[] lb] w fun e w' =>∃A,e=.returned (.slice (some ⟨A,0,none⟩) (Lib.goFieldsP p s).length (Lib.goFieldsP p s).length)/\w.heap.size<=A/\
  w'.ownsRow w.heap.size 9 1 (.slice (some ⟨A,0,none⟩) (Lib.goFieldsP p s).length (Lib.goFieldsP p s).length) (Lib.goFieldsP p s).length ((Lib.goFieldsP p s).map Value.string)/\Below w.heap.size w w' :=Any.strings_FieldsFunc Tryz.lays229 g lb eg p s w hs hp (by kernel_rfl) (by kernel_rfl)
def Tryz.lays185_ren:Go.Shelf.Ren:=⟨fun | 185=>121 | 187=>146 | 115=>125 | 253=>147 | 224=>148 | 254=>149 | 255=>166 | 291=>167 | n=>n,fun | 37=>23 | 3=>3 | 4=>4 | 0=>0 | 5=>5 | 46=>162 | 9=>9 | 146=>173 | 51=>172 | n=>n,fun | 1=>0 | n=>n⟩
theorem Tryz.lays185:Go.Proofs.Lays.n185 Tryz.prog Tryz.lays185_ren:={
 mixed:=by kernel_rfl
 f115:=Tryz.func125.trans (congrArg some (by kernel_rfl))
 f185:=Tryz.func121.trans (congrArg some (by kernel_rfl))
 f187:=Tryz.func146.trans (congrArg some (by kernel_rfl))
 f224:=Tryz.func148.trans (congrArg some (by kernel_rfl))
 f253:=Tryz.func147.trans (congrArg some (by kernel_rfl))
 f254:=Tryz.func149.trans (congrArg some (by kernel_rfl))
 f255:=Tryz.func166.trans (congrArg some (by kernel_rfl))
 f291:=Tryz.func167.trans (congrArg some (by kernel_rfl))
 t0:=Tryz.underlying0
 a0:=Tryz.isAgg0
 z0:=Tryz.sizeOf0
 v0:=Tryz.zeroValue0
 t3:=Tryz.underlying3
 a3:=Tryz.isAgg3
 z3:=Tryz.sizeOf3
 v3:=Tryz.zeroValue3
 t4:=Tryz.underlying4
 a4:=Tryz.isAgg4
 z4:=Tryz.sizeOf4
 v4:=Tryz.zeroValue4
 t5:=Tryz.underlying5
 a5:=Tryz.isAgg5
 z5:=Tryz.sizeOf5
 v5:=Tryz.zeroValue5
 t9:=Tryz.underlying9
 a9:=Tryz.isAgg9
 z9:=Tryz.sizeOf9
 v9:=Tryz.zeroValue9
 t37:=Tryz.underlying23
 a37:=Tryz.isAgg23
 z37:=Tryz.sizeOf23
 v37:=Tryz.zeroValue23
 t46:=Tryz.underlying162
 a46:=Tryz.isAgg162
 z46:=Tryz.sizeOf162
 v46:=Tryz.zeroValue162
 t51:=Tryz.underlying172
 a51:=Tryz.isAgg172
 z51:=Tryz.sizeOf172
 v51:=Tryz.zeroValue172
 t146:=Tryz.underlying173
 a146:=Tryz.isAgg173
 z146:=Tryz.sizeOf173
 v146:=Tryz.zeroValue173
 g1:=by kernel_rfl}
open Go.RowKit Go.Lib in
theorem Tryz.bytes_Index_longer(p q:Option Addr)(n c m d:Nat)(w:World)(h2:2<=m)(hnm:n < m)(hm:m<=9223372036854775807):
 Calls Tryz.prog 121 #[.slice p n c,.slice q m d] w fun e w' =>e=.returned (.int .i64 (-1))/\w' =w:=Any.bytes_Index_longer Tryz.lays185 p q n c m d w h2 hnm hm
def Tryz.lays187_ren:Go.Shelf.Ren:=⟨fun | 187=>146 | 255=>166 | n=>n,fun | 37=>23 | 5=>5 | 3=>3 | n=>n,fun | n=>n⟩
theorem Tryz.lays187:Go.Proofs.Lays.n187 Tryz.prog Tryz.lays187_ren:={
 mixed:=by kernel_rfl
 f187:=Tryz.func146.trans (congrArg some (by kernel_rfl))
 f255:=Tryz.func166.trans (congrArg some (by kernel_rfl))
 t3:=Tryz.underlying3
 a3:=Tryz.isAgg3
 z3:=Tryz.sizeOf3
 v3:=Tryz.zeroValue3
 t5:=Tryz.underlying5
 a5:=Tryz.isAgg5
 z5:=Tryz.sizeOf5
 v5:=Tryz.zeroValue5
 t37:=Tryz.underlying23
 a37:=Tryz.isAgg23
 z37:=Tryz.sizeOf23
 v37:=Tryz.zeroValue23}
open Go.RowKit Go.Lib in
theorem Tryz.bytes_IndexByte_at(a:Addr)(n c:Nat)(xs:List Int)(cv:Int)(w:World)(hx:xs.length=n)(hc:∀i,i < n->w.cell? (a.add i)=some (.int .u8 (xs.getD i 0))):
 Calls Tryz.prog 146 #[.slice (some a) n c,.int .u8 cv] w fun e w' =>e=.returned (.int .i64 (Lib.indexByte (Lib.bytesOf xs) cv.toNat.toUInt8))/\w' =w:=Any.bytes_IndexByte_at Tryz.lays187 a n c xs cv w hx hc
def Tryz.lays115_ren:Go.Shelf.Ren:=⟨fun | 115=>125 | n=>n,fun | 37=>23 | 4=>4 | 9=>9 | 5=>5 | n=>n,fun | n=>n⟩
theorem Tryz.lays115:Go.Proofs.Lays.n115 Tryz.prog Tryz.lays115_ren:={
 mixed:=by kernel_rfl
 f115:=Tryz.func125.trans (congrArg some (by kernel_rfl))
 t4:=Tryz.underlying4
 a4:=Tryz.isAgg4
 z4:=Tryz.sizeOf4
 v4:=Tryz.zeroValue4
 t9:=Tryz.underlying9
 a9:=Tryz.isAgg9
 z9:=Tryz.sizeOf9
 v9:=Tryz.zeroValue9
 t37:=Tryz.underlying23
 a37:=Tryz.isAgg23
 z37:=Tryz.sizeOf23
 v37:=Tryz.zeroValue23}
open Go.Proofs Go.RowKit Go.Lib in
theorem Tryz.bytes_Index_at(a1 a2:Addr)(n c1 k c2:Nat)(xs ys:List Int)(m:Int)(w:World)(hx:xs.length=n)(hy:ys.length=k)(hr1:∀x∈xs,0<=x/\x < 256)(hr2:∀y∈ys,0<=y/\y < 256)(hc1:∀i,i < n->w.cell? (a1.add i)=some (.int .u8 (xs.getD i 0)))(hc2:∀i,i < k->w.cell? (a2.add i)=some (.int .u8 (ys.getD i 0)))(hcap:n<=c1)(hs:n < 4294967281)(hk:k<=9223372036854775807)(hm:w.cell? ⟨0,0,none⟩=some (.int .i64 m)):
 Calls Tryz.prog 121 #[.slice (some a1) n c1,.slice (some a2) k c2] w fun e w' =>e=.returned (.int .i64 (Lib.index (Lib.bytesOf xs) (Lib.bytesOf ys)))/\∃q,w' =w.drewN q:=Any.bytes_Index_at Tryz.lays185 a1 a2 n c1 k c2 xs ys m w hx hy hr1 hr2 hc1 hc2 hcap hs hk hm
def Tryz.laysnb117_ren:Go.Shelf.Ren:=⟨fun | 117=>94 | 115=>125 | n=>n,fun | 37=>23 | 4=>4 | 3=>3 | 9=>9 | 5=>5 | n=>n,fun | n=>n⟩
theorem Tryz.laysnb117:Go.Proofs.Lays.nb117 Tryz.prog Tryz.laysnb117_ren:={
 mixed:=by kernel_rfl
 f115:=Tryz.func125.trans (congrArg some (by kernel_rfl))
 f117:=Tryz.func94.trans (congrArg some (by kernel_rfl))
 t3:=Tryz.underlying3
 a3:=Tryz.isAgg3
 z3:=Tryz.sizeOf3
 v3:=Tryz.zeroValue3
 t4:=Tryz.underlying4
 a4:=Tryz.isAgg4
 z4:=Tryz.sizeOf4
 v4:=Tryz.zeroValue4
 t9:=Tryz.underlying9
 a9:=Tryz.isAgg9
 z9:=Tryz.sizeOf9
 v9:=Tryz.zeroValue9
 t37:=Tryz.underlying23
 a37:=Tryz.isAgg23
 z37:=Tryz.sizeOf23
 v37:=Tryz.zeroValue23
 t5:=Tryz.underlying5
 a5:=Tryz.isAgg5
 z5:=Tryz.sizeOf5
 v5:=Tryz.zeroValue5}
def Tryz.laysnb140_ren:Go.Shelf.Ren:=⟨fun | 140=>168 | 117=>94 | 115=>125 | n=>n,fun | 37=>23 | 4=>4 | 3=>3 | 9=>9 | 5=>5 | n=>n,fun | n=>n⟩
theorem Tryz.laysnb140:Go.Proofs.Lays.nb140 Tryz.prog Tryz.laysnb140_ren:={
 mixed:=by kernel_rfl
 f115:=Tryz.func125.trans (congrArg some (by kernel_rfl))
 f117:=Tryz.func94.trans (congrArg some (by kernel_rfl))
 f140:=Tryz.func168.trans (congrArg some (by kernel_rfl))
 t3:=Tryz.underlying3
 a3:=Tryz.isAgg3
 z3:=Tryz.sizeOf3
 v3:=Tryz.zeroValue3
 t4:=Tryz.underlying4
 a4:=Tryz.isAgg4
 z4:=Tryz.sizeOf4
 v4:=Tryz.zeroValue4
 t9:=Tryz.underlying9
 a9:=Tryz.isAgg9
 z9:=Tryz.sizeOf9
 v9:=Tryz.zeroValue9
 t37:=Tryz.underlying23
 a37:=Tryz.isAgg23
 z37:=Tryz.sizeOf23
 v37:=Tryz.zeroValue23
 t5:=Tryz.underlying5
 a5:=Tryz.isAgg5
 z5:=Tryz.sizeOf5
 v5:=Tryz.zeroValue5}
def Tryz.laysnb142_ren:Go.Shelf.Ren:=⟨fun | 142=>65 | 117=>94 | 115=>125 | n=>n,fun | 37=>23 | 4=>4 | 3=>3 | 9=>9 | 5=>5 | n=>n,fun | n=>n⟩
theorem Tryz.laysnb142:Go.Proofs.Lays.nb142 Tryz.prog Tryz.laysnb142_ren:={
 mixed:=by kernel_rfl
 f115:=Tryz.func125.trans (congrArg some (by kernel_rfl))
 f117:=Tryz.func94.trans (congrArg some (by kernel_rfl))
 f142:=Tryz.func65.trans (congrArg some (by kernel_rfl))
 t3:=Tryz.underlying3
 a3:=Tryz.isAgg3
 z3:=Tryz.sizeOf3
 v3:=Tryz.zeroValue3
 t4:=Tryz.underlying4
 a4:=Tryz.isAgg4
 z4:=Tryz.sizeOf4
 v4:=Tryz.zeroValue4
 t9:=Tryz.underlying9
 a9:=Tryz.isAgg9
 z9:=Tryz.sizeOf9
 v9:=Tryz.zeroValue9
 t37:=Tryz.underlying23
 a37:=Tryz.isAgg23
 z37:=Tryz.sizeOf23
 v37:=Tryz.zeroValue23
 t5:=Tryz.underlying5
 a5:=Tryz.isAgg5
 z5:=Tryz.sizeOf5
 v5:=Tryz.zeroValue5}
theorem Tryz.bytes_Equal(v1 v2:Value)(xs ys:List Int)(w:World)(h1:(convert 23 9 v1).run Tryz.prog w=.ok (.string (strOfNums xs)) w)(h2:(convert 23 9 v2).run Tryz.prog w=.ok (.string (strOfNums ys)) w):
 Calls Tryz.prog 125 #[v1,v2] w fun e w' =>e=.returned (.bool (Lib.bytesOf xs==Lib.bytesOf ys))/\w' =w:=Any.bytes_Equal Tryz.lays115 v1 v2 xs ys w h1 h2
theorem Tryz.bytes_HasSuffix(b1 o1 n c b2 o2 m d:Nat)(xs ys:List Int)(w:World)(hx:xs.length=n)(hy:ys.length=m)(hnc:n<=c)(hbig:n<=9223372036854775807)(hc1:∀i,i < n->w.cell? ⟨b1,o1+i,none⟩=some (.int .u8 (xs.getD i 0)))(hc2:∀i,i < m->w.cell? ⟨b2,o2+i,none⟩=some (.int .u8 (ys.getD i 0))):
 Calls Tryz.prog 94 #[.slice (some ⟨b1,o1,none⟩) n c,.slice (some ⟨b2,o2,none⟩) m d] w fun e w' =>e=.returned (.bool (Lib.hasSuffix (Lib.bytesOf xs) (Lib.bytesOf ys)))/\w' =w:=Any.bytes_HasSuffix Tryz.laysnb117 b1 o1 n c b2 o2 m d xs ys w hx hy hnc hbig hc1 hc2
theorem Tryz.bytes_TrimSuffix(b1 o1 n c b2 o2 m d:Nat)(xs ys:List Int)(w:World)(hx:xs.length=n)(hy:ys.length=m)(hnc:n<=c)(hbig:n<=9223372036854775807)(hc1:∀i,i < n->w.cell? ⟨b1,o1+i,none⟩=some (.int .u8 (xs.getD i 0)))(hc2:∀i,i < m->w.cell? ⟨b2,o2+i,none⟩=some (.int .u8 (ys.getD i 0))):
 Calls Tryz.prog 168 #[.slice (some ⟨b1,o1,none⟩) n c,.slice (some ⟨b2,o2,none⟩) m d] w fun e w' =>e=.returned (Lib.bytesTrimSuffix b1 o1 n c xs ys)/\w' =w:=Any.bytes_TrimSuffix Tryz.laysnb140 b1 o1 n c b2 o2 m d xs ys w hx hy hnc hbig hc1 hc2
theorem Tryz.bytes_CutSuffix(b1 o1 n c b2 o2 m d:Nat)(xs ys:List Int)(w:World)(hx:xs.length=n)(hy:ys.length=m)(hnc:n<=c)(hbig:n<=9223372036854775807)(hc1:∀i,i < n->w.cell? ⟨b1,o1+i,none⟩=some (.int .u8 (xs.getD i 0)))(hc2:∀i,i < m->w.cell? ⟨b2,o2+i,none⟩=some (.int .u8 (ys.getD i 0))):
 Calls Tryz.prog 65 #[.slice (some ⟨b1,o1,none⟩) n c,.slice (some ⟨b2,o2,none⟩) m d] w fun e w' =>e=.returned (.tuple #[Lib.bytesTrimSuffix b1 o1 n c xs ys,.bool (Lib.hasSuffix (Lib.bytesOf xs) (Lib.bytesOf ys))])/\w' =w:=Any.bytes_CutSuffix Tryz.laysnb142 b1 o1 n c b2 o2 m d xs ys w hx hy hnc hbig hc1 hc2
theorem Tryz.bytes_IndexByte(b o n c:Nat)(xs:List Int)(cv:Int)(w:World)(hx:xs.length=n)(hc:∀i,i < n->w.cell? ⟨b,o+i,none⟩=some (.int .u8 (xs.getD i 0))):
 Calls Tryz.prog 146 #[.slice (some ⟨b,o,none⟩) n c,.int .u8 cv] w fun e w' =>e=.returned (.int .i64 (Lib.indexByte (Lib.bytesOf xs) cv.toNat.toUInt8))/\w' =w:=Any.bytes_IndexByte Tryz.lays187 b o n c xs cv w hx hc
theorem Tryz.bytes_IndexByte_nil(cv:Int)(w:World):
 Calls Tryz.prog 146 #[.slice none 0 0,.int .u8 cv] w fun e w' =>e=.returned (.int .i64 (-1))/\w' =w:=Any.bytes_IndexByte_nil Tryz.lays187 cv w
end Go.Proofs
namespace Go.Proofs.YtmmjihadplknjaaGreatDoor
open Go.RowKit
theorem kDb(g:G)(q:Nat):Old (fun _=>False) g ⟨g.w.drewN q,g.u,g.loc⟩:=
 ⟨rfl,rfl,rfl,⟨Nat.le_refl _,fun _ _=>Nat.le_refl _,fun _ _ _ _=>rfl,fun _ h=>h⟩,fun _ _ _=>⟨rfl,rfl⟩⟩
theorem Qda{g:G}{s:Str}{v:Value}(h:Rel g (.s s) v):v=.string (strB s):=z1a h
theorem q6a(s:Str)(c:UInt8)(r:Int)(hr:zRa s c=some r):Run Tryz.prog 118 [.s s,.u8 c] (.i r):=by
 unfold zRa at hr;cases hr;refine ⟨⟨_,_,⟨Tryz.func118,rfl,by kernel_rfl⟩⟩,fun g vs hw hg ha=>?_⟩;obtain ⟨hsz,hrel⟩:=ha;obtain ⟨l⟩:=vs
 match l,hsz with
 | [x,y],_=>
  obtain rfl:=Qda (hrel 0 _ rfl);have e2:y=.int .u8 (c.toNat:Int):=z1a (hrel 1 _ rfl);subst e2;refine callsIn_wide.2 ((Tryz.strings_IndexByte (strB s) (c.toNat:Int) g.w).mono ?_);rintro e w' ⟨rfl,rfl⟩;refine ⟨g,_,rfl,rfl,Old.refl _ g,hw,rfl,?_⟩;simp[strB];exact .pv (.b rfl)
theorem KAa(s t:Str)(r:Bool)(hr:kFa s t=some r):Run Tryz.prog 145 [.s s,.s t] (.bo r):=by
 unfold kFa at hr;split at hr
 case isFalse=>cases hr
 rename_i hlen;cases hr;refine ⟨⟨_,_,⟨Tryz.func145,rfl,by kernel_rfl⟩⟩,fun g vs hw hg ha=>?_⟩;obtain ⟨hsz,hrel⟩:=ha;obtain ⟨l⟩:=vs
 match l,hsz with
 | [x,y],_=>
  obtain rfl:=Qda (hrel 0 _ rfl);obtain rfl:=Qda (hrel 1 _ rfl);obtain ⟨_,_,m,hm⟩:=hg.1 (0,0) (by simp[wHb]);refine callsIn_wide.2 ((Tryz.strings_Contains (strB s) (strB t) m g.w (by rw[zBa];exact hlen) hm).mono ?_);rintro e w' ⟨rfl,rfl⟩;exact ⟨g,_,rfl,rfl,Old.refl _ g,hw,rfl,.pv (.b rfl)⟩
theorem Z1a(s t:Str)(r:Str × Str × Bool)(hr:qAa s t=some r):Run Tryz.prog 116 [.s s,.s t] (.tup [.s r.1,.s r.2.1,.bo r.2.2]):=by
 unfold qAa at hr;split at hr
 case isFalse=>cases hr
 rename_i hlen;cases hr;refine ⟨⟨_,_,⟨Tryz.func116,rfl,by kernel_rfl⟩⟩,fun g vs hw hg ha=>?_⟩;obtain ⟨hsz,hrel⟩:=ha;obtain ⟨l⟩:=vs
 match l,hsz with
 | [x,y],_=>
  obtain rfl:=Qda (hrel 0 _ rfl);obtain rfl:=Qda (hrel 1 _ rfl);obtain ⟨_,_,m,hm⟩:=hg.1 (0,0) (by simp[wHb]);refine callsIn_wide.2 ((Tryz.strings_Cut (strB s) (strB t) m g.w (by rw[zBa];exact hlen) hm).mono ?_);rintro e w' ⟨rfl,q,rfl⟩;refine ⟨⟨g.w.drewN q,g.u,g.loc⟩,_,rfl,rfl,kDb g q,hw,rfl,.tup rfl fun i c hi=>?_⟩
  match i,hi with
  | 0,rfl=>exact .pv (.b rfl)
  | 1,rfl=>exact .pv (.b rfl)
  | 2,rfl=>exact .pv (.b rfl)
theorem vVa(a0:Str)(a1:Str)(r:Bool)(hr:z3a a0 a1=some r):Run Tryz.prog 163 [.s a0,.s a1] (.bo r):=by
 unfold z3a at hr;refine rf (fn:=Tryz.f163) ⟨Tryz.func163,rfl,by kernel_rfl⟩ rfl (fun _=>rfl) fun g0 hg=>?_
 refine rn tk 5 rfl<|jb hr (fun j1=>[(4,.bo j1)]) (fun j1=>[]) (fun j1 hr=>?_) (fun j1 hr=>?_)
 .refine rn tk 7 rfl<|bs 10 hr rfl (fun c2 hr=>?_) (fun c2 hr=>?_)
  .refine rn tk 3 rfl ?_;obtain ⟨v3,h4,hr⟩:=zaa hr;refine ug rfl rfl rfl<|wscH tk h4 rfl rfl rfl rfl<|rn tk 5 rfl ?_;cases hr;exact jn _ rfl rfl rfl
  refine rn tk 9 rfl ?_;cases hr;exact jn _ rfl rfl rfl
 refine rn tk 1 rfl ?_;cases hr;exact kr tk (.inr rfl) rfl rfl
theorem Z2a(a0:Str)(a1:Str)(r:Bool)(hr:kva a0 a1=some r):Run Tryz.prog 143 [.s a0,.s a1] (.bo r):=by
 unfold kva at hr;refine rf (fn:=Tryz.f143) ⟨Tryz.func143,rfl,by kernel_rfl⟩ rfl (fun _=>rfl) fun g0 hg=>?_
 refine rn tk 9 rfl ?_;obtain ⟨v1,h2,hr⟩:=zaa hr;refine cl (vVa _ _ _ h2) rfl rfl<|rn tk 4 rfl ?_;cases hr;exact kr tk (.inr rfl) rfl rfl
theorem vWa(a0:Str)(a1:Str)(r:Bool)(hr:z4a a0 a1=some r):Run Tryz.prog 164 [.s a0,.s a1] (.bo r):=by
 unfold z4a at hr;refine rf (fn:=Tryz.f164) ⟨Tryz.func164,rfl,by kernel_rfl⟩ rfl (fun _=>rfl) fun g0 hg=>?_
 refine rn tk 5 rfl<|jb hr (fun j1=>[(4,.bo j1)]) (fun j1=>[]) (fun j1 hr=>?_) (fun j1 hr=>?_)
 .refine rn tk 7 rfl<|bs 10 hr rfl (fun c2 hr=>?_) (fun c2 hr=>?_)
  .refine rn tk 6 rfl ?_;obtain ⟨v3,h4,hr⟩:=zaa hr;refine ug rfl rfl rfl<|wscL tk h4 rfl rfl rfl rfl<|rn tk 5 rfl ?_;cases hr;exact jn _ rfl rfl rfl
  refine rn tk 12 rfl ?_;cases hr;exact jn _ rfl rfl rfl
 refine rn tk 1 rfl ?_;cases hr;exact kr tk (.inr rfl) rfl rfl
theorem Z3a(a0:Str)(a1:Str)(r:Bool)(hr:kwa a0 a1=some r):Run Tryz.prog 144 [.s a0,.s a1] (.bo r):=by
 unfold kwa at hr;refine rf (fn:=Tryz.f144) ⟨Tryz.func144,rfl,by kernel_rfl⟩ rfl (fun _=>rfl) fun g0 hg=>?_
 refine rn tk 9 rfl ?_;obtain ⟨v1,h2,hr⟩:=zaa hr;refine cl (vWa _ _ _ h2) rfl rfl<|rn tk 4 rfl ?_;cases hr;exact kr tk (.inr rfl) rfl rfl
theorem Qea(a0:Str)(r:Bool)(hr:q2a a0=some r):Run Tryz.prog 119 [.s a0] (.bo r):=by
 unfold q2a at hr;refine rf (fn:=Tryz.f119) ⟨Tryz.func119,rfl,by kernel_rfl⟩ rfl (fun _=>rfl) fun g0 hg=>?_
 refine rn tk 10 rfl<|jb hr (fun j1=>[(2,.bo j1)]) (fun j1=>[]) (fun j1 hr=>?_) (fun j1 hr=>?_)
 .refine rn tk 4 rfl<|bs 6 hr rfl (fun c2 hr=>?_) (fun c2 hr=>?_)
  .refine rn tk 5 rfl<|bs 11 hr rfl (fun c3 hr=>?_) (fun c3 hr=>?_)
   .refine rn tk 2 rfl<|ug rfl rfl rfl<|ct hr (fun j4=>[(0,.s a0),(11,.bo true),(14,.bo j4)]) (fun j4=>[]) (fun j4 hr jump4=>?_) (fun j4 hr=>?_)
    .refine il (fn:=Tryz.f82) (args:=[.s a0,.fn (.func 142) [] []]) 400000 499999 [(0,.s a0),(11,.bo true)] rfl ⟨Tryz.func82,rfl,by kernel_rfl⟩ rfl rfl rfl fun T4 ds4=>?_
     refine rn tk 14 rfl<|al2 hr (fun s5=>[(0,.s a0),(1,.fn (.func 142) [] []),(7,.i ((a0.length:Int))),(8,.i s5)]) (fun s5=>[(499999,.sus g0.w.heap.size ds4),(400000,.hold (.s a0) (T4.getD 0 undef)),(400011,.hold (.bo true) (T4.getD 11 undef))]) (.exit 0) (fun b6=>[]) (fun b6=>[(499999,.sus g0.w.heap.size ds4),(400000,.hold (.s a0) (T4.getD 0 undef)),(400011,.hold (.bo true) (T4.getD 11 undef))]) .ret (fun b7=>[(4,.bo false)]) (fun b7=>[(499999,.sus g0.w.heap.size ds4),(400000,.hold (.s a0) (T4.getD 0 undef)),(400011,.hold (.bo true) (T4.getD 11 undef))]) rfl rfl (fun s5 x9 hr=>?_) (fun b6 hr=>?_) (fun b7 hr=>?_)
     .unfold k9a at hr;refine rn tk 6 rfl<|ac 9 hr rfl (fun c10 hr=>?_) (fun c10 hr=>?_)
      .refine rn tk 15 rfl ?_;obtain ⟨v11,h12,hr⟩:=zaa hr;refine ws tk h12 rfl rfl rfl rfl<|il (fn:=Tryz.f142) (args:=[.u8 v11]) 600000 699999 [(0,.s a0),(1,.fn (.func 142) [] []),(7,.i ((a0.length:Int))),(8,.i s5)] rfl ⟨Tryz.func142,rfl,by kernel_rfl⟩ rfl rfl rfl fun T6 ds6=>?_
       refine rn tk 5 rfl<|jb hr (fun j13=>[(2,.bo j13)]) (fun j13=>[(699999,.sus g0.w.heap.size ds6),(600000,.hold (.s a0) (T6.getD 0 undef)),(600001,.hold (.fn (.func 142) [] []) (T6.getD 1 undef)),(600007,.hold (.i ((a0.length:Int))) (T6.getD 7 undef)),(600008,.hold (.i s5) (T6.getD 8 undef)),(499999,.sus g0.w.heap.size ds4),(400000,.hold (.s a0) (T4.getD 0 undef)),(400011,.hold (.bo true) (T4.getD 11 undef))]) (fun j13 hr=>?_) (fun j13 hr=>?_)
       .refine rn tk 4 rfl<|bs 5 hr rfl (fun c14 hr=>?_) (fun c14 hr=>?_)
        .refine rn tk 4 rfl<|bs 9 hr rfl (fun c15 hr=>?_) (fun c15 hr=>?_)
         .refine rn tk 17 rfl ?_;cases hr;exact jn _ rfl rfl rfl
         refine rn tk 3 rfl<|bs 12 hr rfl (fun c16 hr=>?_) (fun c16 hr=>?_)
         .refine rn tk 5 rfl<|bs 17 hr rfl (fun c17 hr=>?_) (fun c17 hr=>?_)
          .refine rn tk 9 rfl ?_;cases hr;exact jn _ rfl rfl rfl
          refine rn tk 4 rfl<|bs 21 hr rfl (fun c18 hr=>?_) (fun c18 hr=>?_)
          .refine rn tk 5 rfl ?_;cases hr;exact jn _ rfl rfl rfl
          refine rn tk 5 rfl ?_;cases hr;exact jn _ rfl rfl rfl
         refine rn tk 9 rfl<|bs 21 hr rfl (fun c19 hr=>?_) (fun c19 hr=>?_)
         .refine rn tk 5 rfl ?_;cases hr;exact jn _ rfl rfl rfl
         refine rn tk 5 rfl ?_;cases hr;exact jn _ rfl rfl rfl
        refine rn tk 7 rfl<|bs 12 hr rfl (fun c20 hr=>?_) (fun c20 hr=>?_)
        .refine rn tk 5 rfl<|bs 17 hr rfl (fun c21 hr=>?_) (fun c21 hr=>?_)
         .refine rn tk 9 rfl ?_;cases hr;exact jn _ rfl rfl rfl
         refine rn tk 4 rfl<|bs 21 hr rfl (fun c22 hr=>?_) (fun c22 hr=>?_)
         .refine rn tk 5 rfl ?_;cases hr;exact jn _ rfl rfl rfl
         refine rn tk 5 rfl ?_;cases hr;exact jn _ rfl rfl rfl
        refine rn tk 9 rfl<|bs 21 hr rfl (fun c23 hr=>?_) (fun c23 hr=>?_)
        .refine rn tk 5 rfl ?_;cases hr;exact jn _ rfl rfl rfl
        refine rn tk 5 rfl ?_;cases hr;exact jn _ rfl rfl rfl
       refine rn tk 1 rfl ?_;refine ie tk [.bo j13] [(0,.s a0),(1,.fn (.func 142) [] []),(7,.i ((a0.length:Int))),(8,.i s5)] [(499999,.sus g0.w.heap.size ds4),(400000,.hold (.s a0) (T4.getD 0 undef)),(400011,.hold (.bo true) (T4.getD 11 undef))] (.inr rfl) rfl rfl rfl rfl (hO ?_);refine rn tk 3 rfl<|ac 16 hr rfl (fun c24 hr=>?_) (fun c24 hr=>?_)
       .refine rn tk 8 rfl ?_;cases hr;exact ato rfl rfl rfl rfl
       refine rn tk 7 rfl ?_;cases hr;exact atc rfl rfl
      refine rn tk 2 rfl ?_;cases hr;exact ato rfl rfl rfl rfl
     .refine rn tk 8 rfl ?_;refine ie tk [.bo true] [(0,.s a0),(11,.bo true)] [] (.inr rfl) rfl rfl rfl rfl ?_;cases hr;exact jump4 _ _ rfl rfl
     refine rn tk 2 rfl ?_;refine ie tk [.bo false] [(0,.s a0),(11,.bo true)] [] (.inr rfl) rfl rfl rfl rfl ?_;cases hr;exact jump4 _ _ rfl rfl
    refine rn tk 2 rfl<|bs 16 hr rfl (fun c25 hr=>?_) (fun c25 hr=>?_)
    .refine rn tk 1 rfl ?_;obtain ⟨v26,h27,hr⟩:=zaa hr;refine ug rfl rfl rfl<|cl (Z2a _ _ _ h27) rfl rfl<|rn tk 3 rfl<|bs 21 hr rfl (fun c28 hr=>?_) (fun c28 hr=>?_)
     .refine rn tk 1 rfl ?_;obtain ⟨v29,h30,hr⟩:=zaa hr;refine ug rfl rfl rfl<|cl (Z3a _ _ _ h30) rfl rfl<|rn tk 3 rfl<|bs 26 hr rfl (fun c31 hr=>?_) (fun c31 hr=>?_)
      .refine rn tk 1 rfl ?_;obtain ⟨v32,h33,hr⟩:=zaa hr;refine ug rfl rfl rfl<|cl (KAa _ _ _ h33) rfl rfl<|rn tk 4 rfl ?_;cases hr;exact jn _ rfl rfl rfl
      refine rn tk 6 rfl ?_;cases hr;exact jn _ rfl rfl rfl
     refine rn tk 11 rfl ?_;cases hr;exact jn _ rfl rfl rfl
    refine rn tk 16 rfl ?_;cases hr;exact jn _ rfl rfl rfl
   refine rn tk 21 rfl ?_;cases hr;exact jn _ rfl rfl rfl
  refine rn tk 26 rfl ?_;cases hr;exact jn _ rfl rfl rfl
 refine rn tk 1 rfl ?_;cases hr;exact kr tk (.inr rfl) rfl rfl
theorem QJa(a0:Str)(r:Str × Str × Bool)(hr:vta a0=some r):Run Tryz.prog 86 [.s a0] (.tup [.s r.1,.s r.2.1,.bo r.2.2]):=by
 unfold vta at hr;refine rf (fn:=Tryz.f86) ⟨Tryz.func86,rfl,by kernel_rfl⟩ rfl (fun _=>rfl) fun g0 hg=>?_
 refine rn tk 10 rfl ?_;obtain ⟨v1,h2,hr⟩:=zaa hr;refine cl (Z1a _ _ _ h2) rfl rfl<|rn tk 14 rfl<|jb hr (fun j3=>[(2,.s v1.1),(3,.s v1.2.1),(4,.bo j3)]) (fun j3=>[]) (fun j3 hr=>?_) (fun j3 hr=>?_)
 .refine rn tk 5 rfl<|bs 15 hr rfl (fun c4 hr=>?_) (fun c4 hr=>?_)
  .refine rn tk 4 rfl<|bs 19 hr rfl (fun c5 hr=>?_) (fun c5 hr=>?_)
   .refine rn tk 5 rfl<|bs 24 hr rfl (fun c6 hr=>?_) (fun c6 hr=>?_)
    .refine rn tk 2 rfl<|ug rfl rfl rfl<|ct hr (fun j7=>[(3,.s v1.2.1),(12,.s v1.1),(13,.s v1.2.1),(24,.bo true),(27,.bo j7)]) (fun j7=>[]) (fun j7 hr jump4=>?_) (fun j7 hr=>?_)
     .refine il (fn:=Tryz.f82) (args:=[.s v1.1,.fn (.func 117) [] []]) 400000 499999 [(3,.s v1.2.1),(12,.s v1.1),(13,.s v1.2.1),(24,.bo true)] rfl ⟨Tryz.func82,rfl,by kernel_rfl⟩ rfl rfl rfl fun T4 ds4=>?_
      refine rn tk 14 rfl<|al2 hr (fun s8=>[(0,.s v1.1),(1,.fn (.func 117) [] []),(7,.i ((v1.1.length:Int))),(8,.i s8)]) (fun s8=>[(499999,.sus g0.w.heap.size ds4),(400003,.hold (.s v1.2.1) (T4.getD 3 undef)),(400012,.hold (.s v1.1) (T4.getD 12 undef)),(400013,.hold (.s v1.2.1) (T4.getD 13 undef)),(400024,.hold (.bo true) (T4.getD 24 undef))]) (.exit 0) (fun b9=>[]) (fun b9=>[(499999,.sus g0.w.heap.size ds4),(400003,.hold (.s v1.2.1) (T4.getD 3 undef)),(400012,.hold (.s v1.1) (T4.getD 12 undef)),(400013,.hold (.s v1.2.1) (T4.getD 13 undef)),(400024,.hold (.bo true) (T4.getD 24 undef))]) .ret (fun b10=>[(4,.bo false)]) (fun b10=>[(499999,.sus g0.w.heap.size ds4),(400003,.hold (.s v1.2.1) (T4.getD 3 undef)),(400012,.hold (.s v1.1) (T4.getD 12 undef)),(400013,.hold (.s v1.2.1) (T4.getD 13 undef)),(400024,.hold (.bo true) (T4.getD 24 undef))]) rfl rfl (fun s8 x12 hr=>?_) (fun b9 hr=>?_) (fun b10 hr=>?_)
      .unfold qka at hr;refine rn tk 6 rfl<|ac 9 hr rfl (fun c13 hr=>?_) (fun c13 hr=>?_)
       .refine rn tk 15 rfl ?_;obtain ⟨v14,h15,hr⟩:=zaa hr;refine ws tk h15 rfl rfl rfl rfl<|il (fn:=Tryz.f117) (args:=[.u8 v14]) 600000 699999 [(0,.s v1.1),(1,.fn (.func 117) [] []),(7,.i ((v1.1.length:Int))),(8,.i s8)] rfl ⟨Tryz.func117,rfl,by kernel_rfl⟩ rfl rfl rfl fun T6 ds6=>?_
        refine rn tk 5 rfl<|jb hr (fun j16=>[(2,.bo j16)]) (fun j16=>[(699999,.sus g0.w.heap.size ds6),(600000,.hold (.s v1.1) (T6.getD 0 undef)),(600001,.hold (.fn (.func 117) [] []) (T6.getD 1 undef)),(600007,.hold (.i ((v1.1.length:Int))) (T6.getD 7 undef)),(600008,.hold (.i s8) (T6.getD 8 undef)),(499999,.sus g0.w.heap.size ds4),(400003,.hold (.s v1.2.1) (T4.getD 3 undef)),(400012,.hold (.s v1.1) (T4.getD 12 undef)),(400013,.hold (.s v1.2.1) (T4.getD 13 undef)),(400024,.hold (.bo true) (T4.getD 24 undef))]) (fun j16 hr=>?_) (fun j16 hr=>?_)
        .refine rn tk 2 rfl ?_;obtain ⟨v17,h18,hr⟩:=zaa hr;refine cl (Zua _ _ h18) rfl rfl<|rn tk 1 rfl<|bs 5 hr rfl (fun c19 hr=>?_) (fun c19 hr=>?_)
         .refine rn tk 6 rfl ?_;cases hr;exact jn _ rfl rfl rfl
         refine rn tk 1 rfl ?_;obtain ⟨v20,h21,hr⟩:=zaa hr;refine ug rfl rfl rfl<|cl (q6a _ _ _ h21) rfl rfl<|rn tk 4 rfl ?_;cases hr;exact jn _ rfl rfl rfl
        refine rn tk 1 rfl ?_;refine ie tk [.bo j16] [(0,.s v1.1),(1,.fn (.func 117) [] []),(7,.i ((v1.1.length:Int))),(8,.i s8)] [(499999,.sus g0.w.heap.size ds4),(400003,.hold (.s v1.2.1) (T4.getD 3 undef)),(400012,.hold (.s v1.1) (T4.getD 12 undef)),(400013,.hold (.s v1.2.1) (T4.getD 13 undef)),(400024,.hold (.bo true) (T4.getD 24 undef))] (.inr rfl) rfl rfl rfl rfl (hO ?_);refine rn tk 3 rfl<|ac 16 hr rfl (fun c22 hr=>?_) (fun c22 hr=>?_)
        .refine rn tk 8 rfl ?_;cases hr;exact ato rfl rfl rfl rfl
        refine rn tk 7 rfl ?_;cases hr;exact atc rfl rfl
       refine rn tk 2 rfl ?_;cases hr;exact ato rfl rfl rfl rfl
      .refine rn tk 8 rfl ?_;refine ie tk [.bo true] [(3,.s v1.2.1),(12,.s v1.1),(13,.s v1.2.1),(24,.bo true)] [] (.inr rfl) rfl rfl rfl rfl ?_;cases hr;exact jump4 _ _ rfl rfl
      refine rn tk 2 rfl ?_;refine ie tk [.bo false] [(3,.s v1.2.1),(12,.s v1.1),(13,.s v1.2.1),(24,.bo true)] [] (.inr rfl) rfl rfl rfl rfl ?_;cases hr;exact jump4 _ _ rfl rfl
     refine rn tk 2 rfl<|bs 29 hr rfl (fun c23 hr=>?_) (fun c23 hr=>?_)
     .refine rn tk 1 rfl ?_;obtain ⟨v24,h25,hr⟩:=zaa hr;refine ug rfl rfl rfl<|cl (Qea _ _ h25) rfl rfl<|rn tk 5 rfl ?_;cases hr;exact jn _ rfl rfl rfl
     refine rn tk 7 rfl ?_;cases hr;exact jn _ rfl rfl rfl
    refine rn tk 12 rfl ?_;cases hr;exact jn _ rfl rfl rfl
   refine rn tk 17 rfl ?_;cases hr;exact jn _ rfl rfl rfl
  refine rn tk 21 rfl ?_;cases hr;exact jn _ rfl rfl rfl
 refine rn tk 1 rfl ?_;cases hr;exact kr tk (.inr rfl) rfl rfl
theorem kKa(a0:Str)(r:Bool)(hr:kda a0=some r):Run Tryz.prog 59 [.s a0] (.bo r):=by
 unfold kda at hr;refine rf (fn:=Tryz.f59) ⟨Tryz.func59,rfl,by kernel_rfl⟩ rfl (fun _=>rfl) fun g0 hg=>?_
 refine rn tk 8 rfl ?_;obtain ⟨v1,h2,hr⟩:=zaa hr;refine cl (QJa _ _ h2) rfl rfl<|rn tk 16 rfl ?_;cases hr;exact kr tk (.inr rfl) rfl rfl
theorem vPa(a0:Int)(r:Bool)(hr:kVa a0=some r):Run Tryz.prog 87 [.i a0] (.bo r):=by
 unfold kVa at hr;refine rf (fn:=Tryz.f87) ⟨Tryz.func87,rfl,by kernel_rfl⟩ rfl (fun _=>rfl) fun g0 hg=>?_
 refine rn tk 5 rfl<|jb hr (fun j1=>[(2,.bo j1)]) (fun j1=>[]) (fun j1 hr=>?_) (fun j1 hr=>?_)
 .refine rn tk 4 rfl<|bs 5 hr rfl (fun c2 hr=>?_) (fun c2 hr=>?_)
  .refine rn tk 5 rfl ?_;cases hr;exact jn _ rfl rfl rfl
  refine rn tk 5 rfl ?_;cases hr;exact jn _ rfl rfl rfl
 refine rn tk 1 rfl ?_;cases hr;exact kr tk (.inr rfl) rfl rfl
theorem qEa(a0:List zca)(r:zra)(hr:kfa a0=some r):Run Tryz.prog 60 [.l zca.pc a0] (.agg [.i r.Code,.i r.Index]):=by
 unfold kfa at hr;refine rf (fn:=Tryz.f60) ⟨Tryz.func60,rfl,by kernel_rfl⟩ rfl (fun _=>rfl) fun g0 hg=>?_
 refine rn tk 9 rfl<|wn tk rfl rfl rfl<|rn tk 4 rfl<|al2 hr (fun s1=>[(0,.l zca.pc a0),(2,.ptr 2 0),(5,.l zca.pc a0),(6,.i ((a0.length:Int))),(7,.i s1)]) (fun s1=>[(2,.cells [.i 0,.i 0])]) (.exit 0) (fun b2=>[(2,.ptr 2 0)]) (fun b2=>[(2,.cells [.i 0,.i 0])]) .ret (fun b3=>[(2,.ptr 2 0)]) (fun b3=>[(2,.cells [.i b3.Code,.i b3.Index])]) rfl rfl (fun s1 x5 hr=>?_) (fun b2 hr=>?_) (fun b3 hr=>?_)
 .unfold k1a at hr;refine rn tk 6 rfl<|ac 8 hr rfl (fun c6 hr=>?_) (fun c6 hr=>?_)
  .refine rn tk 7 rfl ?_;obtain ⟨v7,h8,hr⟩:=zaa hr;refine wi tk h8 rfl rfl rfl rfl rfl<|rn tk 11 rfl ?_;obtain ⟨v9,h10,hr⟩:=zaa hr;refine cl (kKa _ _ h10) rfl rfl<|rn tk 4 rfl<|ac 12 hr rfl (fun c11 hr=>?_) (fun c11 hr=>?_)
   .refine rn tk 3 rfl ?_;obtain ⟨v12,h13,hr⟩:=zaa hr;refine cl (zja _ _ _ h13) rfl rfl<|rn tk 7 rfl ?_;cases hr;exact ato rfl rfl rfl rfl
   refine rn tk 4 rfl ?_;obtain ⟨v14,h15,hr⟩:=zaa hr;refine cl (vPa _ _ h15) rfl rfl<|rn tk 4 rfl<|ac 19 hr rfl (fun c16 hr=>?_) (fun c16 hr=>?_)
   .refine rn tk 3 rfl ?_;obtain ⟨v17,h18,hr⟩:=zaa hr;refine cl (zja _ _ _ h18) rfl rfl<|rn tk 7 rfl ?_;cases hr;exact ato rfl rfl rfl rfl
   refine rn tk 4 rfl ?_;obtain ⟨v19,h20,hr⟩:=zaa hr;refine wlH tk h20 rfl rfl rfl (fun _=>rfl) rfl<|rn tk 1 rfl<|il (fn:=Tryz.f88) (args:=[.l zca.pc v19,.fn (.func 89) [] [.ptr 4 0]]) 500000 599999 [(0,.l zca.pc a0),(2,.ptr 2 0),(3,.i s1),(5,.l zca.pc a0),(6,.i ((a0.length:Int))),(7,.i s1)] rfl ⟨Tryz.func88,rfl,by kernel_rfl⟩ rfl rfl rfl fun T5 ds5=>?_
   refine rn tk 9 rfl<|ct hr (fun j21=>[(7,.i j21)]) (fun j21=>[(599999,.sus g0.w.heap.size ds5),(500000,.hold (.l zca.pc a0) (T5.getD 0 undef)),(500002,.hold (.ptr 2 0) (T5.getD 2 undef)),(500005,.hold (.l zca.pc a0) (T5.getD 5 undef)),(500006,.hold (.i ((a0.length:Int))) (T5.getD 6 undef)),(500007,.hold (.i s1) (T5.getD 7 undef)),(500003,.hold (.i s1) (T5.getD 3 undef)),(2,.cells [.i 0,.i 0])]) (fun j21 hr jump6=>?_) (fun j21 hr=>?_)
   .refine il (fn:=Tryz.f120) (args:=[.l zca.pc v19,.fn (.func 89) [] [.ptr 4 0]]) 600000 699999 [] rfl ⟨Tryz.func120,rfl,by kernel_rfl⟩ rfl rfl rfl fun T6 ds6=>?_
    refine rn tk 9 rfl<|wn tk rfl rfl rfl<|rn tk 4 rfl<|al2 hr (fun s22=>[(0,.l zca.pc v19),(1,.fn (.func 89) [] [.ptr 4 0]),(7,.i ((v19.length:Int))),(8,.i s22)]) (fun s22=>[(699999,.sus g0.w.heap.size ds6),(599999,.sus g0.w.heap.size ds5),(500000,.hold (.l zca.pc a0) (T5.getD 0 undef)),(500002,.hold (.ptr 2 0) (T5.getD 2 undef)),(500005,.hold (.l zca.pc a0) (T5.getD 5 undef)),(500006,.hold (.i ((a0.length:Int))) (T5.getD 6 undef)),(500007,.hold (.i s1) (T5.getD 7 undef)),(500003,.hold (.i s1) (T5.getD 3 undef)),(4,.cells [.s v7.Address,.i v7.Notify]),(2,.cells [.i 0,.i 0])]) (.exit 0) (fun b23=>[]) (fun b23=>[(699999,.sus g0.w.heap.size ds6),(599999,.sus g0.w.heap.size ds5),(500000,.hold (.l zca.pc a0) (T5.getD 0 undef)),(500002,.hold (.ptr 2 0) (T5.getD 2 undef)),(500005,.hold (.l zca.pc a0) (T5.getD 5 undef)),(500006,.hold (.i ((a0.length:Int))) (T5.getD 6 undef)),(500007,.hold (.i s1) (T5.getD 7 undef)),(500003,.hold (.i s1) (T5.getD 3 undef)),(2,.cells [.i 0,.i 0])]) .ret (fun b24=>[(4,.i b24)]) (fun b24=>[(699999,.sus g0.w.heap.size ds6),(599999,.sus g0.w.heap.size ds5),(500000,.hold (.l zca.pc a0) (T5.getD 0 undef)),(500002,.hold (.ptr 2 0) (T5.getD 2 undef)),(500005,.hold (.l zca.pc a0) (T5.getD 5 undef)),(500006,.hold (.i ((a0.length:Int))) (T5.getD 6 undef)),(500007,.hold (.i s1) (T5.getD 7 undef)),(500003,.hold (.i s1) (T5.getD 3 undef)),(2,.cells [.i 0,.i 0])]) rfl rfl (fun s22 x26 hr=>?_) (fun b23 hr=>?_) (fun b24 hr=>?_)
    .unfold ksa at hr;refine rn tk 6 rfl<|ac 9 hr rfl (fun c27 hr=>?_) (fun c27 hr=>?_)
     .refine rn tk 15 rfl ?_;obtain ⟨v28,h29,hr⟩:=zaa hr;refine wi tk h29 rfl rfl rfl rfl rfl<|rn tk 1 rfl<|il (fn:=Tryz.f89) (args:=[.agg [.s v28.Address,.i v28.Notify],.ptr 4 0]) 800000 899999 [(0,.l zca.pc v19),(1,.fn (.func 89) [] [.ptr 4 0]),(5,.i s22),(7,.i ((v19.length:Int))),(8,.i s22)] rfl ⟨Tryz.func89,rfl,by kernel_rfl⟩ rfl rfl rfl fun T8 ds8=>?_
      refine rn tk 2 rfl<|wo (JEa (k:=2) 1002 rfl rfl rfl rfl rfl) rfl<|rn tk 14 rfl ?_;refine ie tk [.bo ((v28.Address==v7.Address))] [(0,.l zca.pc v19),(1,.fn (.func 89) [] [.ptr 4 0]),(5,.i s22),(7,.i ((v19.length:Int))),(8,.i s22)] [(1002,.cells [.s v28.Address,.i v28.Notify]),(699999,.sus g0.w.heap.size ds6),(599999,.sus g0.w.heap.size ds5),(500000,.hold (.l zca.pc a0) (T5.getD 0 undef)),(500002,.hold (.ptr 2 0) (T5.getD 2 undef)),(500005,.hold (.l zca.pc a0) (T5.getD 5 undef)),(500006,.hold (.i ((a0.length:Int))) (T5.getD 6 undef)),(500007,.hold (.i s1) (T5.getD 7 undef)),(500003,.hold (.i s1) (T5.getD 3 undef)),(4,.cells [.s v7.Address,.i v7.Notify]),(2,.cells [.i 0,.i 0])] (.inr rfl) rfl rfl rfl rfl (hO ?_);refine rn tk 2 rfl<|ac 16 hr rfl (fun c30 hr=>?_) (fun c30 hr=>?_)
      .refine rn tk 9 rfl ?_;cases hr;exact ato rfl rfl rfl rfl
      refine rn tk 7 rfl ?_;cases hr;exact atc rfl rfl
     refine rn tk 2 rfl ?_;cases hr;exact ato rfl rfl rfl rfl
    .refine rn tk 8 rfl ?_;refine ie tk [.i ((-1))] [] [(599999,.sus g0.w.heap.size ds5),(500000,.hold (.l zca.pc a0) (T5.getD 0 undef)),(500002,.hold (.ptr 2 0) (T5.getD 2 undef)),(500005,.hold (.l zca.pc a0) (T5.getD 5 undef)),(500006,.hold (.i ((a0.length:Int))) (T5.getD 6 undef)),(500007,.hold (.i s1) (T5.getD 7 undef)),(500003,.hold (.i s1) (T5.getD 3 undef)),(2,.cells [.i 0,.i 0])] (.inr rfl) rfl rfl rfl rfl ?_;cases hr;exact jump6 _ _ rfl rfl
    refine rn tk 2 rfl ?_;refine ie tk [.i b24] [] [(599999,.sus g0.w.heap.size ds5),(500000,.hold (.l zca.pc a0) (T5.getD 0 undef)),(500002,.hold (.ptr 2 0) (T5.getD 2 undef)),(500005,.hold (.l zca.pc a0) (T5.getD 5 undef)),(500006,.hold (.i ((a0.length:Int))) (T5.getD 6 undef)),(500007,.hold (.i s1) (T5.getD 7 undef)),(500003,.hold (.i s1) (T5.getD 3 undef)),(2,.cells [.i 0,.i 0])] (.inr rfl) rfl rfl rfl rfl ?_;cases hr;exact jump6 _ _ rfl rfl
   refine rn tk 5 rfl ?_;refine ie tk [.bo (decide (0<=j21))] [(0,.l zca.pc a0),(2,.ptr 2 0),(3,.i s1),(5,.l zca.pc a0),(6,.i ((a0.length:Int))),(7,.i s1)] [(2,.cells [.i 0,.i 0])] (.inr rfl) rfl rfl rfl rfl (hO ?_);refine rn tk 3 rfl<|ac 26 hr rfl (fun c31 hr=>?_) (fun c31 hr=>?_)
   .refine rn tk 3 rfl ?_;obtain ⟨v32,h33,hr⟩:=zaa hr;refine cl (zja _ _ _ h33) rfl rfl<|rn tk 7 rfl ?_;cases hr;exact ato rfl rfl rfl rfl
   refine rn tk 8 rfl ?_;cases hr;exact atc rfl rfl
  refine rn tk 2 rfl ?_;cases hr;exact ato rfl rfl rfl rfl
 .refine rn tk 4 rfl ?_;obtain ⟨v34,h35,hr⟩:=zaa hr;refine cl (zGa _ h35) rfl rfl<|rn tk 4 rfl ?_;cases hr;exact kr tk (.inr rfl) rfl rfl
 refine rn tk 2 rfl ?_;cases hr;exact kr tk (.inr rfl) rfl rfl
theorem qVa(a0:Int)(a1:Int)(a2:Int)(r:Bool)(hr:kQa a0 a1 a2=some r):Run Tryz.prog 61 [.i a0,.i a1,.i a2] (.bo r):=by
 unfold kQa at hr;refine rf (fn:=Tryz.f61) ⟨Tryz.func61,rfl,by kernel_rfl⟩ rfl (fun _=>rfl) fun g0 hg=>?_
 refine rn tk 5 rfl<|jb hr (fun j1=>[(6,.bo j1)]) (fun j1=>[]) (fun j1 hr=>?_) (fun j1 hr=>?_)
 .refine rn tk 5 rfl<|bs 10 hr rfl (fun c2 hr=>?_) (fun c2 hr=>?_)
  .refine rn tk 6 rfl ?_;cases hr;exact jn _ rfl rfl rfl
  refine rn tk 6 rfl ?_;cases hr;exact jn _ rfl rfl rfl
 refine rn tk 1 rfl ?_;cases hr;exact kr tk (.inr rfl) rfl rfl
def nums(l:List UInt8):List Int:=l.map fun c=>(c.toNat:Int)
theorem Vqa(l:List UInt8):Lib.bytesOf (nums l)=l:=by simp[Lib.bytesOf,nums,Function.comp_def]
theorem Jta(l:List UInt8):∀x∈nums l,0<=x/\x < 256:=by
 intro x hx;obtain ⟨c,_,rfl⟩:=List.mem_map.1 hx;have:=c.toNat_lt;omega
theorem jIb(l:List UInt8)(i:Nat)(h:i < l.length):(nums l).getD i 0=(l[i].toNat:Int):=by simp[nums,h]
theorem Qfa{g:G}{l:List UInt8}{v:Value}(h:Rel g (.l cU l) v):∃ad cap,v=.slice ad l.length cap/\l.length<=cap/\(l≠ []->∃b off,ad=some ⟨b,off,none⟩/\∀i,i < l.length->g.w.cell? ((⟨b,off,none⟩:Addr).add i)=some (.int .u8 ((nums l).getD i 0))):=by
 cases h with
 | pv h=>
  generalize hE:l.map cU=elems at h;have hEl:elems.length=l.length:=by rw[<-hE];simp
  unfold pL at h;rw[hE]at h;cases h with
  | @sl _ _ a cap size b off val hn h0 hc hz ha hu hcell h=>
   refine ⟨a,cap,by rw[hEl],by omega,fun hne=>⟨b,off,ha (by rw[<-hE];simpa using hne),fun i hi=>?_⟩⟩;have hget:elems[i]? =some (cU l[i]):=by rw[<-hE];simp[hi]
   have hs1:size=1:=by
    have:=hz _ (List.mem_of_getElem? hget);simpa[cU]using this.symm
   subst hs1;rw[vba,hcell i (by omega),jIb l i hi];have:=h i 0 _ (.b (.int .u8 (l[i].toNat:Int))) hget rfl;simp only[Nat.mul_one,Nat.add_zero]at this;have e:=z1a (g:=g) (.pv this);rw[e]
theorem Ypa(a b:List UInt8)(r:Int)(hr:j6a a b=some r):Run Tryz.prog 121 [.l cU a,.l cU b] (.i r):=by
 unfold j6a at hr;split at hr
 case isFalse=>cases hr
 rename_i hlen;cases hr;refine ⟨⟨_,_,⟨Tryz.func121,rfl,by kernel_rfl⟩⟩,fun g vs hw hg ha=>?_⟩;obtain ⟨hsz,hrel⟩:=ha;obtain ⟨l⟩:=vs
 match l,hsz with
 | [x,y],_=>
  have h0:Rel g (.l cU a) x:=hrel 0 _ rfl;have h1:Rel g (.l cU b) y:=hrel 1 _ rfl;obtain ⟨ad,cap,rfl,hcap,hcell⟩:=Qfa h0;obtain ⟨ad2,cap2,rfl,hcap2,hcell2⟩:=Qfa h1;have hb2:=hlen.2;obtain ⟨b2,o2,rfl,hc2⟩:=hcell2 (by rintro rfl;simp at hb2);refine callsIn_wide.2 ?_
  suffices hs:Calls Tryz.prog 121 #[.slice ad a.length cap,.slice (some ⟨b2,o2,none⟩) b.length cap2] g.w fun e w' =>e=.returned (.int .i64 (Lib.index a b))/\∃q,w' =g.w.drewN q by
   refine hs.mono ?_;rintro e w' ⟨rfl,q,rfl⟩;exact ⟨⟨g.w.drewN q,g.u,g.loc⟩,_,rfl,rfl,kDb g q,hw,rfl,.pv (.b rfl)⟩
  by_cases hs:a.length < 2
  .have hi:Lib.index a b= -1:=by
    match a,b,hs,hb2 with
    | [],[p,q],_,_=>rfl
    | [c],[p,q],_,_=>simp[Lib.index]
   rw[hi];exact (Tryz.bytes_Index_longer ad (some ⟨b2,o2,none⟩) a.length cap b.length cap2 g.w (by omega) (by omega) (by omega)).mono fun e w' ⟨h1,h2⟩=>⟨h1,0,h2⟩
  obtain ⟨b1,o1,rfl,hc1⟩:=hcell (by rintro rfl;simp at hs);obtain ⟨_,_,m,hm⟩:=hg.1 (0,0) (by simp[wHb]);have:=Tryz.bytes_Index_at ⟨b1,o1,none⟩ ⟨b2,o2,none⟩ a.length cap b.length cap2 (nums a) (nums b) m g.w (by simp[nums]) (by simp[nums]) (Jta a) (Jta b) hc1 hc2 hcap hlen.1 (by omega) hm;rw[Vqa,Vqa]at this;exact this
theorem QKa(a0:List UInt8)(a1:List UInt8)(r:Bool)(hr:vBa a0 a1=some r):Run Tryz.prog 90 [.l cU a0,.l cU a1] (.bo r):=by
 unfold vBa at hr;refine rf (fn:=Tryz.f90) ⟨Tryz.func90,rfl,by kernel_rfl⟩ rfl (fun _=>rfl) fun g0 hg=>?_
 refine rn tk 9 rfl ?_;obtain ⟨v1,h2,hr⟩:=zaa hr;refine cl (Ypa _ _ _ h2) rfl rfl<|rn tk 5 rfl ?_;cases hr;exact kr tk (.inr rfl) rfl rfl
theorem V3a(a0:zha)(r:Bool)(hr:w7a a0=some r):Run Tryz.prog 62 [.agg [.s a0.Name,.i a0.Size,.i a0.Many,.i a0.Phase,.bo a0.Greeted,.bo a0.Mailing,.s a0.From,.l zca.pc a0.To,.l cU a0.Buffer,.l cU a0.Data,.i a0.Lost,.i a0.Dots,.bo a0.Chunked,.i a0.Left,.bo a0.Last,.bo a0.Ignore,.i a0.Count]] (.bo r):=by
 unfold w7a at hr;refine rf (fn:=Tryz.f62) ⟨Tryz.func62,rfl,by kernel_rfl⟩ rfl (fun _=>rfl) fun g0 hg=>?_
 refine rn tk 6 rfl<|jb hr (fun j1=>[(1,.ptr 1 0),(3,.bo j1)]) (fun j1=>[(1,.cells [.s a0.Name,.i a0.Size,.i a0.Many,.i a0.Phase,.bo a0.Greeted,.bo a0.Mailing,.s a0.From,.l zca.pc a0.To,.l cU a0.Buffer,.l cU a0.Data,.i a0.Lost,.i a0.Dots,.bo a0.Chunked,.i a0.Left,.bo a0.Last,.bo a0.Ignore,.i a0.Count])]) (fun j1 hr=>?_) (fun j1 hr=>?_)
 .refine rn tk 5 rfl<|bs 7 hr rfl (fun c2 hr=>?_) (fun c2 hr=>?_)
  .refine rn tk 5 rfl<|bs 12 hr rfl (fun c3 hr=>?_) (fun c3 hr=>?_)
   .refine rn tk 6 rfl ?_;cases hr;exact jn _ rfl rfl rfl
   refine rn tk 6 rfl ?_;cases hr;exact jn _ rfl rfl rfl
  refine rn tk 11 rfl ?_;cases hr;exact jn _ rfl rfl rfl
 refine rn tk 14 rfl<|ac 19 hr rfl (fun c4 hr=>?_) (fun c4 hr=>?_)
 .refine jb hr (fun j5=>[(2,.bo j5)]) (fun j5=>[]) (fun j5 hr=>?_) (fun j5 hr=>?_)
  .refine rn tk 3 rfl<|wn tk rfl rfl rfl<|rn tk 2 rfl<|bs 25 hr rfl (fun c6 hr=>?_) (fun c6 hr=>?_)
   .refine rn tk 2 rfl ?_;refine y9a rfl (Qqa (F:=cU) (l:=([(13:UInt8),(10:UInt8)]:List UInt8)) zpa zJa rfl (fun _=>rfl) rfl rfl) zpa zJa (YXa (d:=25) rfl rfl rfl rfl) (YXa (d:=25) rfl rfl rfl rfl) rfl (hO ?_);obtain ⟨v7,h8,hr⟩:=zaa hr;refine ug rfl rfl rfl<|cl (QKa _ _ _ h8) rfl rfl<|rn tk 3 rfl<|bs 33 hr rfl (fun c9 hr=>?_) (fun c9 hr=>?_)
    .refine rn tk 5 rfl<|bs 38 hr rfl (fun c10 hr=>?_) (fun c10 hr=>?_)
     .refine rn tk 4 rfl ?_;cases hr;exact jn _ rfl rfl rfl
     refine rn tk 4 rfl ?_;cases hr;exact jn _ rfl rfl rfl
    refine rn tk 9 rfl ?_;cases hr;exact jn _ rfl rfl rfl
   refine rn tk 17 rfl ?_;cases hr;exact jn _ rfl rfl rfl
  refine rn tk 3 rfl ?_;cases hr;exact kr tk (.inr rfl) rfl rfl
 refine rn tk 6 rfl<|ac 41 hr rfl (fun c11 hr=>?_) (fun c11 hr=>?_)
 .refine jb hr (fun j12=>[(2,.bo j12)]) (fun j12=>[]) (fun j12 hr=>?_) (fun j12 hr=>?_)
  .refine rn tk 3 rfl<|wn tk rfl rfl rfl<|rn tk 2 rfl<|bs 47 hr rfl (fun c13 hr=>?_) (fun c13 hr=>?_)
   .refine rn tk 5 rfl<|bs 52 hr rfl (fun c14 hr=>?_) (fun c14 hr=>?_)
    .refine rn tk 2 rfl<|ug rfl rfl rfl<|wn tk rfl rfl rfl<|rn tk 3 rfl<|bs 58 hr rfl (fun c15 hr=>?_) (fun c15 hr=>?_)
     .refine rn tk 2 rfl ?_;obtain ⟨v16,h17,hr⟩:=zaa hr;refine ug rfl rfl rfl<|cl (qVa _ _ _ _ h17) rfl rfl<|rn tk 2 rfl<|bs 63 hr rfl (fun c18 hr=>?_) (fun c18 hr=>?_)
      .refine rn tk 4 rfl ?_;cases hr;exact jn _ rfl rfl rfl
      refine rn tk 4 rfl ?_;cases hr;exact jn _ rfl rfl rfl
     refine rn tk 9 rfl ?_;cases hr;exact jn _ rfl rfl rfl
    refine rn tk 15 rfl ?_;cases hr;exact jn _ rfl rfl rfl
   refine rn tk 20 rfl ?_;cases hr;exact jn _ rfl rfl rfl
  refine rn tk 3 rfl ?_;cases hr;exact kr tk (.inr rfl) rfl rfl
 refine rn tk 6 rfl<|ac 66 hr rfl (fun c19 hr=>?_) (fun c19 hr=>?_)
 .refine jb hr (fun j20=>[(2,.bo j20)]) (fun j20=>[]) (fun j20 hr=>?_) (fun j20 hr=>?_)
  .refine rn tk 5 rfl<|wn tk rfl rfl rfl<|rn tk 3 rfl<|bs 75 hr rfl (fun c21 hr=>?_) (fun c21 hr=>?_)
   .refine rn tk 8 rfl<|bs 83 hr rfl (fun c22 hr=>?_) (fun c22 hr=>?_)
    .refine rn tk 2 rfl<|ug rfl rfl rfl<|wn tk rfl rfl rfl<|rn tk 3 rfl<|bs 89 hr rfl (fun c23 hr=>?_) (fun c23 hr=>?_)
     .refine rn tk 5 rfl<|bs 94 hr rfl (fun c24 hr=>?_) (fun c24 hr=>?_)
      .refine rn tk 2 rfl ?_;obtain ⟨v25,h26,hr⟩:=zaa hr;refine ug rfl rfl rfl<|cl (qVa _ _ _ _ h26) rfl rfl<|rn tk 3 rfl ?_;cases hr;exact jn _ rfl rfl rfl
      refine rn tk 6 rfl ?_;cases hr;exact jn _ rfl rfl rfl
     refine rn tk 11 rfl ?_;cases hr;exact jn _ rfl rfl rfl
    refine rn tk 17 rfl ?_;cases hr;exact jn _ rfl rfl rfl
   refine rn tk 25 rfl ?_;cases hr;exact jn _ rfl rfl rfl
  refine rn tk 3 rfl ?_;cases hr;exact kr tk (.inr rfl) rfl rfl
 refine rn tk 6 rfl<|ac 99 hr rfl (fun c27 hr=>?_) (fun c27 hr=>?_)
 .refine jb hr (fun j28=>[(2,.bo j28)]) (fun j28=>[]) (fun j28 hr=>?_) (fun j28 hr=>?_)
  .refine rn tk 5 rfl<|bs 104 hr rfl (fun c29 hr=>?_) (fun c29 hr=>?_)
   .refine rn tk 2 rfl<|ug rfl rfl rfl<|wn tk rfl rfl rfl<|rn tk 3 rfl<|bs 110 hr rfl (fun c30 hr=>?_) (fun c30 hr=>?_)
    .refine rn tk 5 rfl<|bs 115 hr rfl (fun c31 hr=>?_) (fun c31 hr=>?_)
     .refine rn tk 4 rfl ?_;cases hr;exact jn _ rfl rfl rfl
     refine rn tk 4 rfl ?_;cases hr;exact jn _ rfl rfl rfl
    refine rn tk 9 rfl ?_;cases hr;exact jn _ rfl rfl rfl
   refine rn tk 15 rfl ?_;cases hr;exact jn _ rfl rfl rfl
  refine rn tk 3 rfl ?_;cases hr;exact kr tk (.inr rfl) rfl rfl
 refine rn tk 9 rfl ?_;cases hr;exact kr tk (.inr rfl) rfl rfl
theorem Vra(a0:zha)(r:Bool)(hr:v7a a0=some r):Run Tryz.prog 34 [.agg [.s a0.Name,.i a0.Size,.i a0.Many,.i a0.Phase,.bo a0.Greeted,.bo a0.Mailing,.s a0.From,.l zca.pc a0.To,.l cU a0.Buffer,.l cU a0.Data,.i a0.Lost,.i a0.Dots,.bo a0.Chunked,.i a0.Left,.bo a0.Last,.bo a0.Ignore,.i a0.Count]] (.bo r):=by
 unfold v7a at hr;refine rf (fn:=Tryz.f34) ⟨Tryz.func34,rfl,by kernel_rfl⟩ rfl (fun _=>rfl) fun g0 hg=>?_
 refine rn tk 7 rfl<|jb hr (fun j1=>[(1,.ptr 1 0),(25,.bo j1)]) (fun j1=>[(1,.cells [.s a0.Name,.i a0.Size,.i a0.Many,.i a0.Phase,.bo a0.Greeted,.bo a0.Mailing,.s a0.From,.l zca.pc a0.To,.l cU a0.Buffer,.l cU a0.Data,.i a0.Lost,.i a0.Dots,.bo a0.Chunked,.i a0.Left,.bo a0.Last,.bo a0.Ignore,.i a0.Count])]) (fun j1 hr=>?_) (fun j1 hr=>?_)
 .refine rn tk 5 rfl<|bs 6 hr rfl (fun c2 hr=>?_) (fun c2 hr=>?_)
  .refine rn tk 2 rfl ?_;obtain ⟨v3,h4,hr⟩:=zaa hr;refine ug rfl rfl rfl<|cl (kKa _ _ h4) rfl rfl<|rn tk 3 rfl<|bs 12 hr rfl (fun c5 hr=>?_) (fun c5 hr=>?_)
   .refine rn tk 14 rfl ?_;cases hr;exact jn _ rfl rfl rfl
   refine rn tk 2 rfl<|ug rfl rfl rfl<|wn tk rfl rfl rfl<|rn tk 5 rfl<|bs 20 hr rfl (fun c6 hr=>?_) (fun c6 hr=>?_)
   .refine rn tk 6 rfl ?_;cases hr;exact jn _ rfl rfl rfl
   refine rn tk 2 rfl ?_;obtain ⟨v7,h8,hr⟩:=zaa hr;refine ug rfl rfl rfl<|cl (qEa _ _ h8) rfl rfl ?_;obtain ⟨v9,h10,hr⟩:=zaa hr;refine ug rfl rfl rfl<|cl (zza _ _ h10) rfl rfl<|rn tk 2 rfl ?_;cases hr;exact jn _ rfl rfl rfl
  refine rn tk 8 rfl<|ug rfl rfl rfl<|wn tk rfl rfl rfl<|rn tk 5 rfl<|bs 20 hr rfl (fun c11 hr=>?_) (fun c11 hr=>?_)
  .refine rn tk 6 rfl ?_;cases hr;exact jn _ rfl rfl rfl
  refine rn tk 2 rfl ?_;obtain ⟨v12,h13,hr⟩:=zaa hr;refine ug rfl rfl rfl<|cl (qEa _ _ h13) rfl rfl ?_;obtain ⟨v14,h15,hr⟩:=zaa hr;refine ug rfl rfl rfl<|cl (zza _ _ h15) rfl rfl<|rn tk 2 rfl ?_;cases hr;exact jn _ rfl rfl rfl
 refine ac 25 hr rfl (fun c16 hr=>?_) (fun c16 hr=>?_)
 .refine rn tk 7 rfl ?_;cases hr;exact kr tk (.inr rfl) rfl rfl
 refine rn tk 3 rfl<|jb hr (fun j17=>[(1,.ptr 1 0),(58,.bo j17)]) (fun j17=>[(1,.cells [.s a0.Name,.i a0.Size,.i a0.Many,.i a0.Phase,.bo a0.Greeted,.bo a0.Mailing,.s a0.From,.l zca.pc a0.To,.l cU a0.Buffer,.l cU a0.Data,.i a0.Lost,.i a0.Dots,.bo a0.Chunked,.i a0.Left,.bo a0.Last,.bo a0.Ignore,.i a0.Count])]) (fun j17 hr=>?_) (fun j17 hr=>?_)
 .refine rn tk 5 rfl<|bs 29 hr rfl (fun c18 hr=>?_) (fun c18 hr=>?_)
  .refine rn tk 4 rfl<|bs 33 hr rfl (fun c19 hr=>?_) (fun c19 hr=>?_)
   .refine rn tk 26 rfl ?_;cases hr;exact jn _ rfl rfl rfl
   refine rn tk 4 rfl<|bs 37 hr rfl (fun c20 hr=>?_) (fun c20 hr=>?_)
   .refine rn tk 4 rfl<|bs 41 hr rfl (fun c21 hr=>?_) (fun c21 hr=>?_)
    .refine rn tk 18 rfl ?_;cases hr;exact jn _ rfl rfl rfl
    refine rn tk 2 rfl<|ug rfl rfl rfl<|wn tk rfl rfl rfl<|rn tk 5 rfl<|bs 49 hr rfl (fun c22 hr=>?_) (fun c22 hr=>?_)
    .refine rn tk 10 rfl ?_;cases hr;exact jn _ rfl rfl rfl
    refine rn tk 3 rfl<|bs 52 hr rfl (fun c23 hr=>?_) (fun c23 hr=>?_)
    .refine rn tk 2 rfl<|ug rfl rfl rfl<|wn tk rfl rfl rfl<|rn tk 4 rfl ?_;cases hr;exact jn _ rfl rfl rfl
    refine rn tk 7 rfl ?_;cases hr;exact jn _ rfl rfl rfl
   refine rn tk 15 rfl<|bs 52 hr rfl (fun c24 hr=>?_) (fun c24 hr=>?_)
   .refine rn tk 2 rfl<|ug rfl rfl rfl<|wn tk rfl rfl rfl<|rn tk 4 rfl ?_;cases hr;exact jn _ rfl rfl rfl
   refine rn tk 7 rfl ?_;cases hr;exact jn _ rfl rfl rfl
  refine rn tk 8 rfl<|bs 37 hr rfl (fun c25 hr=>?_) (fun c25 hr=>?_)
  .refine rn tk 4 rfl<|bs 41 hr rfl (fun c26 hr=>?_) (fun c26 hr=>?_)
   .refine rn tk 18 rfl ?_;cases hr;exact jn _ rfl rfl rfl
   refine rn tk 2 rfl<|ug rfl rfl rfl<|wn tk rfl rfl rfl<|rn tk 5 rfl<|bs 49 hr rfl (fun c27 hr=>?_) (fun c27 hr=>?_)
   .refine rn tk 10 rfl ?_;cases hr;exact jn _ rfl rfl rfl
   refine rn tk 3 rfl<|bs 52 hr rfl (fun c28 hr=>?_) (fun c28 hr=>?_)
   .refine rn tk 2 rfl<|ug rfl rfl rfl<|wn tk rfl rfl rfl<|rn tk 4 rfl ?_;cases hr;exact jn _ rfl rfl rfl
   refine rn tk 7 rfl ?_;cases hr;exact jn _ rfl rfl rfl
  refine rn tk 15 rfl<|bs 52 hr rfl (fun c29 hr=>?_) (fun c29 hr=>?_)
  .refine rn tk 2 rfl<|ug rfl rfl rfl<|wn tk rfl rfl rfl<|rn tk 4 rfl ?_;cases hr;exact jn _ rfl rfl rfl
  refine rn tk 7 rfl ?_;cases hr;exact jn _ rfl rfl rfl
 refine ac 58 hr rfl (fun c30 hr=>?_) (fun c30 hr=>?_)
 .refine rn tk 7 rfl ?_;cases hr;exact kr tk (.inr rfl) rfl rfl
 refine rn tk 3 rfl<|jb hr (fun j31=>[(1,.ptr 1 0),(76,.bo j31)]) (fun j31=>[(1,.cells [.s a0.Name,.i a0.Size,.i a0.Many,.i a0.Phase,.bo a0.Greeted,.bo a0.Mailing,.s a0.From,.l zca.pc a0.To,.l cU a0.Buffer,.l cU a0.Data,.i a0.Lost,.i a0.Dots,.bo a0.Chunked,.i a0.Left,.bo a0.Last,.bo a0.Ignore,.i a0.Count])]) (fun j31 hr=>?_) (fun j31 hr=>?_)
 .refine rn tk 3 rfl<|wn tk rfl rfl rfl<|rn tk 4 rfl<|bs 65 hr rfl (fun c32 hr=>?_) (fun c32 hr=>?_)
  .refine rn tk 12 rfl ?_;cases hr;exact jn _ rfl rfl rfl
  refine rn tk 2 rfl ?_;obtain ⟨v33,h34,hr⟩:=zaa hr;refine ug rfl rfl rfl<|cl (qVa _ _ _ _ h34) rfl rfl<|rn tk 3 rfl<|bs 71 hr rfl (fun c35 hr=>?_) (fun c35 hr=>?_)
  .refine rn tk 6 rfl ?_;cases hr;exact jn _ rfl rfl rfl
  refine rn tk 2 rfl ?_;obtain ⟨v36,h37,hr⟩:=zaa hr;refine ug rfl rfl rfl<|cl (qVa _ _ _ _ h37) rfl rfl<|rn tk 3 rfl ?_;cases hr;exact jn _ rfl rfl rfl
 refine ac 76 hr rfl (fun c38 hr=>?_) (fun c38 hr=>?_)
 .refine rn tk 7 rfl ?_;cases hr;exact kr tk (.inr rfl) rfl rfl
 refine rn tk 3 rfl<|jb hr (fun j39=>[(1,.ptr 1 0),(95,.bo j39)]) (fun j39=>[(1,.cells [.s a0.Name,.i a0.Size,.i a0.Many,.i a0.Phase,.bo a0.Greeted,.bo a0.Mailing,.s a0.From,.l zca.pc a0.To,.l cU a0.Buffer,.l cU a0.Data,.i a0.Lost,.i a0.Dots,.bo a0.Chunked,.i a0.Left,.bo a0.Last,.bo a0.Ignore,.i a0.Count])]) (fun j39 hr=>?_) (fun j39 hr=>?_)
 .refine rn tk 3 rfl<|wn tk rfl rfl rfl<|rn tk 2 rfl<|bs 81 hr rfl (fun c40 hr=>?_) (fun c40 hr=>?_)
  .refine rn tk 10 rfl<|bs 91 hr rfl (fun c41 hr=>?_) (fun c41 hr=>?_)
   .refine rn tk 5 rfl ?_;cases hr;exact jn _ rfl rfl rfl
   refine rn tk 5 rfl ?_;cases hr;exact jn _ rfl rfl rfl
  refine rn tk 5 rfl<|bs 86 hr rfl (fun c42 hr=>?_) (fun c42 hr=>?_)
  .refine rn tk 5 rfl<|bs 91 hr rfl (fun c43 hr=>?_) (fun c43 hr=>?_)
   .refine rn tk 5 rfl ?_;cases hr;exact jn _ rfl rfl rfl
   refine rn tk 5 rfl ?_;cases hr;exact jn _ rfl rfl rfl
  refine rn tk 10 rfl ?_;cases hr;exact jn _ rfl rfl rfl
 refine ac 95 hr rfl (fun c44 hr=>?_) (fun c44 hr=>?_)
 .refine rn tk 7 rfl ?_;cases hr;exact kr tk (.inr rfl) rfl rfl
 refine rn tk 5 rfl ?_;obtain ⟨v45,h46,hr⟩:=zaa hr;refine cl (V3a _ _ h46) rfl rfl<|rn tk 4 rfl ?_;cases hr;exact kr tk (.inr rfl) rfl rfl
theorem qQa(a0:zea)(a1:UInt8)(r:zea)(hr:z6a a0 a1=some r):RunS Tryz.prog 39 [.ptr 90002000 0,.u8 a1] [(90002000,.cells [.s a0.Server.Name,.i a0.Server.Size,.i a0.Server.Many,.i a0.Server.Phase,.bo a0.Server.Greeted,.bo a0.Server.Mailing,.s a0.Server.From,.l zca.pc a0.Server.To,.hs 90002009 0,.hs 90002010 0,.i a0.Server.Lost,.i a0.Server.Dots,.bo a0.Server.Chunked,.i a0.Server.Left,.bo a0.Server.Last,.bo a0.Server.Ignore,.i a0.Server.Count,.hs 90002018 0,.hs 90002019 0]),(90002009,.row 5 false 1 (List.map cU a0.Server.Buffer)),(90002010,.row 5 false 1 (List.map cU a0.Server.Data)),(90002018,.row 28 false 2 (List.map zna.pc a0.replies)),(90002019,.row 56 false 5 (List.map zwa.pc a0.mails))] (.tup []) [(90002000,.cells [.s r.Server.Name,.i r.Server.Size,.i r.Server.Many,.i r.Server.Phase,.bo r.Server.Greeted,.bo r.Server.Mailing,.s r.Server.From,.l zca.pc r.Server.To,.hs 90002009 0,.hs 90002010 0,.i r.Server.Lost,.i r.Server.Dots,.bo r.Server.Chunked,.i r.Server.Left,.bo r.Server.Last,.bo r.Server.Ignore,.i r.Server.Count,.hs 90002018 0,.hs 90002019 0]),(90002009,.row 5 false 1 (List.map cU r.Server.Buffer)),(90002010,.row 5 false 1 (List.map cU r.Server.Data)),(90002018,.row 28 false 2 (List.map zna.pc r.replies)),(90002019,.row 56 false 5 (List.map zwa.pc r.mails))] 90002000 [90002009,90002010,90002018,90002019]:=by
 unfold z6a at hr;refine rfS (fn:=Tryz.f39) (H:=90002999) (.ptr 90002000 0) ⟨Tryz.func39,rfl,by kernel_rfl⟩ rfl (hasT rfl) (.inl ⟨rfl,rfl⟩) rfl rfl rfl rfl fun g0 hg S sg T=>?_
 refine rn tk 1 rfl<|dr 11 [(14,.i a0.Server.Size),(13,.ptr 90002000 1),(12,.ptr 90002000 0),(11,.ptr 90002000 0),(10,.ptr 90002000 0),(9,.i ((a0.Server.Data.length:Int))),(8,.hs 90002010 0),(7,.ptr 90002000 9),(6,.ptr 90002000 0),(5,.ptr 90002000 0),(4,.ptr 90002000 0)] mixed (by kernel_rfl) rfl rfl (pq tk rfl (.plain rfl) (pq tk rfl (.plain rfl) (pq tk rfl (.plain rfl) (pq tk rfl (.plain rfl) (pq tk rfl (.plain rfl) (.run (.plain rfl) (z2a (wUb (F:=cU) rfl rfl zpa.u)) (pq tk rfl (.plain rfl) (pq tk rfl (.plain rfl) (pq tk rfl (.plain rfl) (pq tk rfl (.plain rfl) (pq tk rfl (.plain rfl) .nil))))))))))) rfl<|rn tk 3 rfl<|ac 15 hr rfl (fun c1 hr=>?_) (fun c1 hr=>?_)
 .refine rn tk 8 rfl<|wz cU ([a1]:List UInt8) tk rfl rfl (fun _=>rfl) rfl rfl rfl ?_;obtain ⟨v2,h3,hr⟩:=zaa hr;refine wa tk h3 rfl rfl rfl rfl (fun _=>rfl) rfl rfl<|rn tk 5 rfl ?_;cases hr;exact krS tk (.inl rfl) rfl rfl (zba rfl (zba rfl (zba rfl (zba rfl (zba rfl (zba rfl zga))))))
 refine rn tk 8 rfl<|wq (ev_min rfl rfl) rfl rfl rfl<|rn tk 5 rfl ?_;cases hr;exact krS tk (.inl rfl) rfl rfl (zba rfl (zba rfl (zba rfl (zba rfl (zba rfl (zba rfl zga))))))
theorem str_argN{g:G}{s:Str}{v:Value}(h:Rel g (.s s) v):v=.string (strB s):=z1a h
theorem pow_tab {g : G} (hg : Gl g) : Lib.TabIs Tryz.prog g.w "internal/strconv.uint64pow10" .u64 Lib.pow10Tab := by
 obtain ⟨t,fz,h⟩:=hg.2.1 (1,(Lib.pow10Tab.map fun z=>Value.int .u64 z).toArray) (by simp[globK]);have hn : Tryz.prog.globalNamed "internal/strconv.uint64pow10" = some 1 := by kernel_rfl
 unfold Lib.TabIs World.var?;rw[hn];simp only[Option.bind_some];simp only at h;rw[h]
theorem vFb(g:G)(q:Nat)(os:Array Obj):Old (fun _=>False) g ⟨Go.Sort.grow (g.w.drewN q) os,g.u,g.loc⟩:=by
 have hb:∀k,k < g.w.heap.size->(Go.Sort.grow (g.w.drewN q) os).heap[k]? =g.w.heap[k]? :=by
  intro k hk;show (g.w.heap++os)[k]? =_;rw[Array.getElem?_append_left hk]
 refine ⟨rfl,rfl,rfl,⟨?_,fun _ _=>Nat.le_refl _,fun k i hk hi=>?_,fun r hr=>(hb r (z0a hr)).trans hr⟩,fun k hk _=>⟨hb k hk,rfl⟩⟩
 .show g.w.heap.size<=(g.w.heap++os).size;simp
 simp only[World.cell?];rw[hb k hk]
theorem vEa(n:Int)(r:Str)(hr:z5a n=some r):Run Tryz.prog 92 [.i n] (.s r):=by
 unfold z5a at hr;split at hr
 case isFalse=>cases hr
 rename_i hlen;cases hr;refine ⟨⟨_,_,⟨Tryz.func92,rfl,by kernel_rfl⟩⟩,fun g vs hw hg ha=>?_⟩;obtain ⟨hsz,hrel⟩:=ha;obtain ⟨l⟩:=vs
 match l,hsz with
 | [x],_=>
  have e2:x=.int .i64 n:=z1a (hrel 0 _ rfl);subst e2;refine callsIn_wide.2 ((Tryz.strconv_Itoa n hlen.1 hlen.2 g.w (pow_tab hg)).mono ?_);rintro e w' ⟨rfl,q,os,rfl⟩;exact ⟨⟨Go.Sort.grow (g.w.drewN q) os,g.u,g.loc⟩,_,rfl,rfl,vFb g q os,fun k hk=>hw k (Nat.le_trans (vFb g q os).ext.size hk),rfl,.pv (.b rfl)⟩
theorem Jua(w:World):(callFunc 241 #[]).run Tryz.prog w=.ok (.value (.tuple #[])) w:=run_call_mark0 Tryz.func241 (by kernel_rfl) (by kernel_rfl) (by kernel_rfl) .disable (by kernel_rfl) w
theorem kEb(w:World):(callFunc 243 #[]).run Tryz.prog w=.ok (.value (.tuple #[])) w:=run_call_mark0 Tryz.func243 (by kernel_rfl) (by kernel_rfl) (by kernel_rfl) .enable (by kernel_rfl) w
theorem wyb(a:Addr)(w:World):(callFunc 244 #[.pointer (some a)]).run Tryz.prog w=.ok (.value (.tuple #[])) w:=run_call_marked Tryz.func244 (by kernel_rfl) (by kernel_rfl) (by kernel_rfl) .acquire (by kernel_rfl) a w
theorem Yqa(a:Addr)(w:World):(callFunc 246 #[.pointer (some a)]).run Tryz.prog w=.ok (.value (.tuple #[])) w:=run_call_marked Tryz.func246 (by kernel_rfl) (by kernel_rfl) (by kernel_rfl) .releaseMerge (by kernel_rfl) a w
theorem Vsa(a:Addr)(x:Value)(u:FrameMode)(w:World)(hc:w.cell? a=some x)(hz:w.frozen? a=false):
 CallsD Tryz.prog 217 #[.pointer (some a),.bool true] u w fun e u' w' =>u' =u/\(e=.returned (.tuple #[])/\w' =w.drew.setCell a (.int .u32 1)):=by
 have hc' :w.drew.cell? a=some x:=by go_simp
 have hz' :w.drew.frozen? a=false:=by go_simp
 have hst:=run_call_store (P:=Tryz.prog) Tryz.func232 (by kernel_rfl) (by kernel_rfl) (by kernel_rfl) (by kernel_rfl) (k:=.u32) (y:=1) hc' hz';go_enter_d Tryz.func217,Tryz.ntmps217
 go_wp2
 go_region_calls
 all_goals (go_end0;exact ⟨rfl,rfl⟩)
theorem QLa(a:Addr)(u:FrameMode)(w:World)(hc:w.cell? a=some (.int .i32 1))(hz:w.frozen? a=false):
 CallsD Tryz.prog 216 #[.pointer (some a)] u w fun e u' w' =>u' =u/\(e=.returned (.tuple #[])/\w' =w.setCell a (.int .i32 0)):=by
 have hd:=Jua;have he:=kEb;have hr:=Yqa;have hadd:=run_call_add (P:=Tryz.prog) Tryz.func247 (by kernel_rfl) (by kernel_rfl) (by kernel_rfl) .i32 (by kernel_rfl) (y:= -1) (s:=0) hc hz (by simp[go_sem];rfl);have hcv:=run_convert_to_unsafe (P:=Tryz.prog) (src:=281) (dst:=278) Tryz.underlying281 Tryz.underlying278 (by kernel_rfl) hc;go_enter_d Tryz.func216,Tryz.ntmps216
 go_wp2
 go_end0
 go_wp2
 all_goals (go_end0;all_goals exact ⟨rfl,rfl⟩)
theorem kFb(a:Addr)(w:World)(hc:w.cell? a=some (.int .i32 0))(hz:w.frozen? a=false):
 Calls Tryz.prog 215 #[.pointer (some a)] w fun e w' =>e=.returned (.tuple #[])/\w' =w.setCell a (.int .i32 1):=by
 have hd:=Jua;have he:=kEb;have ha:=wyb;have hcas:=run_call_cas_hit (P:=Tryz.prog) Tryz.func242 (by kernel_rfl) (by kernel_rfl) (by kernel_rfl) .i32 (by kernel_rfl) (y:=1) hc hz;have hc' :(w.setCell a (.int .i32 1)).cell? a=some (.int .i32 1):=World.cell?_setCell_same w a _ hc;have hcv:=run_convert_to_unsafe (P:=Tryz.prog) (src:=281) (dst:=278) Tryz.underlying281 Tryz.underlying278 (by kernel_rfl) hc';go_enter Tryz.func215,Tryz.ntmps215
 go_wp2
 first | go_end0 | (simp only[Exit.inBlock,Exit.then];refine bodyPost_ret (results_none rfl _ _ _) rfl ?_) | refine bodyPost_ret (results_none rfl _ _ _) rfl ?_
 go_wp2
 all_goals (go_end0;all_goals exact ⟨rfl,rfl⟩)
section
open Go.Shelf Go.RowKit Go.Lib
def kpa:Array Value:=((List.range 256).map fun k:Nat=>Value.int .u8 (if k=0∨k=13 then 32 else (k:Int))).toArray
def wfa(i:Nat):Array Value:=((List.range 256).map fun k:Nat=>Value.int .u8 (if k < i then (k:Int) else 0)).toArray
structure RpLaid (P:Program):Prop where
 mixed:P.follows Departure.mixedOrders=true
 f:P.funcs[198]? =some Tryz.f198
 t3:P.underlying 3=some (.int .i64)
 a3:∀w:World,(isAgg 3).run P w=.ok false w
 z3:∀w:World,(Go.sizeOf 3).run P w=.ok 1 w
 v3:∀w:World,(zeroValue 3).run P w=.ok (.int .i64 0) w
 t4:P.underlying 4=some .bool
 a4:∀w:World,(isAgg 4).run P w=.ok false w
 z4:∀w:World,(Go.sizeOf 4).run P w=.ok 1 w
 v4:∀w:World,(zeroValue 4).run P w=.ok (.bool false) w
 t5:P.underlying 5=some (.int .u8)
 a5:∀w:World,(isAgg 5).run P w=.ok false w
 z5:∀w:World,(Go.sizeOf 5).run P w=.ok 1 w
 v5:∀w:World,(zeroValue 5).run P w=.ok (.int .u8 0) w
 t9:P.underlying 9=some .string
 a9:∀w:World,(isAgg 9).run P w=.ok false w
 z9:∀w:World,(Go.sizeOf 9).run P w=.ok 1 w
 v9:∀w:World,(zeroValue 9).run P w=.ok (.string ⟨#[]⟩) w
 t91:P.underlying 26=some (.slice 9)
 a91:∀w:World,(isAgg 26).run P w=.ok false w
 z91:∀w:World,(Go.sizeOf 26).run P w=.ok 1 w
 v91:∀w:World,(zeroValue 26).run P w=.ok (.slice none 0 0) w
 t222:P.underlying 240=some (.array 256 5)
 t170 : P.underlying 190 = some (.struct #[{ name := "once", type := 186, offset := 0, embedded := false, tag := "", pkgPath := "strings", byteOffset := 0 }, { name := "r", type := 188, offset := 3, embedded := false, tag := "", pkgPath := "strings", byteOffset := 16 }, { name := "oldnew", type := 26, offset := 4, embedded := false, tag := "", pkgPath := "strings", byteOffset := 32 }])
 z166:∀w:World,(Go.sizeOf 186).run P w=.ok 3 w
 z168:∀w:World,(Go.sizeOf 188).run P w=.ok 1 w
 hv222:∀w:World,(zeroValue 240).run P w=.ok (.agg (wfa 0)) w
 c223:P.concrete 241=true
 z222:∀w:World,(Go.sizeOf 240).run P w=.ok 256 w
 hi222:(P.info? 240).map (·.size)=some 256
theorem rp_laid:RpLaid Tryz.prog where
 mixed:=by kernel_rfl
 f:=Tryz.func198
 t3:=Tryz.underlying3
 a3:=Tryz.isAgg3
 z3:=Tryz.sizeOf3
 v3:=Tryz.zeroValue3
 t4:=Tryz.underlying4
 a4:=Tryz.isAgg4
 z4:=Tryz.sizeOf4
 v4:=Tryz.zeroValue4
 t5:=Tryz.underlying5
 a5:=Tryz.isAgg5
 z5:=Tryz.sizeOf5
 v5:=Tryz.zeroValue5
 t9:=Tryz.underlying9
 a9:=Tryz.isAgg9
 z9:=Tryz.sizeOf9
 v9:=Tryz.zeroValue9
 t91:=Tryz.underlying26
 a91:=Tryz.isAgg26
 z91:=Tryz.sizeOf26
 v91:=Tryz.zeroValue26
 t222:=Tryz.underlying240
 t170:=Tryz.underlying190
 z166:=Tryz.sizeOf186
 z168:=Tryz.sizeOf188
 hv222:=fun w=>(Tryz.zeroValue240 w).trans (by kernel_rfl)
 c223:=by kernel_rfl
 z222:=Tryz.sizeOf240
 hi222:=by kernel_rfl
theorem Jva(i k:Nat)(h:k < 256):(wfa i)[k]? =some (.int .u8 (if k < i then (k:Int) else 0)):=by
 unfold wfa;simp only[List.getElem?_toArray,List.getElem?_map,List.getElem?_range h,Option.map_some]
theorem qRb(i:Nat)(h:i < 256):(wfa i).setIfInBounds i (.int .u8 (i:Int))=wfa (i+1):=by
 apply Array.ext_getElem?;intro k;rw[Array.getElem?_setIfInBounds];unfold wfa;simp only[List.getElem?_toArray,List.getElem?_map,List.size_toArray,List.length_map,List.length_range];by_cases hk:i=k
 .subst hk;rw[if_pos rfl,if_pos h,List.getElem?_range h];simp
 rw[if_neg hk];by_cases h2:k < 256
 .rw[List.getElem?_range h2];simp only[Option.map_some];have:(k < i)↔(k < i+1):=by omega
  simp only[this]
 rw[List.getElem?_eq_none (by simp;omega)];rfl
def vGb:Array Value:=(wfa 256).setIfInBounds 13 (.int .u8 32)
theorem wzb:vGb.setIfInBounds 0 (.int .u8 32)=kpa:=by kernel_rfl
theorem rp_build{P:Program}(L:RpLaid P)(b d o c:Nat)(w:World)(hr:w.cell? ⟨b,4,none⟩=some (.slice (some ⟨d,o,none⟩) 4 c))(hd:d < w.heap.size)(h0:w.cell? ⟨d,o,none⟩=some (.string ⟨#[0]⟩))(h1:w.cell? ⟨d,o+1,none⟩=some (.string ⟨#[32]⟩))(h2:w.cell? ⟨d,o+2,none⟩=some (.string ⟨#[13]⟩))(h3:w.cell? ⟨d,o+3,none⟩=some (.string ⟨#[32]⟩)):
 Calls P 198 #[.pointer (some ⟨b,0,none⟩)] w fun e w' =>e=.returned (.iface 241 (.pointer (some ⟨w.heap.size,0,none⟩)))/\w' =w.alloc (.cells kpa 240):=by
 have t3:=L.t3;have a3:=L.a3;have z3:=L.z3;have v3:=L.v3;have t4:=L.t4;have a4:=L.a4;have z4:=L.z4;have v4:=L.v4;have t5:=L.t5;have a5:=L.a5;have z5:=L.z5;have v5:=L.v5;have t9:=L.t9;have a9:=L.a9;have z9:=L.z9;have v9:=L.v9;have t91:=L.t91;have a91:=L.a91;have z91:=L.z91;have v91:=L.v91;have t170:=L.t170;have z166:=L.z166;have z168:=L.z168;have hv222:=L.hv222;have u222:=run_underlying L.t222;have t222:=L.t222;have u170:=run_underlying L.t170;have u91:=run_underlying L.t91;have u9:=run_underlying L.t9;have u5:=run_underlying L.t5;have u3:=run_underlying L.t3;have u4:=run_underlying L.t4;have hmk:∀(x:Value) (w:World),(Instr.makeInterface 241 x).run P w=.ok (.iface 241 x) w:=fun x w=>run_makeInterface w _ x L.c223
 go_enter L.f,Tryz.ntmps198
 go_wp2
 go_loopg [4,5] 2 (fun g v4 v5 wx=>v4=.bool true/\wx=w/\((g=2/\v5=.int .i64 0)∨(g=1/\v5=.int .i64 2)∨(g=0/\v5=.int .i64 4)))
 case atStart=>exact ⟨rfl,rfl,.inl ⟨rfl,rfl⟩⟩
 case round=>
  obtain ⟨rfl,rfl,hg⟩:=hrel;rcases hg with ⟨rfl,rfl⟩ | ⟨rfl,rfl⟩ | ⟨rfl,rfl⟩
  .go_wp2
   go_roundg 1
   case measure=>omega
   case rel=>exact ⟨rfl,rfl,.inr (.inl ⟨rfl,rfl⟩)⟩
  .go_wp2
   go_roundg 0
   case measure=>omega
   case rel=>exact ⟨rfl,rfl,.inr (.inr ⟨rfl,rfl⟩)⟩
  have hsz:(wfa 0).size=256:=by simp[wfa]
  have hsc:=run_storeCells_new (P:=P) wr 240 (wfa 0) (wfa 0) (by rw[hsz];exact L.hi222) rfl (by decide+kernel);go_wp2
  simp only[L.z222,Result.andThen,↓reduceIte,hsc];rw[Oper.upon_skip];go_wp2
  have k0:∀A:Array Value,(wr.alloc (.cells A 240)).cell? ⟨d,o,none⟩=some (.string ⟨#[0]⟩):=fun A=>by rw[World.cell?_alloc_past _ _ _ hd];exact h0
  have k1:∀A:Array Value,(wr.alloc (.cells A 240)).cell? ⟨d,o+1,none⟩=some (.string ⟨#[32]⟩):=fun A=>by rw[World.cell?_alloc_past _ _ _ hd];exact h1
  have k2:∀A:Array Value,(wr.alloc (.cells A 240)).cell? ⟨d,o+2,none⟩=some (.string ⟨#[13]⟩):=fun A=>by rw[World.cell?_alloc_past _ _ _ hd];exact h2
  have k3:∀A:Array Value,(wr.alloc (.cells A 240)).cell? ⟨d,o+3,none⟩=some (.string ⟨#[32]⟩):=fun A=>by rw[World.cell?_alloc_past _ _ _ hd];exact h3
  go_loopg [61] 256 (fun g v61 wx=>∃i:Nat,i+g=256/\v61=.int .i64 i/\wx=wr.alloc (.cells (wfa i) 240))
  case atStart=>exact ⟨0,rfl,rfl,rfl⟩
  case round=>
   obtain ⟨i,hig,rfl,rfl⟩:=hrel;cases gk with
   | zero=>
    obtain rfl:i=256:=by omega
    have c13:=Jva 256 13 (by omega);have m0:vGb[0]? =some (.int .u8 0):=by kernel_rfl
    have hm1:(wfa 256).setIfInBounds 13 (.int .u8 32)=vGb:=rfl;have hm2:=wzb;go_wp2
    go_loopg [8] 2 (fun g v8 wx=>(g=2/\v8=.int .i64 2/\wx=wr.alloc (.cells (wfa 256) 240))∨(g=1/\v8=.int .i64 0/\wx=wr.alloc (.cells vGb 240))∨(g=0/\v8=.int .i64 (-2)/\wx=wr.alloc (.cells kpa 240)))
    case atStart=>exact .inl ⟨rfl,rfl,rfl⟩
    case round=>
     rcases hrel with ⟨rfl,rfl,rfl⟩ | ⟨rfl,rfl,rfl⟩ | ⟨rfl,rfl,rfl⟩
     .go_wp2
      go_roundg 1
      case measure=>omega
      case rel=>exact .inr (.inl ⟨rfl,rfl,by first | rfl | rw[hm1]⟩)
     .go_wp2
      go_roundg 0
      case measure=>omega
      case rel=>exact .inr (.inr ⟨rfl,rfl,by first | rfl | rw[hm2]⟩)
     go_wp2
     go_ret
     exact ⟨rfl,rfl⟩
   | succ g=>
    have hi:(i:Int) < 256:=by omega
    have hset:=qRb i (by omega);have hcell:=Jva i i (by omega);go_wp2
    go_roundg g
    case measure=>omega
    case rel=>exact ⟨i+1,by omega,by first | rfl | simp,by first | rfl | rw[hset]⟩
end
section
open Go.Shelf Go.RowKit Go.Lib
abbrev bI(A:Nat):Value:=.iface 241 (.pointer (some ⟨A,0,none⟩))
theorem q7a{b i j:Nat}(h:i≠j):(⟨b,i,none⟩:Addr)≠⟨b,j,none⟩:=fun e=>h (by cases e;rfl)
theorem Jwa{b c i j:Nat}(h:b≠c):(⟨b,i,none⟩:Addr)≠⟨c,j,none⟩:=fun e=>h (by cases e;rfl)
structure wAb (w:World) (b d o c:Nat):Prop where
 hb:b < w.heap.size
 hd:d < w.heap.size
 ne:b≠d
 c0:w.cell? ⟨b,0,none⟩=some (.int .u32 0)
 c1:w.cell? ⟨b,1,none⟩=some (.int .i32 0)
 c3:w.cell? ⟨b,3,none⟩=some .nilIface
 c4:w.cell? ⟨b,4,none⟩=some (.slice (some ⟨d,o,none⟩) 4 c)
 fz:∀i,w.frozen? ⟨b,i,none⟩=false
 s0:w.cell? ⟨d,o,none⟩=some (.string ⟨#[0]⟩)
 s1:w.cell? ⟨d,o+1,none⟩=some (.string ⟨#[32]⟩)
 s2:w.cell? ⟨d,o+2,none⟩=some (.string ⟨#[13]⟩)
 s3:w.cell? ⟨d,o+3,none⟩=some (.string ⟨#[32]⟩)
theorem rp_once(b d o c:Nat)(w:World)(hb:b < w.heap.size)(hd:d < w.heap.size)(c3:w.cell? ⟨b,3,none⟩=some .nilIface)(c4:w.cell? ⟨b,4,none⟩=some (.slice (some ⟨d,o,none⟩) 4 c))(fz:∀i,w.frozen? ⟨b,i,none⟩=false)
 (s0:w.cell? ⟨d,o,none⟩=some (.string ⟨#[0]⟩)) (s1:w.cell? ⟨d,o+1,none⟩=some (.string ⟨#[32]⟩)) (s2:w.cell? ⟨d,o+2,none⟩=some (.string ⟨#[13]⟩)) (s3:w.cell? ⟨d,o+3,none⟩=some (.string ⟨#[32]⟩)):
 Calls Tryz.prog 179 #[.pointer (some ⟨b,0,none⟩)] w fun e w' =>e=.returned (.tuple #[])/\
  w' =((w.setCell ⟨b,3,none⟩ (bI w.heap.size)).setCell ⟨b,4,none⟩ (.slice none 0 0)).alloc (.cells kpa 240):=by
 have a3:(w.alloc (.cells kpa 240)).cell? ⟨b,3,none⟩=some .nilIface:=by rw[World.cell?_alloc_past _ _ _ hb];exact c3
 have z3:(w.alloc (.cells kpa 240)).frozen? ⟨b,3,none⟩=false:=by rw[World.frozen?_alloc_past _ _ _ hb];exact fz 3
 have a4:((w.alloc (.cells kpa 240)).setCell ⟨b,3,none⟩ (bI w.heap.size)).cell? ⟨b,4,none⟩=some (.slice (some ⟨d,o,none⟩) 4 c):=by rw[World.cell?_setCell_other _ _ _ _ (q7a (by decide)),World.cell?_alloc_past _ _ _ hb];exact c4
 have z4:((w.alloc (.cells kpa 240)).setCell ⟨b,3,none⟩ (bI w.heap.size)).frozen? ⟨b,4,none⟩=false:=by
  have:=fz 4;have h2:(w.alloc (.cells kpa 240)).frozen? ⟨b,4,none⟩=false:=by rw[World.frozen?_alloc_past _ _ _ hb];exact this
  simp[h2]
 go_enter Tryz.func179,Tryz.ntmps179
 go_wp2_with (go_at_call 198;refine (rp_build rp_laid b d o c _ c4 hd s0 s1 s2 s3).mono ?_;rintro e w' ⟨rfl,rfl⟩)
 go_end0
 exact ⟨rfl,rfl⟩
theorem vHb(a:Addr)(w:World)(h:w.cell? a=some (.int .u32 0)):Calls Tryz.prog 196 #[.pointer (some a)] w fun e w' =>e=.returned (.bool false)/\w' =w:=by
 have hl:=run_call_load (P:=Tryz.prog) Tryz.func214 (by kernel_rfl) (by kernel_rfl) (by kernel_rfl) .u32 (by kernel_rfl) h;go_enter Tryz.func196,Tryz.ntmps196
 go_wp2
 go_ret
 exact ⟨rfl,rfl⟩
theorem rp_load1(a:Addr)(w:World)(h:w.cell? a=some (.int .u32 1)):Calls Tryz.prog 196 #[.pointer (some a)] w fun e w' =>e=.returned (.bool true)/\w' =w:=by
 have hl:=run_call_load (P:=Tryz.prog) Tryz.func214 (by kernel_rfl) (by kernel_rfl) (by kernel_rfl) .u32 (by kernel_rfl) h;go_enter Tryz.func196,Tryz.ntmps196
 go_wp2
 go_ret
 exact ⟨rfl,rfl⟩
def ranW(b:Nat)(w:World):World:=(((((w.setCell ⟨b,1,none⟩ (.int .i32 1)).setCell ⟨b,3,none⟩ (bI w.heap.size)).setCell ⟨b,4,none⟩ (.slice none 0 0)).alloc (.cells kpa 240)).drew.setCell ⟨b,0,none⟩ (.int .u32 1)).setCell ⟨b,1,none⟩ (.int .i32 0)
theorem rp_slow(b d o c:Nat)(w:World)(F:wAb w b d o c):
 Calls Tryz.prog 197 #[.pointer (some ⟨b,0,none⟩),.func (.func 179) #[.pointer (some ⟨b,0,none⟩)] #[]] w fun e w' =>e=.returned (.tuple #[])/\w' =ranW b w:=by
 have hw1:(w.setCell ⟨b,1,none⟩ (.int .i32 1)).heap.size=w.heap.size:=by simp
 have hl:(w.setCell ⟨b,1,none⟩ (.int .i32 1)).cell? ⟨b,0,none⟩=some (.int .u32 0):=(World.cell?_setCell_other _ ⟨b,1,none⟩ ⟨b,0,none⟩ _ (by simp)).trans F.c0;have ho:Calls Tryz.prog 179 #[.pointer (some ⟨b,0,none⟩)] (w.setCell ⟨b,1,none⟩ (.int .i32 1)) fun e w' =>e=.returned (.tuple #[])/\
  w' =(((w.setCell ⟨b,1,none⟩ (.int .i32 1)).setCell ⟨b,3,none⟩ (bI w.heap.size)).setCell ⟨b,4,none⟩ (.slice none 0 0)).alloc (.cells kpa 240):=by
  have h:=rp_once b d o c (w.setCell ⟨b,1,none⟩ (.int .i32 1)) (by rw[hw1];exact F.hb) (by rw[hw1];exact F.hd) ((World.cell?_setCell_other _ _ _ _ (q7a (by decide))).trans F.c3) ((World.cell?_setCell_other _ _ _ _ (q7a (by decide))).trans F.c4) (fun i=>by have:=F.fz i;simp[this])
   ((World.cell?_setCell_other _ _ _ _ (Jwa F.ne)).trans F.s0) ((World.cell?_setCell_other _ _ _ _ (Jwa F.ne)).trans F.s1) ((World.cell?_setCell_other _ _ _ _ (Jwa F.ne)).trans F.s2) ((World.cell?_setCell_other _ _ _ _ (Jwa F.ne)).trans F.s3)
  rw[hw1]at h;exact h
 have hnot:∀(x:Bool) (w:World),(Op.unary .not (.bool x)).run Tryz.prog w=.ok (.bool (!x)) w:=fun _ _=>rfl
 have h1:=F.c1;have f1:=F.fz 1;go_enter_defers Tryz.func197,Tryz.ntmps197
 go_wp2_with (first | (go_at_call 215;refine (kFb ⟨b,1,none⟩ _ (by go_simp) (by go_simp)).mono ?_;rintro e w' ⟨rfl,rfl⟩) | (go_at_call 196;refine (vHb ⟨b,0,none⟩ _ hl).mono ?_;rintro e w' ⟨rfl,rfl⟩) | (go_at_call 179;refine ho.mono ?_;rintro e w' ⟨rfl,rfl⟩))
 go_wp2
 have hA0:((((w.setCell ⟨b,1,none⟩ (.int .i32 1)).setCell ⟨b,3,none⟩ (bI w.heap.size)).setCell ⟨b,4,none⟩ (.slice none 0 0)).alloc (.cells kpa 240)).cell? ⟨b,0,none⟩=some (.int .u32 0):=by
  rw[World.cell?_alloc_past _ _ _ (by simp;exact F.hb),World.cell?_setCell_other _ _ _ _ (q7a (by decide)),World.cell?_setCell_other _ _ _ _ (q7a (by decide)),World.cell?_setCell_other _ _ _ _ (q7a (by decide))];exact F.c0
 have hA1:((((w.setCell ⟨b,1,none⟩ (.int .i32 1)).setCell ⟨b,3,none⟩ (bI w.heap.size)).setCell ⟨b,4,none⟩ (.slice none 0 0)).alloc (.cells kpa 240)).cell? ⟨b,1,none⟩=some (.int .i32 1):=by
  rw[World.cell?_alloc_past _ _ _ (by simp;exact F.hb),World.cell?_setCell_other _ _ _ _ (q7a (by decide)),World.cell?_setCell_other _ _ _ _ (q7a (by decide))];exact World.cell?_setCell_same w _ _ h1
 have hZ:∀i,((((w.setCell ⟨b,1,none⟩ (.int .i32 1)).setCell ⟨b,3,none⟩ (bI w.heap.size)).setCell ⟨b,4,none⟩ (.slice none 0 0)).alloc (.cells kpa 240)).frozen? ⟨b,i,none⟩=false:=fun i=>by
  have:=F.fz i;rw[World.frozen?_alloc_past _ _ _ (by simp;exact F.hb)];simp[this]
 refine leaves_cons (f:=217) (args:= #[.pointer (some ⟨b,0,none⟩),.bool true]) (by simp) (by simp[go_sem])<|(Vsa ⟨b,0,none⟩ (.int .u32 0) .returning _ hA0 (hZ 0)).mono ?_;rintro e u' w'' ⟨rfl,rfl,rfl⟩;refine leaves_cons (f:=216) (args:= #[.pointer (some ⟨b,1,none⟩)]) (by simp[settle]) (by simp[go_sem])<|(QLa ⟨b,1,none⟩ _ _ ?_ ?_).mono ?_
 .rw[World.cell?_setCell_other _ _ _ _ (q7a (by decide)),World.cell?_drew];exact hA1
 .have:=hZ 1;simp at this ⊢;exact this
 rintro e u' w'' ⟨rfl,rfl,rfl⟩;simp[Leaves,settle,results,Tryz.results197,ranW]
end
section
open Go.Shelf Go.RowKit Go.Lib
theorem qSb(b d o c:Nat)(w:World)(F:wAb w b d o c):
 Calls Tryz.prog 178 #[.pointer (some ⟨b,0,none⟩),.func (.func 179) #[.pointer (some ⟨b,0,none⟩)] #[]] w fun e w' =>e=.returned (.tuple #[])/\w' =ranW b w:=by
 have hnot:∀(x:Bool) (w:World),(Op.unary .not (.bool x)).run Tryz.prog w=.ok (.bool (!x)) w:=fun _ _=>rfl
 go_enter Tryz.func178,Tryz.ntmps178
 go_wp2_with (first | (go_at_call 196;refine (vHb ⟨b,0,none⟩ _ F.c0).mono ?_;rintro e w' ⟨rfl,rfl⟩) | (go_at_call 197;refine (rp_slow b d o c _ F).mono ?_;rintro e w' ⟨rfl,rfl⟩))
 go_end0
 exact ⟨rfl,rfl⟩
theorem wBb(b:Nat)(fv:Value)(w:World)(h:w.cell? ⟨b,0,none⟩=some (.int .u32 1)):
 Calls Tryz.prog 178 #[.pointer (some ⟨b,0,none⟩),fv] w fun e w' =>e=.returned (.tuple #[])/\w' =w:=by
 have hnot:∀(x:Bool) (w:World),(Op.unary .not (.bool x)).run Tryz.prog w=.ok (.bool (!x)) w:=fun _ _=>rfl
 go_enter Tryz.func178,Tryz.ntmps178
 go_wp2_with (go_at_call 196;refine (rp_load1 ⟨b,0,none⟩ _ h).mono ?_;rintro e w' ⟨rfl,rfl⟩)
 go_end0
 exact ⟨rfl,rfl⟩
def mixL(L:List UInt8)(i:Nat):List UInt8:=(L.take i).map kna++L.drop i
theorem mix_zero(L:List UInt8):mixL L 0=L:=by simp[mixL]
theorem jJb(L:List UInt8):mixL L L.length=L.map kna:=by simp[mixL]
theorem qTb(L:List UInt8)(i:Nat):(mixL L i).length=L.length:=by simp[mixL];omega
theorem jKb{L:List UInt8}{i:Nat}{x:UInt8}(h:L[i]? =some x):(mixL L i)[i]? =some x:=by
 have hi:=(List.getElem?_eq_some_iff.1 h).1;unfold mixL;rw[List.getElem?_append_right (by simp;omega)];simp only[List.length_map,List.length_take,List.getElem?_drop];rw[show i+(i - min i L.length)=i by omega];exact h
theorem zCb{L:List UInt8}{i:Nat}{x:UInt8}(h:L[i]? =some x):mixL L (i+1)=(mixL L i).set i (kna x):=by
 have hi:=(List.getElem?_eq_some_iff.1 h).1;have hx:=(List.getElem?_eq_some_iff.1 h).2;unfold mixL;rw[List.set_append_right _ _ (by simp;omega)];simp only[List.length_map,List.length_take];rw[show i - min i L.length=0 by omega,List.take_add_one,h,List.drop_eq_getElem_cons hi,hx];simp
theorem vIb{L:List UInt8}{i:Nat}{x:UInt8}(h:L[i]? =some x)(hc:kna x=x):mixL L (i+1)=mixL L i:=by
 rw[zCb h,hc];apply List.ext_getElem?;intro j;rw[List.getElem?_set];by_cases e:i=j
 .subst e;rw[if_pos rfl,if_pos (by rw[qTb];exact (List.getElem?_eq_some_iff.1 h).1),jKb h]
 rw[if_neg e]
theorem Jxa{x:UInt8}(h:((kna x).toNat:Int)=(x.toNat:Int)):kna x=x:=UInt8.toNat_inj.1 (by omega)
def Vta(C:Array Value)(l:List UInt8):Prop:=∀(j:Nat) x,l[j]? =some x->C[j]? =some (.int .u8 (x.toNat:Int))
theorem kGb{C:Array Value}{l:List UInt8}{i:Nat}{y:UInt8}(h:Vta C l)(hi:i < l.length):Vta (C.setIfInBounds i (.int .u8 (y.toNat:Int))) (l.set i y):=by
 intro j x hx;have hC:=h i _ (List.getElem?_eq_getElem hi);have hsz:=(Array.getElem?_eq_some_iff.1 hC).1;rw[List.getElem?_set]at hx;rw[Array.getElem?_setIfInBounds];by_cases e:i=j
 .subst e;rw[if_pos rfl,if_pos hi]at hx;cases hx;rw[if_pos rfl,if_pos hsz]
 rw[if_neg e]at hx ⊢;exact h j x hx
theorem qUb(s:ByteArray)(cap:Nat):Vta (bytesRow s cap) s.data.toList:=by
 intro j x hx;have hj:=(List.getElem?_eq_some_iff.1 hx).1;unfold bytesRow;rw[Array.getElem?_append_left (by simpa using hj)];simp only[Array.getElem?_map];rw[show s.data[j]? =some x by simpa using hx];rfl
theorem VPa(w:World)(C:Array Value)(t:TypeId)(fz:Nat × Nat)(i:Nat)(v:Value):(w.alloc (.cells C t fz)).setCell ⟨w.heap.size,i,none⟩ v=w.alloc (.cells (C.setIfInBounds i v) t fz):=by
 unfold World.setCell World.alloc
 congr 1
 apply Array.ext_getElem?;intro k;simp only[Array.getElem?_modify,Array.getElem?_push];by_cases hk:k=w.heap.size
 .subst hk;simp
 simp[hk,Ne.symm hk]
theorem vJb(A:Nat)(s:ByteArray)(w:World)(hlen:s.size<=4611686018427387904)(hA:A < w.heap.size)(ht:∀x:UInt8,w.cell? ⟨A,x.toNat,none⟩=some (.int .u8 ((kna x).toNat:Int))):
 Calls Tryz.prog 282 #[.pointer (some ⟨A,0,none⟩),.string s] w fun e w' =>e=.returned (.string ⟨(s.data.toList.map kna).toArray⟩)/\(w' =w∨∃C fz,w' =(w.alloc (.cells C 5 fz)).drew):=by
 have HT:Aside (∀x:UInt8,w.cell? ⟨A,x.toNat,none⟩=some (.int .u8 ((kna x).toNat:Int))):=ht;clear ht;have HT2:Aside (∀(x:UInt8) (C:Array Value) (fz:Nat × Nat),(w.alloc (.cells C 5 fz)).cell? ⟨A,x.toNat,none⟩=some (.int .u8 ((kna x).toNat:Int))):=fun x C fz=>by
  rw[World.cell?_alloc_past _ _ _ hA];exact HT.out x
 have hcv:(convert 9 23 (.string s)).run Tryz.prog w=.ok (.slice (some ⟨w.heap.size,0,none⟩) s.size (grownCap w s.size 0 5))
  (w.alloc (.cells (bytesRow s (grownCap w s.size 0 5)) 5 ((bytesRow s (grownCap w s.size 0 5)).size,(bytesRow s (grownCap w s.size 0 5)).size+1))).drew:=run_bytes_of_string (P:=Tryz.prog) w 9 23 5 s Tryz.underlying9 Tryz.underlying23 Tryz.underlying5
 have hn1:∀w:World,(binOp .eql 23 (.slice none 0 0) (.slice none 0 0)).run Tryz.prog w=.ok (.bool true) w:=fun w=>by
  simp only[binOp];simp[run_equal_slice_nil w 23 5 none 0 0 Tryz.underlying23]
 have hn2:∀(a:Addr) (l c:Nat) (w:World),(binOp .eql 23 (.slice (some a) l c) (.slice none 0 0)).run Tryz.prog w=.ok (.bool false) w:=fun a l c w=>by
  simp only[binOp];simp[run_equal_slice_nil w 23 5 (some a) l c Tryz.underlying23]
 have hL:Lib.Kept (s.data.toList.length=s.size):=rfl;go_enter Tryz.func282,Tryz.ntmps282
 go_wp2
 go_loopg [5,6] s.size (fun g v5 v6 wx=>∃i:Nat,i+g=s.size/\v6=.int .i64 i/\((v5=.slice none 0 0/\wx=w/\Lib.Kept (mixL s.data.toList i=s.data.toList))∨∃C cap lo hi,v5=.slice (some ⟨w.heap.size,0,none⟩) s.size cap/\wx=(w.alloc (.cells C 5 (lo,hi))).drew/\Lib.Kept (lo=C.size)/\Lib.Kept (Vta C (mixL s.data.toList i))))
 case atStart=>exact ⟨0,by omega,rfl,.inl ⟨rfl,rfl,mix_zero _⟩⟩
 case round=>
  obtain ⟨i,hig,rfl,hrel⟩:=hrel;cases gk with
  | zero=>
   obtain rfl:i=s.size:=by omega
   have hiz:¬((s.size:Int) < (s.size:Int)):=by omega
   rcases hrel with ⟨rfl,rfl,hk⟩ | ⟨C,cap,lo,hi,rfl,rfl,hz,hrow⟩
   .go_wp2
    go_ret
    refine ⟨?_,.inl rfl⟩;have hk' :mixL s.data.toList s.size=s.data.toList:=hk;rw[show s.size=s.data.toList.length from rfl,jJb]at hk';rw[hk'];show Ending.returned (Value.string s)=Ending.returned (Value.string ⟨s.data.toList.toArray⟩);simp
   have hback:=run_convert_bytes_back (P:=Tryz.prog) ((w.alloc (.cells C 5 (lo,hi))).drew) 23 9 5 ⟨w.heap.size,0,none⟩ cap (s.data.toList.map kna) Tryz.underlying23 Tryz.underlying5 Tryz.underlying9 (fun j hj=>by
    have hr:Vta C (mixL s.data.toList s.size):=hrow;rw[show s.size=s.data.toList.length from rfl,jJb]at hr;have:=hr j _ (List.getElem?_eq_getElem hj);rw[show (⟨w.heap.size,0,none⟩:Addr).add j=⟨w.heap.size,j,none⟩ by unfold Addr.add;split <;> simp_all];rw[World.cell?_drew,World.cell?_alloc_mark];exact this)
   rw[show (s.data.toList.map kna).length=s.size by simp]at hback;clear hrow hz;go_wp2
   go_ret
   first | exact ⟨rfl,.inr ⟨C,(lo,hi),rfl⟩⟩ | exact ⟨rfl,.inr ⟨C,lo,hi,rfl⟩⟩
  | succ g=>
   have hi:i < s.size:=by omega
   have hiz:(i:Int) < (s.size:Int):=by omega
   obtain ⟨x,hx⟩:∃x:UInt8,s[i]'hi=x:=⟨_,rfl⟩;have hxl:Lib.Kept (s.data.toList[i]? =some x):=by rw[<-hx];exact Lib.data_getElem? s i hi
   have hx256:(x.toNat:Int) < 256:=by have:=UInt8.toNat_lt x;omega
   have hwr:wrap64 ((i:Int)+1)=((i:Int)+1):=by unfold wrap64;omega
   rcases hrel with ⟨rfl,rfl,hk⟩ | ⟨C,cap,lo,hi2,rfl,rfl,hz,hrow⟩
   .have hcell:=HT.out x;by_cases hcl:((kna x).toNat:Int)=(x.toNat:Int)
    .go_wp2
     go_roundg g
     case measure=>omega
     case rel=>exact ⟨i+1,by omega,by first | rfl | simp,.inl ⟨rfl,rfl,(vIb hxl (Jxa hcl)).trans hk⟩⟩
    have hrow:Lib.Kept (Vta (bytesRow s (grownCap wr s.size 0 5)) (mixL s.data.toList i)):=by
     have hk' :mixL s.data.toList i=s.data.toList:=hk;rw[hk'];exact qUb s _
    generalize bytesRow s (grownCap wr s.size 0 5)=B at hcv hrow;have hBi:B[i]? =some (.int .u8 (x.toNat:Int)):=by
     have hr:Vta B (mixL s.data.toList i):=hrow;exact hr i x (jKb hxl)
    have hBs:i < B.size:=(Array.getElem?_eq_some_iff.1 hBi).1;have hc2:=HT2.out x B (B.size,B.size+1);have hc1:(wr.alloc (.cells B 5 (B.size,B.size+1))).cell? ⟨wr.heap.size,i,none⟩=some (.int .u8 (x.toNat:Int)):=(World.cell?_alloc_mark wr B 5 _ i).trans hBi;have hf1:(wr.alloc (.cells B 5 (B.size,B.size+1))).frozen? ⟨wr.heap.size,i,none⟩=false:=(World.frozen?_alloc_mark wr B 5 _ _ i).trans (by rw[decide_eq_false (by omega)];rfl);have hs1:=VPa wr B 5 (B.size,B.size+1) i (.int .u8 ((kna x).toNat:Int));have HB:Lib.Kept (B[i]? =some (.int .u8 (x.toNat:Int))):=hBi;clear hBi hBs hk;go_wp2
    go_roundg g
    case measure=>omega
    case rel=>
     refine ⟨i+1,by omega,by first | rfl | simp,.inr ⟨_,_,_,_,rfl,by first | rfl | exact congrArg World.drew hs1,?_,?_⟩⟩
     .show B.size=(B.setIfInBounds i _).size;simp
     have hr:Vta B (mixL s.data.toList i):=hrow;show Vta _ (mixL s.data.toList (i+1));rw[zCb hxl];exact kGb hr (by rw[qTb];exact hi)
   have hBi:C[i]? =some (.int .u8 (x.toNat:Int)):=by
    have hr:Vta C (mixL s.data.toList i):=hrow;exact hr i x (jKb hxl)
   have hBs:i < C.size:=(Array.getElem?_eq_some_iff.1 hBi).1;have hz' :lo=C.size:=hz;have hc2:=HT2.out x C (lo,hi2);have hc1:(w.alloc (.cells C 5 (lo,hi2))).cell? ⟨w.heap.size,i,none⟩=some (.int .u8 (x.toNat:Int)):=(World.cell?_alloc_mark w C 5 _ i).trans hBi;have hf1:(w.alloc (.cells C 5 (lo,hi2))).frozen? ⟨w.heap.size,i,none⟩=false:=(World.frozen?_alloc_mark w C 5 _ _ i).trans (by rw[decide_eq_false (by omega)];rfl);have hs1:=VPa w C 5 (lo,hi2) i (.int .u8 ((kna x).toNat:Int));clear hBi hBs hz';by_cases hcl:((kna x).toNat:Int)=(x.toNat:Int)
   .go_wp2
    go_roundg g
    case measure=>omega
    case rel=>
     refine ⟨i+1,by omega,by first | rfl | simp,.inr ⟨C,cap,lo,hi2,rfl,rfl,hz,?_⟩⟩;show Vta C (mixL s.data.toList (i+1));rw[vIb hxl (Jxa hcl)];exact hrow
   go_wp2
   go_roundg g
   case measure=>omega
   case rel=>
    refine ⟨i+1,by omega,by first | rfl | simp,.inr ⟨_,_,_,_,rfl,by first | rfl | exact congrArg World.drew hs1,?_,?_⟩⟩
    .show lo=(C.setIfInBounds i _).size;rw[Array.size_setIfInBounds];exact hz
    have hr:Vta C (mixL s.data.toList i):=hrow;show Vta _ (mixL s.data.toList (i+1));rw[zCb hxl];exact kGb hr (by rw[qTb];exact hi)
end
section
open Go.Shelf Go.RowKit Go.Lib
structure Built (w:World) (b A:Nat):Prop where
 hb:b < w.heap.size
 hA:A < w.heap.size
 c0:w.cell? ⟨b,0,none⟩=some (.int .u32 1)
 c3:w.cell? ⟨b,3,none⟩=some (bI A)
 tab:∀x:UInt8,w.cell? ⟨A,x.toNat,none⟩=some (.int .u8 ((kna x).toNat:Int))
def ranT(T:Array Value)(b:Nat)(w:World):World:=(((((w.setCell ⟨b,1,none⟩ (.int .i32 1)).setCell ⟨b,3,none⟩ (bI w.heap.size)).setCell ⟨b,4,none⟩ (.slice none 0 0)).alloc (.cells T 240)).drew.setCell ⟨b,0,none⟩ (.int .u32 1)).setCell ⟨b,1,none⟩ (.int .i32 0)
theorem kHb(b:Nat)(w:World):ranW b w=ranT kpa b w:=rfl
theorem same0{w:World}{a:Addr}{v v0:Value}(h:w.cell? a=some v0):(w.setCell a v).cell? a=some v:=World.cell?_setCell_same w a v h
theorem Jya{b:Nat}{w:World}(T:Array Value)(hb:b < w.heap.size)(c0:w.cell? ⟨b,0,none⟩=some (.int .u32 0))(c3:w.cell? ⟨b,3,none⟩=some .nilIface):
 (ranT T b w).heap.size=w.heap.size+1/\(ranT T b w).cell? ⟨b,0,none⟩=some (.int .u32 1)/\(ranT T b w).cell? ⟨b,3,none⟩=some (bI w.heap.size)/\∀k,(ranT T b w).cell? ⟨w.heap.size,k,none⟩=T[k]? :=by
 have hne:b≠w.heap.size:=by omega
 refine ⟨by unfold ranT;simp,?_,?_,fun k=>?_⟩
 .unfold ranT;rw[World.cell?_setCell_other _ _ _ _ (q7a (by decide))];refine same0 (v0:=.int .u32 0) ?_;rw[World.cell?_drew,World.cell?_alloc_past _ _ _ (by simp;exact hb),World.cell?_setCell_other _ _ _ _ (q7a (by decide)),World.cell?_setCell_other _ _ _ _ (q7a (by decide)),World.cell?_setCell_other _ _ _ _ (q7a (by decide))];exact c0
 .unfold ranT;rw[World.cell?_setCell_other _ _ _ _ (q7a (by decide)),World.cell?_setCell_other _ _ _ _ (q7a (by decide)),World.cell?_drew,World.cell?_alloc_past _ _ _ (by simp;exact hb),World.cell?_setCell_other _ _ _ _ (q7a (by decide))];refine same0 (v0:=.nilIface) ?_;rw[World.cell?_setCell_other _ _ _ _ (q7a (by decide))];exact c3
 unfold ranT;rw[World.cell?_setCell_other _ _ _ _ (Jwa hne),World.cell?_setCell_other _ _ _ _ (Jwa hne),World.cell?_drew];exact World.cell?_alloc_at T _ _ k (by simp)
theorem tab_at(x:UInt8):kpa[x.toNat]? =some (.int .u8 ((kna x).toNat:Int)):=by
 have hx:=UInt8.toNat_lt x;unfold kpa;simp only[List.getElem?_toArray,List.getElem?_map,List.getElem?_range hx,Option.map_some]
 congr 2
 unfold kna;by_cases h:x=0∨x=13
 .rw[if_pos h,if_pos (by rcases h with rfl | rfl <;> decide)];rfl
 rw[if_neg h,if_neg (fun h2=>h (h2.imp (fun e=>UInt8.toNat_inj.1 e) (fun e=>UInt8.toNat_inj.1 e)))]
theorem kIb{b d o c:Nat}{w:World}(F:wAb w b d o c):Built (ranW b w) b w.heap.size:=by
 obtain ⟨h1,h2,h3,h4⟩:=Jya kpa F.hb F.c0 F.c3;have hb:=F.hb;rw[kHb];exact ⟨by omega,by omega,h2,h3,fun x=>(h4 _).trans (tab_at x)⟩
theorem kJb (n : Nat) (a : Addr) (w : World) : (method (n + 1) 241 (.pointer (some a)) "Replace").run Tryz.prog w = .ok (282, .pointer (some a)) w := by kernel_rfl
theorem V4a(b A:Nat)(s:ByteArray)(w:World)(hlen:s.size<=4611686018427387904)(B:Built w b A):
 Calls Tryz.prog 154 #[.pointer (some ⟨b,0,none⟩),.string s] w fun e w' =>e=.returned (.string ⟨(s.data.toList.map kna).toArray⟩)/\(w' =w∨∃C fz,w' =(w.alloc (.cells C 5 fz)).drew):=by
 have hmf:∀(fn:Fn) (first cap:Array Value) (w:World),(Instr.makeFunc fn first cap).run Tryz.prog w=.ok (.func fn first cap) w:=fun _ _ _ _=>rfl
 have hme:=kJb;have hc3:=B.c3;go_enter Tryz.func154,Tryz.ntmps154
 go_wp2_with (first | (go_at_call 178;refine (wBb b _ _ B.c0).mono ?_;rintro e w' ⟨rfl,rfl⟩) | (go_at_call 282;refine (vJb A s _ hlen B.hA B.tab).mono ?_;rintro e w' ⟨rfl,hw'⟩))
 go_ret
 exact ⟨rfl,hw'⟩
theorem V5a(b d o c:Nat)(s:ByteArray)(w:World)(hlen:s.size<=4611686018427387904)(F:wAb w b d o c):
 Calls Tryz.prog 154 #[.pointer (some ⟨b,0,none⟩),.string s] w fun e w' =>e=.returned (.string ⟨(s.data.toList.map kna).toArray⟩)/\(w' =ranW b w∨∃C fz,w' =((ranW b w).alloc (.cells C 5 fz)).drew):=by
 have hmf:∀(fn:Fn) (first cap:Array Value) (w:World),(Instr.makeFunc fn first cap).run Tryz.prog w=.ok (.func fn first cap) w:=fun _ _ _ _=>rfl
 have hme:=kJb;have B:=kIb F;have hc3:=B.c3;go_enter Tryz.func154,Tryz.ntmps154
 go_wp2_with (first | (go_at_call 178;refine (qSb b d o c _ F).mono ?_;rintro e w' ⟨rfl,rfl⟩) | (go_at_call 282;refine (vJb _ s _ hlen B.hA B.tab).mono ?_;rintro e w' ⟨rfl,hw'⟩))
 go_ret
 exact ⟨rfl,hw'⟩
end
def RpQ(w:World)(u:Nat->Nat)(vs:Array Value):Prop:=
 (vs[0]? =some (.int .u32 0)/\vs[1]? =some (.int .i32 0)/\vs[3]? =some .nilIface/\∃d o c,vs[4]? =some (.slice (some ⟨d,o,none⟩) 4 c)/\d < w.heap.size/\o+4<=u d/\
  w.cell? ⟨d,o,none⟩=some (.string ⟨#[0]⟩)/\w.cell? ⟨d,o+1,none⟩=some (.string ⟨#[32]⟩)/\w.cell? ⟨d,o+2,none⟩=some (.string ⟨#[13]⟩)/\w.cell? ⟨d,o+3,none⟩=some (.string ⟨#[32]⟩))∨
 (vs[0]? =some (.int .u32 1)/\∃A,vs[3]? =some (bI A)/\A < w.heap.size/\256<=u A/\∀x:UInt8,w.cell? ⟨A,x.toNat,none⟩=some (.int .u8 ((kna x).toNat:Int)))
theorem RpQ.mono{w w' :World}{u u' :Nat->Nat}{vs:Array Value}(hx:Ext0 w u w' u')(h:RpQ w u vs):RpQ w' u' vs:=by
 rcases h with ⟨h0,h1,h3,d,o,c,h4,hd,hu,s0,s1,s2,s3⟩ | ⟨h0,A,h3,hA,hu,ht⟩
 .refine .inl ⟨h0,h1,h3,d,o,c,h4,Nat.lt_of_lt_of_le hd hx.size,Nat.le_trans hu (hx.pub d hd),?_,?_,?_,?_⟩
  .rw[hx.cell d _ hd (by omega)];exact s0
  .rw[hx.cell d _ hd (by omega)];exact s1
  .rw[hx.cell d _ hd (by omega)];exact s2
  rw[hx.cell d _ hd (by omega)];exact s3
 refine .inr ⟨h0,A,h3,Nat.lt_of_lt_of_le hA hx.size,Nat.le_trans hu (hx.pub A hA),fun x=>?_⟩;rw[hx.cell A _ hA (by have:=UInt8.toNat_lt x;omega)];exact ht x
theorem Ksa{w:World}{b:Nat}{vs:Array Value}{t:TypeId}{fz:Nat × Nat}(h:w.heap[b]? =some (.cells vs t fz))(c i:Nat)(v:Value):∃vs',(w.setCell ⟨c,i,none⟩ v).heap[b]? =some (.cells vs' t fz)/\vs'.size=vs.size:=by
 unfold World.setCell;simp only[Array.getElem?_modify,h];by_cases e:c=b
 .subst e;exact ⟨vs.setIfInBounds i v,by simp,by simp⟩
 exact ⟨vs,by simp[e],rfl⟩
theorem yZa{w:World}{b c:Nat}(h:c≠b)(i:Nat)(v:Value):(w.setCell ⟨c,i,none⟩ v).heap[b]? =w.heap[b]? :=by
 unfold World.setCell;simp only[Array.getElem?_modify];simp[h]
theorem jLb(T:Array Value){b k:Nat}{w:World}(hk:k < w.heap.size)(hne:b≠k):(ranT T b w).heap[k]? =w.heap[k]? :=by
 unfold ranT;rw[yZa hne,yZa hne];show (World.alloc _ _).heap[k]? =_;rw[Below.heap_alloc _ _ _ (by simpa using hk),yZa hne,yZa hne,yZa hne]
theorem ranT_own(T:Array Value){b:Nat}{w:World}{vs:Array Value}{t:TypeId}{fz:Nat × Nat}(hb:w.heap[b]? =some (.cells vs t fz)):∃vs',(ranT T b w).heap[b]? =some (.cells vs' t fz)/\vs'.size=vs.size:=by
 have hlt:=z0a hb;unfold ranT;obtain ⟨v1,h1,n1⟩:=Ksa hb b 1 (.int .i32 1);obtain ⟨v2,h2,n2⟩:=Ksa h1 b 3 (bI w.heap.size);obtain ⟨v3,h3,n3⟩:=Ksa h2 b 4 (.slice none 0 0);have h4:(((((w.setCell ⟨b,1,none⟩ (.int .i32 1)).setCell ⟨b,3,none⟩ (bI w.heap.size)).setCell ⟨b,4,none⟩ (.slice none 0 0)).alloc (.cells T 240)).drew).heap[b]? =some (.cells v3 t fz):=by
  show (World.alloc _ _).heap[b]? =_;rw[Below.heap_alloc _ _ _ (by simpa using hlt)];exact h3
 obtain ⟨v5,h5,n5⟩:=Ksa h4 b 0 (.int .u32 1);obtain ⟨v6,h6,n6⟩:=Ksa h5 b 1 (.int .i32 0);exact ⟨v6,h6,by omega⟩
structure RpG (g:G) (b:Nat) (t:TypeId) (g' :G):Prop where
 loc:g'.loc=g.loc
 old:Old (fun k=>k=b) g g'
 wf:Wf g'
 u0:g'.u b=0
 own:∃vs,g'.w.heap[b]? =some (.cells vs t (0,0))/\vs.size=5/\RpQ g'.w g'.u vs
theorem RpG.refl{g:G}{b:Nat}{t:TypeId}{vs:Array Value}(hb:g.w.heap[b]? =some (.cells vs t (0,0)))(hn:vs.size=5)(hu:g.u b=0)(hw:Wf g)(hq:RpQ g.w g.u vs):RpG g b t g:=
 ⟨rfl,Old.refl _ _,hw,hu,vs,hb,hn,hq⟩
theorem RpG.tail{g g1:G}{b:Nat}{t:TypeId}(h:RpG g b t g1)(C:Array Value)(e:TypeId)(fz:Nat × Nat):RpG g b t ⟨(g1.w.alloc (.cells C e fz)).drew,fun k=>if k=g1.w.heap.size then 0 else g1.u k,g1.loc⟩:=by
 obtain ⟨hl,ho,hw,hu,vs,hb,hn,hq⟩:=h;have hlt:=z0a hb;have hz:∀k,k < g1.w.heap.size->((g1.w.alloc (.cells C e fz)).drew).heap[k]? =g1.w.heap[k]? :=fun k hk=>Below.heap_alloc _ _ _ hk
 have hx:Ext g1.w g1.u (g1.w.alloc (.cells C e fz)).drew (fun k=>if k=g1.w.heap.size then 0 else g1.u k):=⟨by simp,fun k hk=>by
  show g1.u k<=if k=g1.w.heap.size then 0 else g1.u k;rw[if_neg (by omega)];exact Nat.le_refl _,fun k i hk _=>by
  simp only[World.cell?];rw[hz k hk],fun r hr=>(hz r (z0a hr)).trans hr⟩
 refine ⟨hl,ho.trans ⟨rfl,rfl,rfl,hx,fun k hk _=>⟨hz k hk,by show (if k=g1.w.heap.size then 0 else g1.u k)=_;rw[if_neg (by omega)]⟩⟩,fun k hk=>?_,?_,vs,(hz b hlt).trans hb,hn,hq.mono hx.to0⟩
 .have hk:g1.w.heap.size+1<=k:=by simpa using hk
  show (if k=g1.w.heap.size then 0 else g1.u k)=0;rw[if_neg (by omega)];exact hw k (by omega)
 show (if b=g1.w.heap.size then 0 else g1.u b)=0;rw[hu];exact ite_self 0
theorem RpG.ran{g:G}{b d o c:Nat}{t:TypeId}{vs:Array Value}(hb:g.w.heap[b]? =some (.cells vs t (0,0)))(hn:vs.size=5)(hu:g.u b=0)(hw:Wf g)(F:wAb g.w b d o c):
 RpG g b t ⟨ranW b g.w,fun k=>if k=g.w.heap.size then 256 else g.u k,g.loc⟩:=by
 have hlt:=z0a hb;have B:=kIb F;obtain ⟨hsz,f0,f3,ft⟩:=Jya kpa F.hb F.c0 F.c3;rw[<-kHb]at hsz f0 f3 ft;obtain ⟨vs',hb',hn'⟩:=ranT_own kpa hb;rw[<-kHb]at hb';have hz:∀k,k < g.w.heap.size->k≠b->(ranW b g.w).heap[k]? =g.w.heap[k]? :=fun k hk hne=>by rw[kHb];exact jLb kpa hk (Ne.symm hne)
 have hos:(ranW b g.w).os=g.w.os/\(ranW b g.w).tape=g.w.tape/\(ranW b g.w).output=g.w.output:=by
  rw[kHb];generalize kpa=T;exact ⟨rfl,rfl,rfl⟩
 have huk:∀k,k < g.w.heap.size->(if k=g.w.heap.size then 256 else g.u k)=g.u k:=fun k hk=>if_neg (by omega)
 have hbu:(if b=g.w.heap.size then 256 else g.u b)=0:=(huk b hlt).trans hu;have hcell:∀i,i < 5->(ranW b g.w).cell? ⟨b,i,none⟩=vs'[i]? :=fun i hi=>by
  simp[World.cell?,hb']
 refine ⟨rfl,⟨hos.1,hos.2.1,hos.2.2,⟨by show g.w.heap.size<=(ranW b g.w).heap.size;omega,fun k hk=>Nat.le_of_eq (huk k hk).symm,fun k i hk hi=>?_,fun r hr=>?_⟩,fun k hk hne=>⟨hz k hk hne,huk k hk⟩⟩,fun k hk=>?_,hbu,vs',hb',hn'.trans hn,.inr ⟨(hcell 0 (by omega)).symm.trans f0,g.w.heap.size,(hcell 3 (by omega)).symm.trans f3,by show g.w.heap.size < (ranW b g.w).heap.size;omega,Nat.le_of_eq (if_pos rfl).symm,B.tab⟩⟩
 .have hne:k≠b:=by rintro rfl;omega
  simp only[World.cell?];rw[hz k hk hne]
 .have hne:r≠b:=by rintro rfl;rw[hb]at hr;cases hr
  exact (hz r (z0a hr) hne).trans hr
 have hk:(ranW b g.w).heap.size<=k:=hk;show (if k=g.w.heap.size then 256 else g.u k)=0;rw[if_neg (by omega)];exact hw k (by omega)
theorem rp_step{g:G}{b:Nat}{t:TypeId}{vs:Array Value}(s:ByteArray)(hlen:s.size<=4611686018427387904)(hb:g.w.heap[b]? =some (.cells vs t (0,0)))(hn:vs.size=5)(hu:g.u b=0)(hw:Wf g)(hq:RpQ g.w g.u vs):
 Calls Tryz.prog 154 #[.pointer (some ⟨b,0,none⟩),.string s] g.w fun e w' =>e=.returned (.string ⟨(s.data.toList.map kna).toArray⟩)/\∃g',g'.w=w' /\RpG g b t g' :=by
 have hlt:=z0a hb;have hcell:∀i,g.w.cell? ⟨b,i,none⟩=vs[i]? :=fun i=>by simp[World.cell?,hb]
 rcases hq with ⟨h0,h1,h3,d,o,c,h4,hd,hud,s0,s1,s2,s3⟩ | ⟨h0,A,h3,hA,huA,ht⟩
 .have F:wAb g.w b d o c:=⟨hlt,hd,by rintro rfl;omega,(hcell 0).trans h0,(hcell 1).trans h1,(hcell 3).trans h3,(hcell 4).trans h4,fun i=>by simp[World.frozen?,hb],s0,s1,s2,s3⟩;refine (V5a b d o c s g.w hlen F).mono ?_;rintro e w' ⟨rfl,rfl | ⟨C,fz,rfl⟩⟩
  .exact ⟨rfl,_,rfl,RpG.ran hb hn hu hw F⟩
  exact ⟨rfl,_,rfl,(RpG.ran hb hn hu hw F).tail C _ fz⟩
 refine (V4a b A s g.w hlen ⟨hlt,hA,(hcell 0).trans h0,(hcell 3).trans h3,ht⟩).mono ?_;rintro e w' ⟨rfl,rfl | ⟨C,fz,rfl⟩⟩
 .exact ⟨rfl,g,rfl,RpG.refl hb hn hu hw (.inr ⟨h0,A,h3,hA,huA,ht⟩)⟩
 exact ⟨rfl,_,rfl,(RpG.refl hb hn hu hw (.inr ⟨h0,A,h3,hA,huA,ht⟩)).tail C _ fz⟩
theorem yta(O:Nat)(s:Str)(r:Str)(hr:zVa s=some r):RunS Tryz.prog 154 [.ptr O 0,.s s] [(O,.opq 0 5 RpQ)] (.s r) [(O,.opq 0 5 RpQ)] O []:=by
 unfold zVa at hr;split at hr
 case isFalse=>cases hr
 rename_i hlen;cases hr;refine ⟨⟨_,_,⟨Tryz.func154,rfl,by kernel_rfl⟩⟩,by simp[Sto.okS,AO.okS],by simp[Sto.okS,AO.okS],fun g vs hw hg ho ha=>?_⟩;obtain ⟨hsz,hrel⟩:=ha;obtain ⟨vl⟩:=vs
 match vl,hsz with
 | [x,y],_=>
  have hx:=hrel 0 _ rfl;have hy:y=.string (strB s):=z1a (hrel 1 _ rfl);subst hy;have hO:=ho.obj O _ (show Sto.get [(O,AO.opq 0 5 RpQ)] O=some (.opq 0 5 RpQ) by simp[Sto.get]);have hget:∀o ob,Sto.get [(O,AO.opq 0 5 RpQ)] o=some ob->o=O/\ob=.opq 0 5 RpQ:=fun o ob h=>by
   rw[Sto.get_cons]at h;split at h
   .rename_i e;exact ⟨e.symm,(Option.some.inj h).symm⟩
   cases h
  cases hO with
  | @opq t t1 n Q b vs' hl hb hn hu hq=>
   have hx' :x=.pointer (some ⟨b,0,none⟩):=by
    cases hx with
    | ptr hl2=>rw[hl]at hl2;cases hl2;rfl
   subst hx';refine callsIn_wide.2 ((rp_step (strB s) (by rw[zBa];exact hlen) hb hn hu hw (hq _ _ ⟨Nat.le_refl _,fun _ _=>Nat.le_refl _,fun _ _ _ _=>rfl⟩)).mono ?_);rintro e w' ⟨rfl,g',rfl,G'⟩;obtain ⟨hl',hold,hwf,hu',vs2,hb2,hn2,hq2⟩:=G';have hsb:SB g [(O,AO.opq 0 5 RpQ)] b:=⟨O,.opq 0 5 RpQ,by simp[Sto.get],by rw[hl];rfl⟩;refine ⟨g',_,rfl,fun k _=>by rw[hl'],hold.mono fun k _ e=>e▸hsb,hwf,rfl,?_,?_,?_,?_⟩
   .have:(strB s).data.toList.map kna=s.map kna:=by simp[strB]
    rw[this];exact .pv (.b rfl)
   .intro o ob h;obtain ⟨rfl,rfl⟩:=hget o ob h;exact .opq (by rw[hl'];exact hl) hb2 hn2 hu' fun w' u' hx' =>hq2.mono hx'
   .intro o o' ob ob' b' h1 h2 _ _;rw[(hget o ob h1).1,(hget o' ob' h2).1]
   intro o ob b' h1 h2;obtain ⟨rfl,rfl⟩:=hget o ob h1;rw[hl',hl]at h2;cases h2;exact .inr hsb
section
open Go.Shelf Go.RowKit Go.Lib
theorem kKb(d o c:Nat)(w:World)(s0:w.cell? ⟨d,o,none⟩=some (.string ⟨#[0]⟩))(s1:w.cell? ⟨d,o+1,none⟩=some (.string ⟨#[32]⟩))(s2:w.cell? ⟨d,o+2,none⟩=some (.string ⟨#[13]⟩))(s3:w.cell? ⟨d,o+3,none⟩=some (.string ⟨#[32]⟩)):
 Calls Tryz.prog 152 #[.slice (some ⟨d,o,none⟩) 4 c] w fun e w' =>∃(cap:Nat) (z:Array Value),e=.returned (.pointer (some ⟨w.heap.size+1,0,none⟩))/\
  w' =((w.alloc (.cells (#[Value.string ⟨#[0]⟩,.string ⟨#[32]⟩,.string ⟨#[13]⟩,.string ⟨#[32]⟩]++z) 9)).alloc (.cells #[.int .u32 0,.int .i32 0,.int .u32 0,.nilIface,.slice (some ⟨w.heap.size,0,none⟩) 4 cap] 190)).drew:=by
 go_enter Tryz.func152,Tryz.ntmps152
 go_wp2
 go_ret
 exact ⟨_,_,rfl,rfl⟩
theorem wCb{g:G}{v:Value}(h:Rel g (.l cS [[0],[32],[13],[32]]) v):∃d o c,v=.slice (some ⟨d,o,none⟩) 4 c/\g.w.cell? ⟨d,o,none⟩=some (.string ⟨#[0]⟩)/\g.w.cell? ⟨d,o+1,none⟩=some (.string ⟨#[32]⟩)/\g.w.cell? ⟨d,o+2,none⟩=some (.string ⟨#[13]⟩)/\g.w.cell? ⟨d,o+3,none⟩=some (.string ⟨#[32]⟩):=by
 cases h with
 | pv h=>
  unfold pL at h;generalize hE:List.map cS [[0],[32],[13],[32]]=elems at h;cases h with
  | @sl _ _ a cap size b off val hn h0 hc hz ha hu hcell h=>
   have hne:elems≠ []:=by rw[<-hE];simp
   have hs1:size=1:=by
    have:=hz (cS [0]) (by rw[<-hE];simp);simpa[cS]using this.symm
   subst hs1;have hlen:elems.length=4:=by rw[<-hE];rfl
   have key:∀(i:Nat) (s:Str),elems[i]? =some (cS s)->g.w.cell? ⟨b,off+i,none⟩=some (.string (strB s)):=fun i s hi=>by
    have hil:=(List.getElem?_eq_some_iff.1 hi).1;rw[hcell i (by omega)];have:=h i 0 _ (.b (.string (strB s))) hi rfl;simp only[Nat.mul_one,Nat.add_zero]at this;rw[z1a (g:=g) (.pv this)]
   refine ⟨b,off,cap,by rw[ha hne,hlen],key 0 [0] (by rw[<-hE];rfl),key 1 [32] (by rw[<-hE];rfl),key 2 [13] (by rw[<-hE];rfl),key 3 [32] (by rw[<-hE];rfl)⟩
theorem Zja(k:Nat):RunS Tryz.prog 152 [.l cS [[0],[32],[13],[32]]] [] (.ptr k 0) [(k,.opq 0 5 RpQ)] k [k]:=by
 refine ⟨⟨_,_,⟨Tryz.func152,rfl,by kernel_rfl⟩⟩,by simp[Sto.okS],by simp[Sto.okS,AO.okS],fun g vs hw hg ho ha=>?_⟩;obtain ⟨hsz,hrel⟩:=ha;obtain ⟨vl⟩:=vs
 match vl,hsz with
 | [x],_=>
  obtain ⟨d,o,c,hx,s0,s1,s2,s3⟩:=wCb (hrel 0 _ rfl);have hx:x=.slice (some ⟨d,o,none⟩) 4 c:=hx;subst hx;refine callsIn_wide.2 ((kKb d o c g.w s0 s1 s2 s3).mono ?_);rintro e w' ⟨cap,z,rfl,rfl⟩;generalize hC: #[Value.string ⟨#[0]⟩,.string ⟨#[32]⟩,.string ⟨#[13]⟩,.string ⟨#[32]⟩]++z=C;generalize hV: #[Value.int .u32 0,.int .i32 0,.int .u32 0,.nilIface,.slice (some ⟨g.w.heap.size,0,none⟩) 4 cap]=V;have hz:∀q,q < g.w.heap.size->(((g.w.alloc (.cells C 9)).alloc (.cells V 190)).drew).heap[q]? =g.w.heap[q]? :=fun q hq=>by
   show (World.alloc _ _).heap[q]? =_;rw[Below.heap_alloc _ _ _ (by simp;omega),Below.heap_alloc _ _ _ hq]
  have h1:(((g.w.alloc (.cells C 9)).alloc (.cells V 190)).drew).heap[g.w.heap.size]? =some (.cells C 9 (0,0)):=by
   show (World.alloc _ _).heap[_]? =_;rw[Below.heap_alloc _ _ _ (by simp)];exact heap_alloc_new g.w _
  have h2:(((g.w.alloc (.cells C 9)).alloc (.cells V 190)).drew).heap[g.w.heap.size+1]? =some (.cells V 190 (0,0)):=by
   show (World.alloc _ _).heap[_]? =_;have:=heap_alloc_new (g.w.alloc (.cells C 9)) (.cells V 190);simpa using this
  have hsize:(((g.w.alloc (.cells C 9)).alloc (.cells V 190)).drew).heap.size=g.w.heap.size+2:=by simp
  generalize hW:((g.w.alloc (.cells C 9)).alloc (.cells V 190)).drew=W at hz h1 h2 hsize;have hos:W.os=g.w.os/\W.tape=g.w.tape/\W.output=g.w.output:=by subst hW;exact ⟨rfl,rfl,rfl⟩
  have hcell:∀i,W.cell? ⟨g.w.heap.size,i,none⟩=C[i]? :=fun i=>by simp[World.cell?,h1]
  have hget:∀o ob,Sto.get [(k,AO.opq 0 5 RpQ)] o=some ob->o=k/\ob=.opq 0 5 RpQ:=fun o ob h=>by
   rw[Sto.get_cons]at h;split at h
   .rename_i e;exact ⟨e.symm,(Option.some.inj h).symm⟩
   cases h
  have hq:RpQ W (fun q=>if q=g.w.heap.size then 4 else if q=g.w.heap.size+1 then 0 else g.u q) V:=by
   subst hV hC;refine .inl ⟨rfl,rfl,rfl,g.w.heap.size,0,cap,rfl,by omega,Nat.le_of_eq (if_pos rfl).symm,?_,?_,?_,?_⟩;all_goals (rw[hcell,Array.getElem?_append_left (by simp)];rfl)
  have huk:∀q,q < g.w.heap.size->(if q=g.w.heap.size then 4 else if q=g.w.heap.size+1 then 0 else g.u q)=g.u q:=fun q hq=>by rw[if_neg (by omega),if_neg (by omega)]
  refine ⟨⟨W,fun q=>if q=g.w.heap.size then 4 else if q=g.w.heap.size+1 then 0 else g.u q,fun q=>if q=k then .blk (g.w.heap.size+1) else g.loc q⟩,_,rfl,fun q hq=>if_neg (by simpa using hq),
   ⟨hos.1,hos.2.1,hos.2.2,⟨by show g.w.heap.size<=W.heap.size;omega,fun q hq=>Nat.le_of_eq (huk q hq).symm,fun q i hq _=>by simp only[World.cell?];rw[hz q hq],fun r hr=>(hz r (z0a hr)).trans hr⟩,fun q hq _=>⟨hz q hq,huk q hq⟩⟩,fun q hq=>?_,rfl,.ptr (if_pos rfl),?_,?_,?_⟩
  .have hq:W.heap.size<=q:=hq;show (if q=g.w.heap.size then 4 else if q=g.w.heap.size+1 then 0 else g.u q)=0;rw[if_neg (by omega),if_neg (by omega)];exact hw q (by omega)
  .intro o ob h;obtain ⟨rfl,rfl⟩:=hget o ob h;refine .opq (if_pos rfl) h2 (by subst hV;rfl) ?_ fun w' u' hx' =>hq.mono hx'
   show (if g.w.heap.size+1=g.w.heap.size then 4 else if g.w.heap.size+1=g.w.heap.size+1 then 0 else g.u _)=0;rw[if_neg (by omega),if_pos rfl]
  .intro o o' ob ob' b' h1 h2 _ _;rw[(hget o ob h1).1,(hget o' ob' h2).1]
  intro o ob b' h1 h2;obtain ⟨rfl,rfl⟩:=hget o ob h1;have h2:AO.blk (.opq 0 5 RpQ) (if o=o then .blk (g.w.heap.size+1) else g.loc o)=some b' :=h2;rw[if_pos rfl]at h2;cases h2;exact .inl (by omega)
end
theorem kLb{g:G}{s:Str}{v:Value}(h:Rel g (.s s) v):v=.string (strB s):=z1a h
theorem qVb{g:G}{w' :World}(h:Below g.w.heap.size g.w w'):Old (fun _=>False) g ⟨w',g.u,g.loc⟩:=
 ⟨h.os,h.tape,h.output,⟨h.size,fun _ _=>Nat.le_refl _,fun k i hk _=>by simp only[World.cell?];rw[h.block k hk],fun r hr=>(h.block r (z0a hr)).trans hr⟩,fun k hk _=>⟨h.block k hk,rfl⟩⟩
theorem V6a(s t:Str)(r:Str)(hr:w4a s t=some r):Run Tryz.prog 153 [.s s,.s t] (.s r):=by
 unfold w4a at hr;split at hr
 case isFalse=>cases hr
 rename_i hc;obtain ⟨h1,h2,h3⟩:=hc;cases hr;refine ⟨⟨_,_,⟨Tryz.func153,rfl,by kernel_rfl⟩⟩,fun g vs hw hg ha=>?_⟩;obtain ⟨hsz,hrel⟩:=ha;obtain ⟨l⟩:=vs
 match l,hsz with
 | [x,y],_=>
  obtain rfl:=kLb (hrel 0 _ rfl);obtain rfl:=kLb (hrel 1 _ rfl);have h116:(Tryz.prog.info? 193).map (fun i=>(i.zero,i.size))=some (some (.agg (Array.replicate 256 (.bool false))),256):=by kernel_rfl
  refine callsIn_wide.2 ((Any.strings_Trim_laid Tryz.lays160 h116 (strB s) (strB t) g.w (by rw[zBa];exact h1) (by rw[zBa];exact h2) (ascii_of_all (by simpa[vfb,strB]using h3))).mono ?_);rintro e w' ⟨rfl,hb⟩;refine ⟨⟨w',g.u,g.loc⟩,_,rfl,(by intros;rfl),qVb hb,fun k hk=>hw k (Nat.le_trans hb.size hk),rfl,?_⟩;rw[show (strB s).data.toList=s by simp[strB],show (strB t).data.toList=t by simp[strB]];exact .pv (.b rfl)
theorem q8a(a0:UInt8)(r:Bool)(hr:qBa a0=some r):Run Tryz.prog 139 [.u8 a0] (.bo r):=by
 unfold qBa at hr;refine rf (fn:=Tryz.f139) ⟨Tryz.func139,rfl,by kernel_rfl⟩ rfl (fun _=>rfl) fun g0 hg=>?_
 refine rn tk 5 rfl<|jb hr (fun j1=>[(2,.bo j1)]) (fun j1=>[]) (fun j1 hr=>?_) (fun j1 hr=>?_)
 .refine rn tk 4 rfl<|bs 5 hr rfl (fun c2 hr=>?_) (fun c2 hr=>?_)
  .refine rn tk 5 rfl ?_;cases hr;exact jn _ rfl rfl rfl
  refine rn tk 5 rfl ?_;cases hr;exact jn _ rfl rfl rfl
 refine rn tk 1 rfl ?_;cases hr;exact kr tk (.inr rfl) rfl rfl
theorem kMb{g:G}{s:Str}{v:Value}(h:Rel g (.s s) v):v=.string (strB s):=z1a h
theorem qWb{g:G}{w' :World}(h:Below g.w.heap.size g.w w'):Old (fun _=>False) g ⟨w',g.u,g.loc⟩:=
 ⟨h.os,h.tape,h.output,⟨h.size,fun _ _=>Nat.le_refl _,fun k i hk _=>by simp only[World.cell?];rw[h.block k hk],fun r hr=>(h.block r (z0a hr)).trans hr⟩,fun k hk _=>⟨h.block k hk,rfl⟩⟩
theorem Z4a(s t:Str)(r:Str)(hr:qqa s t=some r):Run Tryz.prog 169 [.s s,.s t] (.s r):=by
 unfold qqa at hr;split at hr
 case isFalse=>cases hr
 rename_i hc;obtain ⟨h1,h2,h3⟩:=hc;cases hr;refine ⟨⟨_,_,⟨Tryz.func169,rfl,by kernel_rfl⟩⟩,fun g vs hw hg ha=>?_⟩;obtain ⟨hsz,hrel⟩:=ha;obtain ⟨l⟩:=vs
 match l,hsz with
 | [x,y],_=>
  obtain rfl:=kMb (hrel 0 _ rfl);obtain rfl:=kMb (hrel 1 _ rfl);have h116:(Tryz.prog.info? 193).map (fun i=>(i.zero,i.size))=some (some (.agg (Array.replicate 256 (.bool false))),256):=by kernel_rfl
  refine callsIn_wide.2 ((Any.strings_TrimRight_laid Tryz.lays162 h116 (strB s) (strB t) g.w (by rw[zBa];exact h1) (by rw[zBa];exact h2) (ascii_of_all (by simpa[vfb,strB]using h3))).mono ?_);rintro e w' ⟨rfl,hb⟩;refine ⟨⟨w',g.u,g.loc⟩,_,rfl,(by intros;rfl),qWb hb,fun k hk=>hw k (Nat.le_trans hb.size hk),rfl,?_⟩;rw[show (strB s).data.toList=s by simp[strB],show (strB t).data.toList=t by simp[strB]];exact .pv (.b rfl)
theorem zDb(a0:Str)(r:Bool)(hr:ZOa a0=some r):Run Tryz.prog 113 [.s a0] (.bo r):=by
 unfold ZOa at hr;refine rf (fn:=Tryz.f113) ⟨Tryz.func113,rfl,by kernel_rfl⟩ rfl (fun _=>rfl) fun g0 hg=>?_
 refine rn tk 5 rfl<|jb hr (fun j1=>[(2,.bo j1)]) (fun j1=>[]) (fun j1 hr=>?_) (fun j1 hr=>?_)
 .refine rn tk 4 rfl<|bs 5 hr rfl (fun c2 hr=>?_) (fun c2 hr=>?_)
  .refine rn tk 5 rfl<|bs 10 hr rfl (fun c3 hr=>?_) (fun c3 hr=>?_)
   .refine rn tk 1 rfl<|ug rfl rfl rfl<|ct hr (fun j4=>[(10,.bo true),(12,.bo j4)]) (fun j4=>[]) (fun j4 hr jump4=>?_) (fun j4 hr=>?_)
    .refine il (fn:=Tryz.f82) (args:=[.s a0,.fn (.func 137) [] []]) 400000 499999 [(10,.bo true)] rfl ⟨Tryz.func82,rfl,by kernel_rfl⟩ rfl rfl rfl fun T4 ds4=>?_
     refine rn tk 14 rfl<|al2 hr (fun s5=>[(0,.s a0),(1,.fn (.func 137) [] []),(7,.i ((a0.length:Int))),(8,.i s5)]) (fun s5=>[(499999,.sus g0.w.heap.size ds4),(400010,.hold (.bo true) (T4.getD 10 undef))]) (.exit 0) (fun b6=>[]) (fun b6=>[(499999,.sus g0.w.heap.size ds4),(400010,.hold (.bo true) (T4.getD 10 undef))]) .ret (fun b7=>[(4,.bo false)]) (fun b7=>[(499999,.sus g0.w.heap.size ds4),(400010,.hold (.bo true) (T4.getD 10 undef))]) rfl rfl (fun s5 x9 hr=>?_) (fun b6 hr=>?_) (fun b7 hr=>?_)
     .unfold wVa at hr;refine rn tk 6 rfl<|ac 9 hr rfl (fun c10 hr=>?_) (fun c10 hr=>?_)
      .refine rn tk 15 rfl ?_;obtain ⟨v11,h12,hr⟩:=zaa hr;refine ws tk h12 rfl rfl rfl rfl<|il (fn:=Tryz.f137) (args:=[.u8 v11]) 600000 699999 [(0,.s a0),(1,.fn (.func 137) [] []),(7,.i ((a0.length:Int))),(8,.i s5)] rfl ⟨Tryz.func137,rfl,by kernel_rfl⟩ rfl rfl rfl fun T6 ds6=>?_
       refine rn tk 5 rfl<|jb hr (fun j13=>[(2,.bo j13)]) (fun j13=>[(699999,.sus g0.w.heap.size ds6),(600000,.hold (.s a0) (T6.getD 0 undef)),(600001,.hold (.fn (.func 137) [] []) (T6.getD 1 undef)),(600007,.hold (.i ((a0.length:Int))) (T6.getD 7 undef)),(600008,.hold (.i s5) (T6.getD 8 undef)),(499999,.sus g0.w.heap.size ds4),(400010,.hold (.bo true) (T4.getD 10 undef))]) (fun j13 hr=>?_) (fun j13 hr=>?_)
       .refine rn tk 4 rfl<|bs 5 hr rfl (fun c14 hr=>?_) (fun c14 hr=>?_)
        .refine rn tk 4 rfl<|bs 9 hr rfl (fun c15 hr=>?_) (fun c15 hr=>?_)
         .refine rn tk 5 rfl ?_;cases hr;exact jn _ rfl rfl rfl
         refine rn tk 5 rfl ?_;cases hr;exact jn _ rfl rfl rfl
        refine rn tk 9 rfl ?_;cases hr;exact jn _ rfl rfl rfl
       refine rn tk 1 rfl ?_;refine ie tk [.bo j13] [(0,.s a0),(1,.fn (.func 137) [] []),(7,.i ((a0.length:Int))),(8,.i s5)] [(499999,.sus g0.w.heap.size ds4),(400010,.hold (.bo true) (T4.getD 10 undef))] (.inr rfl) rfl rfl rfl rfl (hO ?_);refine rn tk 3 rfl<|ac 16 hr rfl (fun c16 hr=>?_) (fun c16 hr=>?_)
       .refine rn tk 8 rfl ?_;cases hr;exact ato rfl rfl rfl rfl
       refine rn tk 7 rfl ?_;cases hr;exact atc rfl rfl
      refine rn tk 2 rfl ?_;cases hr;exact ato rfl rfl rfl rfl
     .refine rn tk 8 rfl ?_;refine ie tk [.bo true] [(10,.bo true)] [] (.inr rfl) rfl rfl rfl rfl ?_;cases hr;exact jump4 _ _ rfl rfl
     refine rn tk 2 rfl ?_;refine ie tk [.bo false] [(10,.bo true)] [] (.inr rfl) rfl rfl rfl rfl ?_;cases hr;exact jump4 _ _ rfl rfl
    refine rn tk 3 rfl ?_;cases hr;exact jn _ rfl rfl rfl
   refine rn tk 5 rfl ?_;cases hr;exact jn _ rfl rfl rfl
  refine rn tk 10 rfl ?_;cases hr;exact jn _ rfl rfl rfl
 refine rn tk 1 rfl ?_;cases hr;exact kr tk (.inr rfl) rfl rfl
theorem YMa(a0:Str)(a1:Int)(r:Int)(hr:jNa a0 a1=some r):Run Tryz.prog 115 [.s a0,.i a1] (.i r):=by
 unfold jNa at hr;refine rf (fn:=Tryz.f115) ⟨Tryz.func115,rfl,by kernel_rfl⟩ rfl (fun _=>rfl) fun g0 hg=>?_
 refine rn tk 14 rfl<|wq (ev_max rfl rfl) rfl rfl rfl<|rn tk 4 rfl<|al1 hr (fun s1=>[(0,.s a0),(5,.i s1.1),(6,.i s1.2)]) (fun s1=>[]) (.exit 0) (fun b2=>[(5,.i b2)]) (fun b2=>[]) rfl rfl (fun s1 x3 hr=>?_) (fun b2 hr=>?_)
 .unfold yqa at hr;refine rn tk 9 rfl<|ac 12 hr rfl (fun c4 hr=>?_) (fun c4 hr=>?_)
  .refine rn tk 2 rfl<|jk (fun j5=>[(0,.s a0),(5,.i j5),(6,.i s1.2)]) (fun j5=>[]) (fun j5=>qCa s1 j5=some x3) ?_ ?_
   .refine rn tk 2 rfl<|jb hr (fun j6=>[(0,.s a0),(5,.i s1.1),(6,.i s1.2),(26,.bo j6)]) (fun j6=>[]) (fun j6 hr=>?_) (fun j6 hr=>?_)
    .refine rn tk 3 rfl ?_;obtain ⟨v7,h8,hr⟩:=zaa hr;refine ws tk h8 rfl rfl rfl rfl ?_;obtain ⟨v9,h10,hr⟩:=zaa hr;refine cl (q8a _ _ h10) rfl rfl<|rn tk 2 rfl<|bs 20 hr rfl (fun c11 hr=>?_) (fun c11 hr=>?_)
     .refine rn tk 7 rfl ?_;cases hr;exact jn _ rfl rfl rfl
     refine rn tk 3 rfl ?_;obtain ⟨v12,h13,hr⟩:=zaa hr;refine ug rfl rfl rfl<|ws tk h13 rfl rfl rfl rfl ?_;obtain ⟨v14,h15,hr⟩:=zaa hr;refine ug rfl rfl rfl<|cl (q8a _ _ h15) rfl rfl<|rn tk 2 rfl ?_;cases hr;exact jn _ rfl rfl rfl
    refine ac 26 hr rfl (fun c16 hr=>?_) (fun c16 hr=>?_)
    .refine rn tk 3 rfl<|jn s1.1 hr rfl rfl
    refine rn tk 3 rfl<|jb hr (fun j17=>[(0,.s a0),(5,.i s1.1),(6,.i s1.2),(32,.bo j17)]) (fun j17=>[]) (fun j17 hr=>?_) (fun j17 hr=>?_)
    .refine rn tk 4 rfl<|bs 29 hr rfl (fun c18 hr=>?_) (fun c18 hr=>?_)
     .refine rn tk 4 rfl ?_;cases hr;exact jn _ rfl rfl rfl
     refine rn tk 4 rfl ?_;cases hr;exact jn _ rfl rfl rfl
    refine ac 32 hr rfl (fun c19 hr=>?_) (fun c19 hr=>?_)
    .refine rn tk 4 rfl ?_;cases hr;exact ato rfl rfl rfl rfl
    refine rn tk 7 rfl<|jn s1.2 hr rfl rfl
   intro j5 hr;unfold qCa at hr;refine rn tk 5 rfl ?_;cases hr;exact atc rfl rfl
  refine rn tk 2 rfl ?_;cases hr;exact ato rfl rfl rfl rfl
 refine rn tk 9 rfl ?_;cases hr;exact kr tk (.inr rfl) rfl rfl
theorem y6a(a0:Int)(r:Bool)(hr:kra a0=some r):Run Tryz.prog 229 [.pv (.b (.int .i32 a0))] (.bo r):=by
 unfold kra at hr;refine rf (fn:=Tryz.f229) ⟨Tryz.func229,rfl,by kernel_rfl⟩ rfl (fun _=>rfl) fun g0 hg=>?_
 refine rn tk 7 rfl<|jb hr (fun j1=>[(0,.pv (.b (.int .i32 a0))),(3,.bo j1)]) (fun j1=>[]) (fun j1 hr=>?_) (fun j1 hr=>?_)
 .refine rn tk 4 rfl<|bs 6 hr rfl (fun c2 hr=>?_) (fun c2 hr=>?_)
  .refine rn tk 5 rfl ?_;cases hr;exact jn _ rfl rfl rfl
  refine rn tk 5 rfl ?_;cases hr;exact jn _ rfl rfl rfl
 refine ac 3 hr rfl (fun c3 hr=>?_) (fun c3 hr=>?_)
 .refine rn tk 8 rfl ?_;cases hr;exact kr tk (.inr rfl) rfl rfl
 refine jb hr (fun j4=>[(10,.bo j4)]) (fun j4=>[]) (fun j4 hr=>?_) (fun j4 hr=>?_)
 .refine rn tk 4 rfl<|bs 13 hr rfl (fun c5 hr=>?_) (fun c5 hr=>?_)
  .refine rn tk 5 rfl ?_;cases hr;exact jn _ rfl rfl rfl
  refine rn tk 5 rfl ?_;cases hr;exact jn _ rfl rfl rfl
 refine ac 10 hr rfl (fun c6 hr=>?_) (fun c6 hr=>?_)
 .refine rn tk 8 rfl ?_;cases hr;exact kr tk (.inr rfl) rfl rfl
 refine rn tk 9 rfl ?_;cases hr;exact kr tk (.inr rfl) rfl rfl
theorem yba(a0:Str)(a1:Int)(r:Int)(hr:kia a0 a1=some r):Run Tryz.prog 209 [.s a0,.pv (.b (.int .i32 a1))] (.i r):=by
 unfold kia at hr;refine rf (fn:=Tryz.f209) ⟨Tryz.func209,rfl,by kernel_rfl⟩ rfl (fun _=>rfl) fun g0 hg=>?_
 refine rn tk 6 rfl<|jb hr (fun j1=>[(0,.s a0),(1,.pv (.b (.int .i32 a1))),(160,.bo j1)]) (fun j1=>[]) (fun j1 hr=>?_) (fun j1 hr=>?_)
 .refine rn tk 4 rfl<|bs 163 hr rfl (fun c2 hr=>?_) (fun c2 hr=>?_)
  .refine rn tk 5 rfl ?_;cases hr;exact jn _ rfl rfl rfl
  refine rn tk 5 rfl ?_;cases hr;exact jn _ rfl rfl rfl
 refine ac 160 hr rfl (fun c3 hr=>?_) (fun c3 hr=>?_)
 .refine rn tk 5 rfl ?_;obtain ⟨v4,h5,hr⟩:=zaa hr;refine cl (q6a _ _ _ h5) rfl rfl<|rn tk 5 rfl ?_;cases hr;exact kr tk (.inr rfl) rfl rfl
 refine rn tk 7 rfl<|ac 171 hr rfl (fun c6 hr=>?_) (fun c6 hr=>?_)
 .refine rn tk 4 rfl<|wr 1175 tk rfl rfl rfl rfl<|rn tk 3 rfl<|al2 hr (fun s7=>[(175,.ptr 1175 0)]) (fun s7=>[(1175,.it (strB a0) s7)]) (.exit 9) (fun b8=>[]) (fun b8=>[]) .ret (fun b9=>[(4,.i b9)]) (fun b9=>[]) rfl rfl (fun s7 x11 hr=>?_) (fun b8 hr=>?_) (fun b9 hr=>?_)
  .unfold qea at hr;refine rn tk 2 rfl<|wnx hr rfl rfl rfl (fun c12 hr=>?_) (fun c12 hr=>?_)
   .refine rn tk 22 rfl<|ac 181 hr rfl (fun c13 hr=>?_) (fun c13 hr=>?_)
    .refine rn tk 8 rfl ?_;cases hr;exact ato rfl rfl rfl rfl
    refine rn tk 2 rfl ?_;cases hr;exact atc rfl rfl
   refine rn tk 7 rfl ?_;cases hr;exact ato rfl rfl rfl rfl
  .refine rn tk 9 rfl ?_;cases hr;exact kr tk (.inr rfl) rfl rfl
  refine rn tk 3 rfl ?_;cases hr;exact kr tk (.inr rfl) rfl rfl
 refine rn tk 3 rfl ?_;obtain ⟨v14,h15,hr⟩:=zaa hr;refine cl (y6a _ _ h15) rfl rfl<|rn tk 4 rfl<|ac 183 hr rfl (fun c16 hr=>?_) (fun c16 hr=>?_)
 .refine rn tk 7 rfl ?_;cases hr;exact kr tk (.inr rfl) rfl rfl
 refine rn tk 29 rfl<|al2 hr (fun s17=>[(0,.s a0),(7,.s ((wUa a1))),(8,.i ((w64 ((((wUa a1)).length:Int) - 1)))),(9,.i s17)]) (fun s17=>[]) (.exit 1) (fun b18=>[]) (fun b18=>[]) .ret (fun b19=>[(4,.i b19)]) (fun b19=>[]) rfl rfl (fun s17 x21 hr=>?_) (fun b18 hr=>?_) (fun b19 hr=>?_)
 .unfold qga at hr;refine rn tk 9 rfl<|ac 26 hr rfl (fun c22 hr=>?_) (fun c22 hr=>?_)
  .refine rn tk 4 rfl<|jk (fun j23=>[(0,.s a0),(7,.s ((wUa a1))),(8,.i j23.1),(9,.i j23.2)]) (fun j23=>[]) (fun j23=>qfa a0 a1 j23=some x21) ?_ ?_
   .refine rn tk 1 rfl ?_;obtain ⟨v24,h25,hr⟩:=zaa hr;obtain ⟨v26,h27,hr⟩:=zaa hr;refine dr 6 [(32,.u8 v26),(31,.i ((w64 ((((wUa a1)).length:Int) - 1)))),(30,.s ((wUa a1))),(29,.u8 v24),(28,.i s17),(27,.s a0)] mixed (by kernel_rfl) rfl rfl (pq tk rfl (.plain rfl) (pq tk rfl (.plain rfl) (.run (.plain rfl) (z2a (QTa rfl rfl zHa h25)) (pq tk rfl (.plain rfl) (pq tk rfl (.plain rfl) (.run (.plain rfl) (z2a (QTa rfl rfl zHa h27)) .nil)))))) rfl<|rn tk 3 rfl<|ac 33 hr rfl (fun c28 hr=>?_) (fun c28 hr=>?_)
    .refine rn tk 1 rfl ?_;obtain ⟨v29,h30,hr⟩:=zaa hr;obtain ⟨v31,h32,hr⟩:=zaa hr;refine dr 7 [(40,.u8 v31),(39,.i ((w64 ((((wUa a1)).length:Int) - 1)))),(38,.s ((wUa a1))),(37,.s v29),(36,.i ((w64 (s17+1)))),(35,.i s17),(34,.s a0)] mixed (by kernel_rfl) rfl rfl (pq tk rfl (.plain rfl) (pq tk rfl (.plain rfl) (pq tk rfl (.plain rfl) (.run (.plain rfl) (z2a (q0b rfl rfl zHa h30)) (pq tk rfl (.plain rfl) (pq tk rfl (.plain rfl) (.run (.plain rfl) (z2a (QTa rfl rfl zHa h32)) .nil))))))) rfl ?_;obtain ⟨v33,h34,hr⟩:=zaa hr;refine cl (q6a _ _ _ h34) rfl rfl<|rn tk 10 rfl<|ac 43 hr rfl (fun c35 hr=>?_) (fun c35 hr=>?_)
     .refine rn tk 10 rfl ?_;cases hr;exact ato rfl rfl rfl rfl
     refine rn tk 9 rfl<|jn (((w64 ((((wUa a1)).length:Int) - 1)),(w64 (s17+(w64 (v33+1)))))) hr rfl rfl
    refine rn tk 1 rfl<|jn (((w64 ((((wUa a1)).length:Int) - 1)),s17)) hr rfl rfl
   intro j23 hr;unfold qfa at hr;refine rn tk 7 rfl<|al1 hr (fun s36=>[(0,.s a0),(7,.s ((wUa a1))),(8,.i j23.1),(9,.i j23.2),(12,.i s36)]) (fun s36=>[]) (.exit 3) (fun b37=>[(8,.i j23.1),(9,.i j23.2)]) (fun b37=>[]) rfl rfl (fun s36 x38 hr=>?_) (fun b37 hr=>?_)
   .unfold yja at hr;refine rn tk 9 rfl<|ac 51 hr rfl (fun c39 hr=>?_) (fun c39 hr=>?_)
    .refine rn tk 5 rfl ?_;obtain ⟨v40,h41,hr⟩:=zaa hr;obtain ⟨v42,h43,hr⟩:=zaa hr;refine dr 10 [(63,.u8 v42),(62,.i ((w64 (j23.1 - s36)))),(61,.i s36),(60,.i j23.1),(59,.s ((wUa a1))),(58,.u8 v40),(57,.i ((w64 (j23.2 - s36)))),(56,.i s36),(55,.i j23.2),(54,.s a0)] mixed (by kernel_rfl) rfl rfl (pq tk rfl (.plain rfl) (pq tk rfl (.plain rfl) (pq tk rfl (.plain rfl) (pq tk rfl (.plain rfl) (.run (.plain rfl) (z2a (QTa rfl rfl zHa h41)) (pq tk rfl (.plain rfl) (pq tk rfl (.plain rfl) (pq tk rfl (.plain rfl) (pq tk rfl (.plain rfl) (.run (.plain rfl) (z2a (QTa rfl rfl zHa h43)) .nil)))))))))) rfl<|rn tk 3 rfl<|ac 64 hr rfl (fun c44 hr=>?_) (fun c44 hr=>?_)
     .cases hr
     refine rn tk 8 rfl ?_;cases hr;exact atc rfl rfl
    refine rn tk 2 rfl ?_;cases hr;exact ato rfl rfl rfl rfl
   refine rn tk 15 rfl ?_;cases hr;exact ato rfl rfl rfl rfl
  refine rn tk 2 rfl ?_;cases hr;exact ato rfl rfl rfl rfl
 .refine rn tk 12 rfl ?_;cases hr;exact kr tk (.inr rfl) rfl rfl
 refine rn tk 4 rfl ?_;cases hr;exact kr tk (.inr rfl) rfl rfl
theorem yha(a0:Int)(r:Bool)(hr:zFa a0=some r):Run Tryz.prog 210 [.i a0] (.bo r):=by
 unfold zFa at hr;refine rf (fn:=Tryz.f210) ⟨Tryz.func210,rfl,by kernel_rfl⟩ rfl (fun _=>rfl) fun g0 hg=>?_
 refine rn tk 13 rfl ?_;cases hr;exact kr tk (.inr rfl) rfl rfl
theorem Z5a(a0:Str)(a1:Str)(r:Int)(hr:vga a0 a1=some r):Run Tryz.prog 189 [.s a0,.s a1] (.i r):=by
 unfold vga at hr;refine rf (fn:=Tryz.f189) ⟨Tryz.func189,rfl,by kernel_rfl⟩ rfl (fun _=>rfl) fun g0 hg=>?_
 refine rn tk 12 rfl<|ac 12 hr rfl (fun c1 hr=>?_) (fun c1 hr=>?_)
 .refine rn tk 7 rfl ?_;cases hr;exact kr tk (.inr rfl) rfl rfl
 refine rn tk 10 rfl<|ac 15 hr rfl (fun c2 hr=>?_) (fun c2 hr=>?_)
 .refine rn tk 3 rfl ?_;obtain ⟨v3,h4,hr⟩:=zaa hr;refine ws tk h4 rfl rfl rfl rfl<|wur tk rfl rfl rfl<|rn tk 3 rfl<|jb hr (fun j5=>[(0,.s a0),(5,.pv (.b (.int .i32 j5)))]) (fun j5=>[]) (fun j5 hr=>?_) (fun j5 hr=>?_)
  .refine rn tk 6 rfl<|ac 20 hr rfl (fun c6 hr=>?_) (fun c6 hr=>?_)
   .refine rn tk 3 rfl ?_;cases hr;exact jn _ rfl rfl rfl
   refine rn tk 1 rfl ?_;cases hr;exact jn _ rfl rfl rfl
  refine rn tk 4 rfl ?_;obtain ⟨v7,h8,hr⟩:=zaa hr;refine cl (yba _ _ _ h8) rfl rfl<|rn tk 5 rfl ?_;cases hr;exact kr tk (.inr rfl) rfl rfl
 refine rn tk 7 rfl ?_;obtain ⟨v9,h10,hr⟩:=zaa hr;refine cl (yha _ _ h10) rfl rfl<|rn tk 2 rfl<|ac 26 hr rfl (fun c11 hr=>?_) (fun c11 hr=>?_)
 .refine rn tk 3 rfl ?_;cases hr
 refine rn tk 6 rfl<|wr 1045 tk rfl rfl rfl rfl<|rn tk 3 rfl<|al2 hr (fun s12=>[(1,.s a1),(45,.ptr 1045 0)]) (fun s12=>[(1045,.it (strB a0) s12)]) (.exit 2) (fun b13=>[]) (fun b13=>[]) .ret (fun b14=>[(4,.i b14)]) (fun b14=>[]) rfl rfl (fun s12 x16 hr=>?_) (fun b13 hr=>?_) (fun b14 hr=>?_)
 .unfold qha at hr;refine rn tk 2 rfl<|wnx hr rfl rfl rfl (fun c17 hr=>?_) (fun c17 hr=>?_)
  .refine rn tk 20 rfl ?_;obtain ⟨v18,h19,hr⟩:=zaa hr;refine cl (yba _ _ _ h19) rfl rfl<|rn tk 3 rfl<|ac 53 hr rfl (fun c20 hr=>?_) (fun c20 hr=>?_)
   .refine rn tk 8 rfl ?_;cases hr;exact ato rfl rfl rfl rfl
   refine rn tk 2 rfl ?_;cases hr;exact atc rfl rfl
  refine rn tk 7 rfl ?_;cases hr;exact ato rfl rfl rfl rfl
 .refine rn tk 8 rfl ?_;cases hr;exact kr tk (.inr rfl) rfl rfl
 refine rn tk 2 rfl ?_;cases hr;exact kr tk (.inr rfl) rfl rfl
theorem Jza(g:G)(vs:Array Value)(t:TypeId):Old (fun _=>False) g ⟨g.w.alloc (.cells vs t),fun k=>if k=g.w.heap.size then 0 else g.u k,g.loc⟩:=by
 have h:=ZEa g vs t 0 0 (g.loc 0);have e:(g.alloc vs t 0 0 (g.loc 0))=⟨g.w.alloc (.cells vs t),fun k=>if k=g.w.heap.size then 0 else g.u k,g.loc⟩:=by
  unfold G.alloc
  congr 1
  funext k;split
  .rename_i hk;rw[hk]
  rfl
 rw[<-e];exact h
theorem kNb{g:G}(h:Wf g)(vs:Array Value)(t:TypeId):Wf ⟨g.w.alloc (.cells vs t),fun k=>if k=g.w.heap.size then 0 else g.u k,g.loc⟩:=by
 intro k hk;have hk:g.w.heap.size+1<=k:=by simpa using hk
 show (if k=g.w.heap.size then 0 else g.u k)=0;rw[if_neg (by omega)];exact h k (by omega)
theorem wDb{t:Str}(h:Y4a t=true):∀(j:Nat) b,(strB t).data.toList[j]? =some b->b.toNat < 128:=fun j b hb=>Y8a h (List.mem_of_getElem? hb)
theorem KBa(s t:Str)(r:Int)(hr:k5a s t=some r):Run Tryz.prog 189 [.s s,.s t] (.i r):=by
 unfold k5a at hr;split at hr
 case isFalse=>cases hr
 rename_i hc;obtain ⟨h1,h2,h3,h4⟩:=hc;by_cases h8:s.length<=8
 .exact Z5a s t r (by rw[z7b s t h8 h3 h2 h4];exact hr)
 cases hr;refine ⟨⟨_,_,⟨Tryz.func189,rfl,by kernel_rfl⟩⟩,fun g vs hw hg ha=>?_⟩;obtain ⟨hsz,hrel⟩:=ha;obtain ⟨l⟩:=vs
 match l,hsz with
 | [x,y],_=>
  obtain rfl:=Qda (hrel 0 _ rfl);obtain rfl:=Qda (hrel 1 _ rfl);have h116:(Tryz.prog.info? 193).map (fun i=>(i.zero,i.size))=some (some (.agg (Array.replicate 256 (.bool false))),256):=by kernel_rfl
  have hz:=(zero_of_info h116).1;refine callsIn_wide.2 ((Tryz.strings_IndexAny_long hz (strB s) (strB t) g.w (by rw[zBa];exact h3) (by rw[zBa];omega) (by rw[zBa];exact h1) (by rw[zBa];exact h2) (wDb h4)).mono ?_);rintro e w' ⟨rfl,rfl⟩;have o1:=Jza g (Lib.setCells t) 193;have w1:=kNb hw (Lib.setCells t) 193;have o2:=Jza ⟨g.w.alloc (.cells (Lib.setCells t) 193),fun k=>if k=g.w.heap.size then 0 else g.u k,g.loc⟩ (Lib.setCells t) 193;have w2:=kNb w1 (Lib.setCells t) 193;have o3:Old (fun _=>False) g _:=o1.trans (o2.mono (S' :=fun b=>False∨g.w.heap.size<=b) (by intro b _ hf;exact hf.elim));exact ⟨⟨_,_,_⟩,_,rfl,(by rfl),o3,w2,(by rfl),.pv (.b rfl)⟩
theorem Zka(a0:Str)(a1:Str)(r:Bool)(hr:kga a0 a1=some r):Run Tryz.prog 160 [.s a0,.s a1] (.bo r):=by
 unfold kga at hr;refine rf (fn:=Tryz.f160) ⟨Tryz.func160,rfl,by kernel_rfl⟩ rfl (fun _=>rfl) fun g0 hg=>?_
 refine rn tk 9 rfl ?_;obtain ⟨v1,h2,hr⟩:=zaa hr;refine cl (KBa _ _ _ h2) rfl rfl<|rn tk 5 rfl ?_;cases hr;exact kr tk (.inr rfl) rfl rfl
theorem zEb(a0:Str)(r:Bool)(hr:ZPa a0=some r):Run Tryz.prog 138 [.s a0] (.bo r):=by
 unfold ZPa at hr;refine rf (fn:=Tryz.f138) ⟨Tryz.func138,rfl,by kernel_rfl⟩ rfl (fun _=>rfl) fun g0 hg=>?_
 refine rn tk 8 rfl ?_;obtain ⟨v1,h2,hr⟩:=zaa hr;refine cl (Zka _ _ _ h2) rfl rfl<|rn tk 4 rfl ?_;cases hr;exact kr tk (.inr rfl) rfl rfl
theorem YNa(a0:Str)(r:Bool)(hr:jMa a0=some r):Run Tryz.prog 114 [.s a0] (.bo r):=by
 unfold jMa at hr;refine rf (fn:=Tryz.f114) ⟨Tryz.func114,rfl,by kernel_rfl⟩ rfl (fun _=>rfl) fun g0 hg=>?_
 refine rn tk 5 rfl<|jb hr (fun j1=>[(2,.bo j1)]) (fun j1=>[]) (fun j1 hr=>?_) (fun j1 hr=>?_)
 .refine rn tk 2 rfl ?_;obtain ⟨v2,h3,hr⟩:=zaa hr;refine cl (zEb _ _ h3) rfl rfl<|rn tk 2 rfl<|bs 6 hr rfl (fun c4 hr=>?_) (fun c4 hr=>?_)
  .refine rn tk 3 rfl<|bs 9 hr rfl (fun c5 hr=>?_) (fun c5 hr=>?_)
   .refine rn tk 17 rfl ?_;cases hr;exact jn _ rfl rfl rfl
   refine rn tk 1 rfl ?_;obtain ⟨v6,h7,hr⟩:=zaa hr;refine ug rfl rfl rfl<|ws tk h7 rfl rfl rfl rfl ?_;obtain ⟨v8,h9,hr⟩:=zaa hr;refine ug rfl rfl rfl<|cl (q8a _ _ h9) rfl rfl<|rn tk 2 rfl<|bs 14 hr rfl (fun c10 hr=>?_) (fun c10 hr=>?_)
   .refine rn tk 4 rfl ?_;obtain ⟨v11,h12,hr⟩:=zaa hr;refine ug rfl rfl rfl<|ws tk h12 rfl rfl rfl rfl ?_;obtain ⟨v13,h14,hr⟩:=zaa hr;refine ug rfl rfl rfl<|cl (q8a _ _ h14) rfl rfl<|rn tk 6 rfl ?_;cases hr;exact jn _ rfl rfl rfl
   refine rn tk 12 rfl ?_;cases hr;exact jn _ rfl rfl rfl
  refine rn tk 20 rfl ?_;cases hr;exact jn _ rfl rfl rfl
 refine rn tk 1 rfl ?_;cases hr;exact kr tk (.inr rfl) rfl rfl
theorem Zla(a0:Str)(a1:Str)(r:(List Str) × zra)(hr:yHa a0 a1=some r):Run Tryz.prog 81 [.s a0,.s a1] (.tup [.l cS r.1,.agg [.i r.2.Code,.i r.2.Index]]):=by
 unfold yHa at hr;refine rf (fn:=Tryz.f81) ⟨Tryz.func81,rfl,by kernel_rfl⟩ rfl (fun _=>rfl) fun g0 hg=>?_
 refine rn tk 11 rfl ?_;obtain ⟨v1,h2,hr⟩:=zaa hr;refine cl (zDb _ _ h2) rfl rfl<|rn tk 4 rfl<|ac 12 hr rfl (fun c3 hr=>?_) (fun c3 hr=>?_)
 .refine rn tk 2 rfl ?_;obtain ⟨v4,h5,hr⟩:=zaa hr;refine cl (zja _ _ _ h5) rfl rfl<|rn tk 7 rfl ?_;cases hr;exact kr tk (.inr rfl) rfl rfl
 refine rn tk 8 rfl<|ac 17 hr rfl (fun c6 hr=>?_) (fun c6 hr=>?_)
 .refine rn tk 2 rfl ?_;obtain ⟨v7,h8,hr⟩:=zaa hr;refine cl (zja _ _ _ h8) rfl rfl<|rn tk 7 rfl ?_;cases hr;exact kr tk (.inr rfl) rfl rfl
 refine rn tk 3 rfl ?_;obtain ⟨v9,h10,hr⟩:=zaa hr;refine cl (YNa _ _ h10) rfl rfl<|rn tk 4 rfl<|ac 22 hr rfl (fun c11 hr=>?_) (fun c11 hr=>?_)
 .refine rn tk 2 rfl ?_;obtain ⟨v12,h13,hr⟩:=zaa hr;refine cl (zja _ _ _ h13) rfl rfl<|rn tk 7 rfl ?_;cases hr;exact kr tk (.inr rfl) rfl rfl
 refine rn tk 6 rfl ?_;obtain ⟨v14,h15,hr⟩:=zaa hr;refine wc h15 rfl rfl rfl<|rn tk 1 rfl ?_;obtain ⟨v16,h17,hr⟩:=zaa hr;refine wc h17 rfl rfl rfl<|rn tk 10 rfl ?_;refine Kka 1008 (d:=8) 9 1 rfl rfl rfl (hO ?_);refine rn tk 4 rfl<|al1 hr (fun s18=>[(5,.ptr 5 0),(6,.s s18.1),(7,.i s18.2.1),(8,.hs 1008 0)]) (fun s18=>[(1008,.row 9 false 1 (List.map cS s18.2.2)),(5,.cells [.i 0,.i 0])]) (.exit 1) (fun b19=>[(5,.ptr 5 0),(6,.s b19.1),(8,.hs 1008 0)]) (fun b19=>[(1008,.row 9 false 1 (List.map cS b19.2)),(5,.cells [.i 0,.i 0])]) rfl rfl (fun s18 x20 hr=>?_) (fun b19 hr=>?_)
 .unfold wWa at hr;refine rn tk 8 rfl<|ac 36 hr rfl (fun c21 hr=>?_) (fun c21 hr=>?_)
  .refine rn tk 7 rfl ?_;obtain ⟨v22,h23,hr⟩:=zaa hr;refine cl (YMa _ _ _ h23) rfl rfl<|rn tk 10 rfl<|ac 41 hr rfl (fun c24 hr=>?_) (fun c24 hr=>?_)
   .refine rn tk 3 rfl ?_;cases hr;exact ato rfl rfl rfl rfl
   refine rn tk 7 rfl ?_;obtain ⟨v25,h26,hr⟩:=zaa hr;refine wscH tk h26 rfl rfl rfl rfl<|wz cS ([v25]:List Str) tk rfl rfl (fun _=>rfl) rfl rfl rfl ?_;obtain ⟨v27,h28,hr⟩:=zaa hr;refine wa tk h28 rfl rfl rfl rfl (fun _=>rfl) rfl rfl<|rn tk 6 rfl ?_;obtain ⟨v29,h30,hr⟩:=zaa hr;refine wscL tk h30 rfl rfl rfl rfl<|rn tk 4 rfl ?_;cases hr;exact atc rfl rfl
  refine rn tk 2 rfl ?_;cases hr;exact ato rfl rfl rfl rfl
 refine rn tk 6 rfl<|wz cS ([b19.1]:List Str) tk rfl rfl (fun _=>rfl) rfl rfl rfl ?_;obtain ⟨v31,h32,hr⟩:=zaa hr;refine wa tk h32 rfl rfl rfl rfl (fun _=>rfl) rfl rfl<|rn tk 7 rfl<|wnh tk rfl rfl rfl rfl<|rn tk 4 rfl ?_;refine jYa (d:=55) (F:=cS) (l:=v31) rfl rfl (hC ?_);refine al2 hr (fun s34=>[(5,.ptr 5 0),(8,.hs 1008 0),(55,.l cS v31),(56,.i ((v31.length:Int))),(57,.i s34)]) (fun s34=>[(1008,.row 9 false 1 (List.map cS v31)),(5,.cells [.i 0,.i 0])]) (.exit 3) (fun b35=>[(5,.ptr 5 0),(8,.hs 1008 0)]) (fun b35=>[(1008,.row 9 false 1 (List.map cS v31)),(5,.cells [.i 0,.i 0])]) .ret (fun b36=>[(4,.l cS b36.1),(5,.ptr 5 0)]) (fun b36=>[(5,.cells [.i b36.2.Code,.i b36.2.Index])]) rfl rfl (fun s34 x38 hr=>?_) (fun b35 hr=>?_) (fun b36 hr=>?_)
 .unfold jda at hr;refine rn tk 6 rfl<|ac 58 hr rfl (fun c39 hr=>?_) (fun c39 hr=>?_)
  .refine rn tk 7 rfl ?_;obtain ⟨v40,h41,hr⟩:=zaa hr;refine wi tk h41 rfl rfl rfl rfl rfl<|rn tk 12 rfl<|ac 64 hr rfl (fun c42 hr=>?_) (fun c42 hr=>?_)
   .refine rn tk 3 rfl ?_;obtain ⟨v43,h44,hr⟩:=zaa hr;refine cl (zja _ _ _ h44) rfl rfl<|rn tk 7 rfl ?_;cases hr;exact ato rfl rfl rfl rfl
   refine rn tk 7 rfl ?_;cases hr;exact atc rfl rfl
  refine rn tk 2 rfl ?_;cases hr;exact ato rfl rfl rfl rfl
 .refine rn tk 5 rfl ?_;obtain ⟨v45,h46,hr⟩:=zaa hr;refine cl (zGa _ h46) rfl rfl<|rn tk 4 rfl ?_;refine jYa (d:=4) (F:=cS) (l:=v31) rfl rfl (hC ?_);refine rn tk 1 rfl ?_;cases hr;exact kr tk (.inr rfl) rfl rfl
 refine rn tk 2 rfl ?_;cases hr;exact kr tk (.inr rfl) rfl rfl
theorem Yra(a0:Str)(r:Bool)(hr:wya a0=some r):Run Tryz.prog 170 [.s a0] (.bo r):=by
 unfold wya at hr;refine rf (fn:=Tryz.f170) ⟨Tryz.func170,rfl,by kernel_rfl⟩ rfl (fun _=>rfl) fun g0 hg=>?_
 refine rn tk 8 rfl ?_;obtain ⟨v1,h2,hr⟩:=zaa hr;refine cl (Zla _ _ _ h2) rfl rfl<|rn tk 11 rfl ?_;obtain ⟨v3,h4,hr⟩:=zaa hr;refine cl (zza _ _ h4) rfl rfl<|rn tk 5 rfl ?_;cases hr;exact kr tk (.inr rfl) rfl rfl
theorem Vua(a0:Str)(r:zia × Bool)(hr:v5a a0=some r):Run Tryz.prog 151 [.s a0] (.tup [.agg [.s r.1.Name,.s r.1.Value],.bo r.2]):=by
 unfold v5a at hr;refine rf (fn:=Tryz.f151) ⟨Tryz.func151,rfl,by kernel_rfl⟩ rfl (fun _=>rfl) fun g0 hg=>?_
 refine rn tk 9 rfl ?_;obtain ⟨v1,h2,hr⟩:=zaa hr;refine cl (Z1a _ _ _ h2) rfl rfl<|rn tk 12 rfl ?_;obtain ⟨v3,h4,hr⟩:=zaa hr;refine cl (Z4a _ _ _ h4) rfl rfl<|rn tk 3 rfl<|jb hr (fun j5=>[(2,.ptr 2 0),(3,.bo j5)]) (fun j5=>[(2,.cells [.s v3,.s v1.2.1])]) (fun j5 hr=>?_) (fun j5 hr=>?_)
 .refine rn tk 6 rfl<|bs 19 hr rfl (fun c6 hr=>?_) (fun c6 hr=>?_)
  .refine rn tk 1 rfl ?_;obtain ⟨v7,h8,hr⟩:=zaa hr;refine ug rfl rfl rfl<|cl (Yra _ _ h8) rfl rfl<|rn tk 4 rfl ?_;cases hr;exact jn _ rfl rfl rfl
  refine rn tk 6 rfl ?_;cases hr;exact jn _ rfl rfl rfl
 refine rn tk 1 rfl ?_;cases hr;exact kr tk (.inr rfl) rfl rfl
theorem wEb{g:G}{l:List UInt8}{v:Value}(h:Rel g (.l cU l) v):∀n cap,v=.slice none n cap->n=0/\cap=0:=by
 intro n cap e;cases h with
 | pv h=>
  unfold pL at h;generalize l.map cU=elems at h;cases h with
  | @sl _ _ a cap2 size b off val hn h0 hc hz ha hu hcell h=>
   cases e;obtain ⟨h1,h2⟩:=h0 rfl;exact ⟨by rw[h2];rfl,h1⟩
theorem Qga(a:List UInt8)(c:UInt8)(r:Int)(hr:qra a c=some r):Run Tryz.prog 146 [.l cU a,.u8 c] (.i r):=by
 unfold qra at hr;cases hr;refine ⟨⟨_,_,⟨Tryz.func146,rfl,by kernel_rfl⟩⟩,fun g vs hw hg ha=>?_⟩;obtain ⟨hsz,hrel⟩:=ha;obtain ⟨l⟩:=vs
 match l,hsz with
 | [x,y],_=>
  have h0:Rel g (.l cU a) x:=hrel 0 _ rfl;obtain rfl:y=.int .u8 (c.toNat:Int):=z1a (hrel 1 _ rfl);obtain ⟨ad,cap,rfl,hcap,hcell⟩:=Qfa h0;refine callsIn_wide.2 ?_
  suffices hs:Calls Tryz.prog 146 #[.slice ad a.length cap,.int .u8 (c.toNat:Int)] g.w fun e w' =>e=.returned (.int .i64 (Lib.indexByte a c))/\w' =g.w by
   refine hs.mono ?_;rintro e w' ⟨rfl,rfl⟩;exact ⟨g,_,rfl,(by intros;rfl),Old.refl _ g,hw,rfl,.pv (.b rfl)⟩
  by_cases hs:a=[]
  .subst hs;cases ad with
   | none=>
    obtain ⟨_,rfl⟩:=wEb h0 _ _ rfl;exact Tryz.bytes_IndexByte_nil _ g.w
   | some ad=>
    have:=Tryz.bytes_IndexByte_at ad 0 cap [] (c.toNat:Int) g.w rfl (fun i hi=>by omega);simpa[Lib.bytesOf]using this
  obtain ⟨b1,o1,rfl,hc1⟩:=hcell hs;have:=Tryz.bytes_IndexByte_at ⟨b1,o1,none⟩ a.length cap (nums a) (c.toNat:Int) g.w (by simp[nums]) hc1;rw[Vqa]at this;simpa using this
theorem Ysa(a0:List UInt8)(a1:List UInt8)(r:Bool)(hr:wua a0 a1=some r):Run Tryz.prog 125 [.l cU a0,.l cU a1] (.bo r):=by
 unfold wua at hr;refine QSa (fn:=Tryz.f125) ⟨Tryz.func125,rfl,by kernel_rfl⟩ rfl (fun _=>rfl) fun g0 hg=>?_
 refine Woa ?_;refine jEa ?_;refine zPa rfl (zEa (d:=4) rfl rfl yAa) ?_;refine Kja<|ZBa ?_;refine Woa ?_;refine jEa ?_;refine zPa rfl (zEa (d:=5) rfl rfl voa) ?_;refine zPa rfl (zEa (d:=6) rfl rfl (QVa rfl zpa zJa zHa)) ?_;refine zPa rfl (zEa (d:=7) rfl rfl voa) ?_;refine zPa rfl (zEa (d:=8) rfl rfl (QVa rfl zpa zJa zHa)) ?_;refine zPa rfl (zEa (d:=9) rfl rfl (wNb (a:=a0) (b:=a1) rfl rfl)) ?_;refine zPa rfl (zEa (d:=4) rfl rfl yAa) ?_;refine Kja<|ZBa ?_;refine kSb ?_;cases hr;exact kret' rfl (.cons (kVb rfl) .nil) rfl
theorem y0a(a0:List UInt8)(a1:List UInt8)(r:Bool)(hr:kCa a0 a1=some r):Run Tryz.prog 94 [.l cU a0,.l cU a1] (.bo r):=by
 unfold kCa at hr;refine QSa (fn:=Tryz.f94) ⟨Tryz.func94,rfl,by kernel_rfl⟩ rfl (fun _=>rfl) fun g0 hg=>?_
 refine Woa ?_;refine jEa ?_;refine zPa rfl (zEa (d:=4) rfl rfl yAa) ?_;refine Kja<|ZBa ?_;obtain ⟨j1,hx,hy⟩:=zaa hr;refine JFa (fun j1=>[(4,.bo j1)]) (fun j1=>[]) (fun z=>j1=z) ?_ ?_
 .have hr:=hx;clear hx hy;refine jEa ?_;refine zPa rfl (zEa (d:=5) rfl rfl voa) ?_;refine zPa rfl (zEa (d:=6) rfl rfl (qXa (f:=cU) rfl zpa.u)) ?_;refine zPa rfl (zEa (d:=7) rfl rfl voa) ?_;refine zPa rfl (zEa (d:=8) rfl rfl (qXa (f:=cU) rfl zpa.u)) ?_;refine zPa rfl (zEa (d:=9) rfl rfl (ev_geq rfl rfl)) ?_;refine zPa rfl (zEa (d:=10) rfl rfl voa)<|vea (decide ((a1.length:Int)<=(a0.length:Int))) (fun c2=>?_) (fun c2=>?_)
  .replace hr:=Qma c2 hr
   refine wGa (d:=10) rfl rfl rfl c2 (zEa (d:=11) rfl rfl voa) ?_;refine wGa (d:=10) rfl rfl rfl c2 (zEa (d:=12) rfl rfl voa) ?_;refine wGa (d:=10) rfl rfl rfl c2 (zEa (d:=13) rfl rfl (qXa (f:=cU) rfl zpa.u)) ?_;refine wGa (d:=10) rfl rfl rfl c2 (zEa (d:=14) rfl rfl voa) ?_;refine wGa (d:=10) rfl rfl rfl c2 (zEa (d:=15) rfl rfl (qXa (f:=cU) rfl zpa.u)) ?_;refine wGa (d:=10) rfl rfl rfl c2 (zEa (d:=16) rfl rfl (wMb rfl rfl)) ?_;obtain ⟨v3,h4,hr⟩:=zaa hr;refine wGa (d:=10) rfl rfl rfl c2 (zEa (d:=17) rfl rfl (wWb (F:=cU) rfl rfl zpa zJa (fun _=>rfl) h4)) ?_;refine wGa (d:=10) rfl rfl rfl c2 (zEa (d:=18) rfl rfl voa) ?_;obtain ⟨v5,h6,hr⟩:=zaa hr;refine wGa (d:=10) rfl rfl rfl c2 (Wra (k:=19) (Ysa v3 a1 v5 h6) rfl rfl) ?_;refine zPa rfl (zEa (d:=20) rfl rfl (wRa rfl c2)) ?_;refine zPa rfl (zEa (d:=4) rfl rfl yAa) ?_;refine Kja ?_;cases hr;exact Vza _ rfl (zfa rfl zIa) zga
  replace hr:=Qna c2 hr
  refine yza (d:=10) rfl rfl rfl c2 ?_;refine yza (d:=10) rfl rfl rfl c2 ?_;refine yza (d:=10) rfl rfl rfl c2 ?_;refine yza (d:=10) rfl rfl rfl c2 ?_;refine yza (d:=10) rfl rfl rfl c2 ?_;refine yza (d:=10) rfl rfl rfl c2 ?_;refine yza (d:=10) rfl rfl rfl c2 ?_;refine yza (d:=10) rfl rfl rfl c2 ?_;refine yza (d:=10) rfl rfl rfl c2 ?_;refine zPa rfl (zEa (d:=20) rfl rfl (k7a rfl c2)) ?_;refine zPa rfl (zEa (d:=4) rfl rfl yAa) ?_;refine Kja ?_;cases hr;exact Vza _ rfl (zfa rfl zIa) zga
 rintro _ rfl;have hr:=hy;clear hx hy;refine kSb ?_;cases hr;exact kret' rfl (.cons (kVb rfl) .nil) rfl
theorem KCa(a0:List UInt8)(a1:List UInt8)(r:List UInt8)(hr:kHa a0 a1=some r):Run Tryz.prog 168 [.l cU a0,.l cU a1] (.l cU r):=by
 unfold kHa at hr;refine rf (fn:=Tryz.f168) ⟨Tryz.func168,rfl,by kernel_rfl⟩ rfl (fun _=>rfl) fun g0 hg=>?_
 refine rn tk 10 rfl ?_;obtain ⟨v1,h2,hr⟩:=zaa hr;refine cl (y0a _ _ _ h2) rfl rfl<|rn tk 2 rfl<|ac 7 hr rfl (fun c3 hr=>?_) (fun c3 hr=>?_)
 .refine rn tk 4 rfl<|wn tk rfl rfl rfl<|rn tk 1 rfl<|wn tk rfl rfl rfl<|rn tk 1 rfl ?_;obtain ⟨v4,h5,hr⟩:=zaa hr;refine wlH tk h5 rfl rfl rfl (fun _=>rfl) rfl<|rn tk 5 rfl ?_;cases hr;exact kr tk (.inr rfl) rfl rfl
 refine rn tk 9 rfl ?_;cases hr;exact kr tk (.inr rfl) rfl rfl
theorem Yta(a0:List UInt8)(r:Str × Int)(hr:ySa a0=some r):Run Tryz.prog 150 [.l cU a0] (.tup [.s r.1,.i r.2]):=by
 unfold ySa at hr;refine rf (fn:=Tryz.f150) ⟨Tryz.func150,rfl,by kernel_rfl⟩ rfl (fun _=>rfl) fun g0 hg=>?_
 refine rn tk 9 rfl ?_;obtain ⟨v1,h2,hr⟩:=zaa hr;refine cl (Qga _ _ _ h2) rfl rfl<|rn tk 10 rfl<|ac 8 hr rfl (fun c3 hr=>?_) (fun c3 hr=>?_)
 .refine rn tk 3 rfl<|wb tk rfl rfl rfl<|rn tk 1 rfl<|wn tk rfl rfl rfl<|rn tk 6 rfl ?_;cases hr;exact kr tk (.inr rfl) rfl rfl
 refine rn tk 6 rfl ?_;obtain ⟨v4,h5,hr⟩:=zaa hr;refine wlH tk h5 rfl rfl rfl (fun _=>rfl) rfl ?_;refine y9a rfl (Qqa (F:=cU) (l:=([(13:UInt8)]:List UInt8)) zpa zJa rfl (fun _=>rfl) rfl rfl) zpa zJa (zua rfl) (zua rfl) rfl (hO ?_);obtain ⟨v6,h7,hr⟩:=zaa hr;refine cl (KCa _ _ _ h7) rfl rfl<|wb tk rfl rfl rfl<|rn tk 7 rfl ?_;cases hr;exact kr tk (.inr rfl) rfl rfl
theorem Yua(a0:List UInt8)(r:(List zia) × Int × zra)(hr:Zaa a0=some r):Run Tryz.prog 122 [.l cU a0] (.tup [.l zia.pc r.1,.i r.2.1,.agg [.i r.2.2.Code,.i r.2.2.Index]]):=by
 unfold Zaa at hr;refine rf (fn:=Tryz.f122) ⟨Tryz.func122,rfl,by kernel_rfl⟩ rfl (fun _=>rfl) fun g0 hg=>?_
 refine rn tk 11 rfl<|wn tk rfl rfl rfl<|rn tk 3 rfl<|ac 16 hr rfl (fun c1 hr=>?_) (fun c1 hr=>?_)
 .refine rn tk 2 rfl ?_;obtain ⟨v2,h3,hr⟩:=zaa hr;refine cl (zja _ _ _ h3) rfl rfl<|rn tk 7 rfl ?_;cases hr;exact kr tk (.inr rfl) rfl rfl
 refine rn tk 5 rfl ?_;refine wna 1005 (d:=5) 87 2 rfl rfl rfl (hO ?_);refine rn tk 9 rfl<|al1 hr (fun s4=>[(0,.l cU a0),(4,.ptr 4 0),(5,.hs 1005 0),(6,.i s4.1)]) (fun s4=>[(1005,.row 87 true 2 (List.map zia.pc s4.2)),(4,.cells [.i 0,.i 0])]) (.exit 0) (fun b5=>[(4,.ptr 4 0),(5,.hs 1005 0),(6,.i b5.1)]) (fun b5=>[(1005,.row 87 true 2 (List.map zia.pc b5.2)),(4,.cells [.i 0,.i 0])]) rfl rfl (fun s4 x6 hr=>?_) (fun b5 hr=>?_)
 .unfold vya at hr;refine rn tk 5 rfl<|wn tk rfl rfl rfl<|rn tk 3 rfl<|ac 21 hr rfl (fun c7 hr=>?_) (fun c7 hr=>?_)
  .refine rn tk 7 rfl ?_;obtain ⟨v8,h9,hr⟩:=zaa hr;refine wlL tk h9 rfl rfl rfl (fun _=>rfl) rfl ?_;obtain ⟨v10,h11,hr⟩:=zaa hr;refine cl (Yta _ _ h11) rfl rfl<|rn tk 14 rfl<|ac 30 hr rfl (fun c12 hr=>?_) (fun c12 hr=>?_)
   .refine rn tk 11 rfl ?_;cases hr;exact ato rfl rfl rfl rfl
   refine rn tk 3 rfl<|jb hr (fun j13=>[(0,.l cU a0),(4,.ptr 4 0),(5,.hs 1005 0),(6,.i s4.1),(7,.s v10.1),(8,.i v10.2),(41,.bo j13)]) (fun j13=>[(1005,.row 87 true 2 (List.map zia.pc s4.2)),(4,.cells [.i 0,.i 0])]) (fun j13 hr=>?_) (fun j13 hr=>?_)
   .refine rn tk 2 rfl ?_;obtain ⟨v14,h15,hr⟩:=zaa hr;refine ws tk h15 rfl rfl rfl rfl ?_;obtain ⟨v16,h17,hr⟩:=zaa hr;refine cl (q8a _ _ h17) rfl rfl<|rn tk 1 rfl<|bs 37 hr rfl (fun c18 hr=>?_) (fun c18 hr=>?_)
    .refine rn tk 1 rfl<|ug rfl rfl rfl<|wnh tk rfl rfl rfl rfl<|rn tk 3 rfl ?_;cases hr;exact jn _ rfl rfl rfl
    refine rn tk 5 rfl ?_;cases hr;exact jn _ rfl rfl rfl
   refine ac 41 hr rfl (fun c19 hr=>?_) (fun c19 hr=>?_)
   .refine rn tk 4 rfl<|wnh tk rfl rfl rfl rfl<|rn tk 1 rfl ?_;obtain ⟨v20,h21,hr⟩:=zaa hr;refine wih tk h21 rfl rfl rfl rfl rfl<|rn tk 1 rfl ?_;obtain ⟨v22,h23,hr⟩:=zaa hr;refine wq (JNa (F:=zia.pc) (l:=s4.2) (n:=((w64 ((s4.2.length:Int) - 1)))) (j:=1) rfl rfl zHa rfl h23 rfl) rfl rfl rfl<|rn tk 1 rfl ?_;obtain ⟨v24,h25,hr⟩:=zaa hr;refine wc h25 rfl rfl rfl ?_;obtain ⟨v26,h27,hr⟩:=zaa hr;refine wih tk h27 rfl rfl rfl rfl rfl<|rn tk 1 rfl ?_;obtain ⟨v28,h29,hr⟩:=zaa hr;refine wo (KRa (F:=zia.pc) (l:=s4.2) (n:=((w64 ((s4.2.length:Int) - 1)))) (j:=1) (v:=v28) (v' :=((zia.mk v28.Name v24))) (pcs:=[pS v24]) rfl rfl rfl zHa rfl h29 rfl rfl) rfl<|rn tk 13 rfl ?_;cases hr;exact atc rfl rfl
   refine rn tk 5 rfl ?_;obtain ⟨v30,h31,hr⟩:=zaa hr;refine cl (Vua _ _ h31) rfl rfl<|rn tk 15 rfl<|ac 62 hr rfl (fun c32 hr=>?_) (fun c32 hr=>?_)
   .refine rn tk 3 rfl ?_;cases hr;exact ato rfl rfl rfl rfl
   refine rn tk 6 rfl<|wz zia.pc ([v30.1]:List zia) tk rfl rfl (fun _=>rfl) rfl rfl rfl ?_;obtain ⟨v33,h34,hr⟩:=zaa hr;refine wa tk h34 rfl rfl rfl rfl (fun _=>rfl) rfl rfl<|rn tk 10 rfl ?_;cases hr;exact atc rfl rfl
  refine rn tk 2 rfl ?_;cases hr;exact ato rfl rfl rfl rfl
 refine rn tk 6 rfl<|wnh tk rfl rfl rfl rfl<|rn tk 3 rfl<|ac 72 hr rfl (fun c35 hr=>?_) (fun c35 hr=>?_)
 .refine rn tk 2 rfl ?_;obtain ⟨v36,h37,hr⟩:=zaa hr;refine cl (zja _ _ _ h37) rfl rfl<|rn tk 7 rfl ?_;cases hr;exact kr tk (.inr rfl) rfl rfl
 refine rn tk 4 rfl<|wz cS ([([0]:Str),([32]:Str),([13]:Str),([32]:Str)]:List Str) tk rfl rfl (fun _=>rfl) rfl rfl rfl<|wo (zva (k:=75) (Zja 7075) rfl rfl zga) rfl<|rn tk 7 rfl<|wnh tk rfl rfl rfl rfl<|rn tk 4 rfl<|al2 hr (fun s38=>[(4,.ptr 4 0),(5,.hs 1005 0),(6,.i b5.1),(11,.ptr 7075 0),(77,.i ((b5.2.length:Int))),(78,.i s38.1)]) (fun s38=>[(7075,.opq 0 5 RpQ),(1005,.row 87 true 2 (List.map zia.pc s38.2)),(4,.cells [.i 0,.i 0])]) (.exit 2) (fun b39=>[(4,.ptr 4 0),(5,.hs 1005 0),(6,.i b5.1)]) (fun b39=>[(1005,.row 87 true 2 (List.map zia.pc b39)),(4,.cells [.i 0,.i 0])]) .ret (fun b40=>[(2,.l zia.pc b40.1),(3,.i b40.2.1),(4,.ptr 4 0)]) (fun b40=>[(4,.cells [.i b40.2.2.Code,.i b40.2.2.Index])]) rfl rfl (fun s38 x42 hr=>?_) (fun b39 hr=>?_) (fun b40 hr=>?_)
 .unfold vza at hr;refine rn tk 6 rfl<|ac 79 hr rfl (fun c43 hr=>?_) (fun c43 hr=>?_)
  .refine rn tk 15 rfl ?_;obtain ⟨v44,h45,hr⟩:=zaa hr;refine wih tk h45 rfl rfl rfl rfl rfl<|rn tk 1 rfl ?_;obtain ⟨v46,h47,hr⟩:=zaa hr;refine wq (JNa (F:=zia.pc) (l:=s38.2) (n:=s38.1) (j:=1) rfl rfl zHa rfl h47 rfl) rfl rfl rfl ?_;obtain ⟨v48,h49,hr⟩:=zaa hr;refine wo (zva (k:=87) (yta 7075 v46.Value v48 h49) rfl rfl (zba rfl zga)) rfl ?_;obtain ⟨v50,h51,hr⟩:=zaa hr;refine cl (V6a _ _ _ h51) rfl rfl<|rn tk 11 rfl<|ac 91 hr rfl (fun c52 hr=>?_) (fun c52 hr=>?_)
   .refine rn tk 3 rfl ?_;obtain ⟨v53,h54,hr⟩:=zaa hr;refine cl (zja _ _ _ h54) rfl rfl<|rn tk 9 rfl ?_;cases hr;exact ato rfl rfl rfl rfl
   refine rn tk 6 rfl ?_;obtain ⟨v55,h56,hr⟩:=zaa hr;refine wih tk h56 rfl rfl rfl rfl rfl<|rn tk 1 rfl ?_;obtain ⟨v57,h58,hr⟩:=zaa hr;refine wo (KRa (F:=zia.pc) (l:=s38.2) (n:=s38.1) (j:=1) (v:=v57) (v' :=((zia.mk v57.Name v50))) (pcs:=[pS v50]) rfl rfl rfl zHa rfl h58 rfl rfl) rfl<|rn tk 7 rfl ?_;cases hr;exact atc rfl rfl
  refine rn tk 2 rfl ?_;cases hr;exact ato rfl rfl rfl rfl
 .refine rn tk 6 rfl ?_;obtain ⟨v59,h60,hr⟩:=zaa hr;refine cl (zGa _ h60) rfl rfl<|rn tk 5 rfl ?_;refine JMa 1005 rfl (hC ?_);refine jYa (d:=2) (F:=zia.pc) (l:=b39) rfl rfl (hC ?_);refine rn tk 1 rfl ?_;cases hr;exact kr tk (.inr rfl) rfl rfl
 refine rn tk 2 rfl ?_;cases hr;exact kr tk (.inr rfl) rfl rfl
theorem Qha(a0:List zia)(r:zra)(hr:q3a a0=some r):Run Tryz.prog 79 [.l zia.pc a0] (.agg [.i r.Code,.i r.Index]):=by
 unfold q3a at hr;refine rf (fn:=Tryz.f79) ⟨Tryz.func79,rfl,by kernel_rfl⟩ rfl (fun _=>rfl) fun g0 hg=>?_
 refine rn tk 9 rfl<|wn tk rfl rfl rfl<|rn tk 3 rfl<|ac 9 hr rfl (fun c1 hr=>?_) (fun c1 hr=>?_)
 .refine rn tk 2 rfl ?_;obtain ⟨v2,h3,hr⟩:=zaa hr;refine cl (zja _ _ _ h3) rfl rfl<|rn tk 5 rfl ?_;cases hr;exact kr tk (.inr rfl) rfl rfl
 refine rn tk 6 rfl<|wn tk rfl rfl rfl<|rn tk 4 rfl<|al2 hr (fun s4=>[(2,.ptr 2 0),(11,.l zia.pc a0),(12,.i ((a0.length:Int))),(13,.i s4)]) (fun s4=>[(2,.cells [.i 0,.i 0])]) (.exit 0) (fun b5=>[(2,.ptr 2 0)]) (fun b5=>[(2,.cells [.i 0,.i 0])]) .ret (fun b6=>[(2,.ptr 2 0)]) (fun b6=>[(2,.cells [.i b6.Code,.i b6.Index])]) rfl rfl (fun s4 x8 hr=>?_) (fun b5 hr=>?_) (fun b6 hr=>?_)
 .unfold qSa at hr;refine rn tk 6 rfl<|ac 14 hr rfl (fun c9 hr=>?_) (fun c9 hr=>?_)
  .refine rn tk 7 rfl ?_;obtain ⟨v10,h11,hr⟩:=zaa hr;refine wi tk h11 rfl rfl rfl rfl rfl<|rn tk 12 rfl ?_;obtain ⟨v12,h13,hr⟩:=zaa hr;refine cl (Zla _ _ _ h13) rfl rfl<|rn tk 11 rfl ?_;obtain ⟨v14,h15,hr⟩:=zaa hr;refine cl (zza _ _ h15) rfl rfl<|rn tk 2 rfl<|ac 27 hr rfl (fun c16 hr=>?_) (fun c16 hr=>?_)
   .refine rn tk 5 rfl ?_;obtain ⟨v17,h18,hr⟩:=zaa hr;refine cl (zja _ _ _ h18) rfl rfl<|rn tk 6 rfl ?_;cases hr;exact ato rfl rfl rfl rfl
   refine rn tk 7 rfl ?_;cases hr;exact atc rfl rfl
  refine rn tk 2 rfl ?_;cases hr;exact ato rfl rfl rfl rfl
 .refine rn tk 4 rfl ?_;obtain ⟨v19,h20,hr⟩:=zaa hr;refine cl (zGa _ h20) rfl rfl<|rn tk 4 rfl ?_;cases hr;exact kr tk (.inr rfl) rfl rfl
 refine rn tk 2 rfl ?_;cases hr;exact kr tk (.inr rfl) rfl rfl
theorem YOa(a0:List UInt8)(r:Int)(hr:jOa a0=some r):Run Tryz.prog 112 [.l cU a0] (.i r):=by
 unfold jOa at hr;refine rf (fn:=Tryz.f112) ⟨Tryz.func112,rfl,by kernel_rfl⟩ rfl (fun _=>rfl) fun g0 hg=>?_
 refine rn tk 17 rfl<|al2 hr (fun s1=>[(0,.l cU a0),(3,.i s1.1),(4,.i s1.2)]) (fun s1=>[]) (.exit 0) (fun b2=>[]) (fun b2=>[]) .ret (fun b3=>[(2,.i b3)]) (fun b3=>[]) rfl rfl (fun s1 x5 hr=>?_) (fun b2 hr=>?_) (fun b3 hr=>?_)
 .unfold via at hr;refine rn tk 5 rfl<|wn tk rfl rfl rfl<|rn tk 3 rfl<|ac 9 hr rfl (fun c6 hr=>?_) (fun c6 hr=>?_)
  .refine rn tk 2 rfl<|jk (fun j7=>[(0,.l cU a0),(3,.i j7.1),(4,.i j7.2)]) (fun j7=>[]) (fun j7=>v1a j7=some x5) ?_ ?_
   .refine rn tk 5 rfl ?_;obtain ⟨v8,h9,hr⟩:=zaa hr;refine wi tk h9 rfl rfl rfl rfl rfl<|rn tk 5 rfl<|jb hr (fun j10=>[(0,.l cU a0),(3,.i s1.1),(4,.i s1.2),(5,.u8 v8),(32,.bo j10)]) (fun j10=>[]) (fun j10 hr=>?_) (fun j10 hr=>?_)
    .refine rn tk 4 rfl<|bs 18 hr rfl (fun c11 hr=>?_) (fun c11 hr=>?_)
     .refine rn tk 3 rfl<|ug rfl rfl rfl<|wn tk rfl rfl rfl<|rn tk 3 rfl<|bs 25 hr rfl (fun c12 hr=>?_) (fun c12 hr=>?_)
      .refine rn tk 3 rfl ?_;obtain ⟨v13,h14,hr⟩:=zaa hr;refine ug rfl rfl rfl<|wi tk h14 rfl rfl rfl rfl rfl<|rn tk 4 rfl ?_;cases hr;exact jn _ rfl rfl rfl
      refine rn tk 8 rfl ?_;cases hr;exact jn _ rfl rfl rfl
     refine rn tk 15 rfl ?_;cases hr;exact jn _ rfl rfl rfl
    refine ac 32 hr rfl (fun c15 hr=>?_) (fun c15 hr=>?_)
    .refine rn tk 15 rfl<|jn ((0,(w64 (s1.2+1)))) hr rfl rfl
    refine rn tk 3 rfl<|jb hr (fun j16=>[(0,.l cU a0),(3,.i s1.1),(4,.i s1.2),(40,.bo j16)]) (fun j16=>[]) (fun j16 hr=>?_) (fun j16 hr=>?_)
    .refine rn tk 4 rfl<|bs 37 hr rfl (fun c17 hr=>?_) (fun c17 hr=>?_)
     .refine rn tk 4 rfl ?_;cases hr;exact jn _ rfl rfl rfl
     refine rn tk 4 rfl ?_;cases hr;exact jn _ rfl rfl rfl
    refine ac 40 hr rfl (fun c18 hr=>?_) (fun c18 hr=>?_)
    .refine rn tk 9 rfl ?_;cases hr;exact ato rfl rfl rfl rfl
    refine rn tk 15 rfl<|ac 44 hr rfl (fun c19 hr=>?_) (fun c19 hr=>?_)
    .refine rn tk 8 rfl ?_;cases hr;exact ato rfl rfl rfl rfl
    refine rn tk 2 rfl<|jn (((w64 (s1.1+1)),s1.2)) hr rfl rfl
   intro j7 hr;unfold v1a at hr;refine rn tk 5 rfl ?_;cases hr;exact atc rfl rfl
  refine rn tk 2 rfl ?_;cases hr;exact ato rfl rfl rfl rfl
 .refine rn tk 8 rfl ?_;cases hr;exact kr tk (.inr rfl) rfl rfl
 refine rn tk 2 rfl ?_;cases hr;exact kr tk (.inr rfl) rfl rfl
theorem V7a(a0:List UInt8)(r:zra)(hr:wXa a0=some r):Run Tryz.prog 80 [.l cU a0] (.agg [.i r.Code,.i r.Index]):=by
 unfold wXa at hr;refine rf (fn:=Tryz.f80) ⟨Tryz.func80,rfl,by kernel_rfl⟩ rfl (fun _=>rfl) fun g0 hg=>?_
 refine rn tk 9 rfl ?_;obtain ⟨v1,h2,hr⟩:=zaa hr;refine cl (YOa _ _ h2) rfl rfl<|rn tk 9 rfl<|ac 5 hr rfl (fun c3 hr=>?_) (fun c3 hr=>?_)
 .refine rn tk 2 rfl ?_;obtain ⟨v4,h5,hr⟩:=zaa hr;refine cl (zja _ _ _ h5) rfl rfl<|rn tk 6 rfl ?_;cases hr;exact kr tk (.inr rfl) rfl rfl
 refine rn tk 6 rfl<|ac 8 hr rfl (fun c6 hr=>?_) (fun c6 hr=>?_)
 .refine rn tk 2 rfl ?_;obtain ⟨v7,h8,hr⟩:=zaa hr;refine cl (zja _ _ _ h8) rfl rfl<|rn tk 6 rfl ?_;cases hr;exact kr tk (.inr rfl) rfl rfl
 refine rn tk 5 rfl ?_;obtain ⟨v9,h10,hr⟩:=zaa hr;refine cl (zGa _ h10) rfl rfl<|rn tk 4 rfl ?_;cases hr;exact kr tk (.inr rfl) rfl rfl
theorem jWa(a0:zxa)(r:List UInt8)(hr:vha a0=some r):Run Tryz.prog 54 [.agg [.l zia.pc a0.Fields,.l cU a0.Body]] (.l cU r):=by
 unfold vha at hr;refine rf (fn:=Tryz.f54) ⟨Tryz.func54,rfl,by kernel_rfl⟩ rfl (fun _=>rfl) fun g0 hg=>?_
 refine rn tk 9 rfl ?_;refine Kka 1003 (d:=3) 5 1 rfl rfl rfl (hO ?_);refine rn tk 7 rfl<|wn tk rfl rfl rfl<|rn tk 4 rfl<|al1 hr (fun s1=>[(1,.ptr 1 0),(3,.hs 1003 0),(11,.l zia.pc a0.Fields),(12,.i ((a0.Fields.length:Int))),(13,.i s1.1)]) (fun s1=>[(1003,.row 5 false 1 (List.map cU s1.2)),(1,.cells [.l zia.pc a0.Fields,.l cU a0.Body])]) (.exit 0) (fun b2=>[(1,.ptr 1 0),(3,.hs 1003 0)]) (fun b2=>[(1003,.row 5 false 1 (List.map cU b2)),(1,.cells [.l zia.pc a0.Fields,.l cU a0.Body])]) rfl rfl (fun s1 x3 hr=>?_) (fun b2 hr=>?_)
 .unfold qGa at hr;refine rn tk 6 rfl<|ac 14 hr rfl (fun c4 hr=>?_) (fun c4 hr=>?_)
  .refine rn tk 6 rfl ?_;obtain ⟨v5,h6,hr⟩:=zaa hr;refine wi tk h6 rfl rfl rfl rfl rfl<|rn tk 11 rfl ?_;obtain ⟨v7,h8,hr⟩:=zaa hr;refine cl (Zla _ _ _ h8) rfl rfl<|rn tk 11 rfl<|wn tk rfl rfl rfl<|rn tk 4 rfl<|al1 hr (fun s9=>[(1,.ptr 1 0),(3,.hs 1003 0),(11,.l zia.pc a0.Fields),(12,.i ((a0.Fields.length:Int))),(13,.i s1.1),(25,.l cS v7.1),(26,.i ((v7.1.length:Int))),(27,.i s9.1)]) (fun s9=>[(1003,.row 5 false 1 (List.map cU s9.2)),(1,.cells [.l zia.pc a0.Fields,.l cU a0.Body])]) (.exit 2) (fun b10=>[(1,.ptr 1 0),(3,.hs 1003 0),(11,.l zia.pc a0.Fields),(12,.i ((a0.Fields.length:Int))),(13,.i s1.1)]) (fun b10=>[(1003,.row 5 false 1 (List.map cU b10)),(1,.cells [.l zia.pc a0.Fields,.l cU a0.Body])]) rfl rfl (fun s9 x11 hr=>?_) (fun b10 hr=>?_)
   .unfold qFa at hr;refine rn tk 6 rfl<|ac 28 hr rfl (fun c12 hr=>?_) (fun c12 hr=>?_)
    .refine rn tk 6 rfl ?_;obtain ⟨v13,h14,hr⟩:=zaa hr;refine wi tk h14 rfl rfl rfl rfl rfl<|rn tk 7 rfl ?_;obtain ⟨v15,h16,hr⟩:=zaa hr;refine wo (zMb (k:=33) (l:=s9.2) (s:=v13) (lim:=140737488355328) rfl rfl rfl rfl zpa zHa.u zJa rfl h16) rfl<|wz cU ([(13:UInt8),(10:UInt8)]:List UInt8) tk rfl rfl (fun _=>rfl) rfl rfl rfl ?_;obtain ⟨v17,h18,hr⟩:=zaa hr;refine wa tk h18 rfl rfl rfl rfl (fun _=>rfl) rfl rfl<|rn tk 8 rfl ?_;cases hr;exact atc rfl rfl
    refine rn tk 2 rfl ?_;cases hr;exact ato rfl rfl rfl rfl
   refine rn tk 7 rfl ?_;cases hr;exact atc rfl rfl
  refine rn tk 2 rfl ?_;cases hr;exact ato rfl rfl rfl rfl
 refine rn tk 3 rfl ?_;obtain ⟨v19,h20,hr⟩:=zaa hr;obtain ⟨v21,h22,hr⟩:=zaa hr;refine k5b [([false,false,false,false,false,false,false],[(1,.ptr 1 0),(3,.hs 1003 0)],[(1003,.row 5 false 1 (List.map cU b2)),(1,.cells [.l zia.pc a0.Fields,.l cU a0.Body])]),([true,false,false,false,false,false,false],[(1,.ptr 1 0),(3,.hs 1003 0),(38,.hs 1003 0)],[(1003,.row 5 false 1 (List.map cU b2)),(1,.cells [.l zia.pc a0.Fields,.l cU a0.Body])]),([false,true,false,false,false,false,false],[(1,.ptr 1 0),(3,.hs 1003 0),(39,.l cU (([(13:UInt8),(10:UInt8)]:List UInt8)))],[(1003,.row 5 false 1 (List.map cU b2)),(1,.cells [.l zia.pc a0.Fields,.l cU a0.Body])]),([false,false,false,true,false,false,false],[(1,.ptr 1 0),(3,.hs 1003 0),(41,.ptr 1 1)],[(1003,.row 5 false 1 (List.map cU b2)),(1,.cells [.l zia.pc a0.Fields,.l cU a0.Body])]),([true,true,false,false,false,false,false],[(1,.ptr 1 0),(3,.hs 1003 0),(38,.hs 1003 0),(39,.l cU (([(13:UInt8),(10:UInt8)]:List UInt8)))],[(1003,.row 5 false 1 (List.map cU b2)),(1,.cells [.l zia.pc a0.Fields,.l cU a0.Body])]),([true,false,false,true,false,false,false],[(1,.ptr 1 0),(3,.hs 1003 0),(38,.hs 1003 0),(41,.ptr 1 1)],[(1003,.row 5 false 1 (List.map cU b2)),(1,.cells [.l zia.pc a0.Fields,.l cU a0.Body])]),([false,true,false,true,false,false,false],[(1,.ptr 1 0),(3,.hs 1003 0),(39,.l cU (([(13:UInt8),(10:UInt8)]:List UInt8))),(41,.ptr 1 1)],[(1003,.row 5 false 1 (List.map cU b2)),(1,.cells [.l zia.pc a0.Fields,.l cU a0.Body])]),([false,false,false,true,true,false,false],[(1,.ptr 1 0),(3,.hs 1003 0),(41,.ptr 1 1),(42,.l cU a0.Body)],[(1003,.row 5 false 1 (List.map cU b2)),(1,.cells [.l zia.pc a0.Fields,.l cU a0.Body])]),([true,true,true,false,false,false,false],[(1,.ptr 1 0),(39,.l cU (([(13:UInt8),(10:UInt8)]:List UInt8))),(40,.hs 1003 0)],[(1003,.row 5 false 1 (List.map cU v19)),(1,.cells [.l zia.pc a0.Fields,.l cU a0.Body])]),([true,true,false,true,false,false,false],[(1,.ptr 1 0),(3,.hs 1003 0),(38,.hs 1003 0),(39,.l cU (([(13:UInt8),(10:UInt8)]:List UInt8))),(41,.ptr 1 1)],[(1003,.row 5 false 1 (List.map cU b2)),(1,.cells [.l zia.pc a0.Fields,.l cU a0.Body])]),([true,false,false,true,true,false,false],[(1,.ptr 1 0),(3,.hs 1003 0),(38,.hs 1003 0),(41,.ptr 1 1),(42,.l cU a0.Body)],[(1003,.row 5 false 1 (List.map cU b2)),(1,.cells [.l zia.pc a0.Fields,.l cU a0.Body])]),([false,true,false,true,true,false,false],[(1,.ptr 1 0),(3,.hs 1003 0),(39,.l cU (([(13:UInt8),(10:UInt8)]:List UInt8))),(41,.ptr 1 1),(42,.l cU a0.Body)],[(1003,.row 5 false 1 (List.map cU b2)),(1,.cells [.l zia.pc a0.Fields,.l cU a0.Body])]),([true,true,true,true,false,false,false],[(1,.ptr 1 0),(39,.l cU (([(13:UInt8),(10:UInt8)]:List UInt8))),(40,.hs 1003 0),(41,.ptr 1 1)],[(1003,.row 5 false 1 (List.map cU v19)),(1,.cells [.l zia.pc a0.Fields,.l cU a0.Body])]),([true,true,false,true,true,false,false],[(1,.ptr 1 0),(3,.hs 1003 0),(38,.hs 1003 0),(39,.l cU (([(13:UInt8),(10:UInt8)]:List UInt8))),(41,.ptr 1 1),(42,.l cU a0.Body)],[(1003,.row 5 false 1 (List.map cU b2)),(1,.cells [.l zia.pc a0.Fields,.l cU a0.Body])]),([true,true,true,true,true,false,false],[(1,.ptr 1 0),(39,.l cU (([(13:UInt8),(10:UInt8)]:List UInt8))),(40,.hs 1003 0),(41,.ptr 1 1),(42,.l cU a0.Body)],[(1003,.row 5 false 1 (List.map cU v19)),(1,.cells [.l zia.pc a0.Fields,.l cU a0.Body])]),([true,true,true,true,true,true,false],[(1,.ptr 1 0),(39,.l cU (([(13:UInt8),(10:UInt8)]:List UInt8))),(41,.ptr 1 1),(42,.l cU a0.Body),(43,.hs 1003 0)],[(1003,.row 5 false 1 (List.map cU v21)),(1,.cells [.l zia.pc a0.Fields,.l cU a0.Body])]),([true,true,true,true,true,true,true],[(1,.ptr 1 0),(2,.hs 1003 0),(39,.l cU (([(13:UInt8),(10:UInt8)]:List UInt8))),(41,.ptr 1 1),(42,.l cU a0.Body),(43,.hs 1003 0)],[(1003,.row 5 false 1 (List.map cU v21)),(1,.cells [.l zia.pc a0.Fields,.l cU a0.Body])])] mixed (by kernel_rfl) rfl rfl (zfa rfl (zfa rfl zIa)) (zba rfl (zba rfl zga)) (.cons (.step [0,1,3] (by kernel_rfl) rfl (.cons (.yes 1 rfl (zua rfl) (zEa (d:=38) rfl rfl voa) rfl (zfa rfl (zfa rfl (zfa rfl zIa))) (zba rfl (zba rfl zga))) (.cons (.yes 2 rfl (zua rfl) (Wta (d:=39) rfl rfl (wpa (F:=cU) (l:=([(13:UInt8),(10:UInt8)]:List UInt8)) zpa zJa rfl (fun _=>rfl) rfl rfl)) rfl (zfa rfl (zfa rfl (zfa rfl zIa))) (zba rfl (zba rfl zga))) (.cons (.yes 3 rfl (zua rfl) (zEa (d:=41) rfl rfl (vQa rfl qKa.u rfl zpa rfl)) rfl (zfa rfl (zfa rfl (zfa rfl zIa))) (zba rfl (zba rfl zga))) .nil)))) (.cons (.step [1,3] (by kernel_rfl) rfl (.cons (.yes 4 rfl (zua rfl) (Wta (d:=39) rfl rfl (wpa (F:=cU) (l:=([(13:UInt8),(10:UInt8)]:List UInt8)) zpa zJa rfl (fun _=>rfl) rfl rfl)) rfl (zfa rfl (zfa rfl (zfa rfl (zfa rfl zIa)))) (zba rfl (zba rfl zga))) (.cons (.yes 5 rfl (zua rfl) (zEa (d:=41) rfl rfl (vQa rfl qKa.u rfl zpa rfl)) rfl (zfa rfl (zfa rfl (zfa rfl (zfa rfl zIa)))) (zba rfl (zba rfl zga))) .nil))) (.cons (.step [0,3] (by kernel_rfl) rfl (.cons (.yes 4 rfl (zua rfl) (zEa (d:=38) rfl rfl voa) rfl (zfa rfl (zfa rfl (zfa rfl (zfa rfl zIa)))) (zba rfl (zba rfl zga))) (.cons (.yes 6 rfl (zua rfl) (zEa (d:=41) rfl rfl (vQa rfl qKa.u rfl zpa rfl)) rfl (zfa rfl (zfa rfl (zfa rfl (zfa rfl zIa)))) (zba rfl (zba rfl zga))) .nil))) (.cons (.step [0,1,4] (by kernel_rfl) rfl (.cons (.yes 5 rfl (zua rfl) (zEa (d:=38) rfl rfl voa) rfl (zfa rfl (zfa rfl (zfa rfl (zfa rfl zIa)))) (zba rfl (zba rfl zga))) (.cons (.yes 6 rfl (zua rfl) (Wta (d:=39) rfl rfl (wpa (F:=cU) (l:=([(13:UInt8),(10:UInt8)]:List UInt8)) zpa zJa rfl (fun _=>rfl) rfl rfl)) rfl (zfa rfl (zfa rfl (zfa rfl (zfa rfl zIa)))) (zba rfl (zba rfl zga))) (.cons (.yes 7 rfl (zua rfl) (zEa (d:=42) rfl rfl (QRa rfl rfl zpa rfl rfl)) rfl (zfa rfl (zfa rfl (zfa rfl (zfa rfl zIa)))) (zba rfl (zba rfl zga))) .nil)))) (.cons (.step [2,3] (by kernel_rfl) rfl (.cons (.yes 8 rfl (zua rfl) (wma (k:=40) (F:=cU) (l:=b2) (xs:=(([(13:UInt8),(10:UInt8)]:List UInt8))) (lim:=140737488355328) rfl rfl rfl rfl zpa zJa rfl rfl (fun _=>rfl) rfl h20) rfl (zfa rfl (zfa rfl (zfa rfl zIa))) (zba rfl (zba rfl zga))) (.cons (.yes 9 rfl (zua rfl) (zEa (d:=41) rfl rfl (vQa rfl qKa.u rfl zpa rfl)) rfl (zfa rfl (zfa rfl (zfa rfl (zfa rfl (zfa rfl zIa))))) (zba rfl (zba rfl zga))) .nil))) (.cons (.step [1,4] (by kernel_rfl) rfl (.cons (.yes 9 rfl (zua rfl) (Wta (d:=39) rfl rfl (wpa (F:=cU) (l:=([(13:UInt8),(10:UInt8)]:List UInt8)) zpa zJa rfl (fun _=>rfl) rfl rfl)) rfl (zfa rfl (zfa rfl (zfa rfl (zfa rfl (zfa rfl zIa))))) (zba rfl (zba rfl zga))) (.cons (.yes 10 rfl (zua rfl) (zEa (d:=42) rfl rfl (QRa rfl rfl zpa rfl rfl)) rfl (zfa rfl (zfa rfl (zfa rfl (zfa rfl (zfa rfl zIa))))) (zba rfl (zba rfl zga))) .nil))) (.cons (.step [0,4] (by kernel_rfl) rfl (.cons (.yes 9 rfl (zua rfl) (zEa (d:=38) rfl rfl voa) rfl (zfa rfl (zfa rfl (zfa rfl (zfa rfl (zfa rfl zIa))))) (zba rfl (zba rfl zga))) (.cons (.yes 11 rfl (zua rfl) (zEa (d:=42) rfl rfl (QRa rfl rfl zpa rfl rfl)) rfl (zfa rfl (zfa rfl (zfa rfl (zfa rfl (zfa rfl zIa))))) (zba rfl (zba rfl zga))) .nil))) (.cons (.step [0,1] (by kernel_rfl) rfl (.cons (.yes 10 rfl (zua rfl) (zEa (d:=38) rfl rfl voa) rfl (zfa rfl (zfa rfl (zfa rfl (zfa rfl (zfa rfl zIa))))) (zba rfl (zba rfl zga))) (.cons (.yes 11 rfl (zua rfl) (Wta (d:=39) rfl rfl (wpa (F:=cU) (l:=([(13:UInt8),(10:UInt8)]:List UInt8)) zpa zJa rfl (fun _=>rfl) rfl rfl)) rfl (zfa rfl (zfa rfl (zfa rfl (zfa rfl (zfa rfl zIa))))) (zba rfl (zba rfl zga))) .nil))) (.cons (.step [3] (by kernel_rfl) rfl (.cons (.yes 12 rfl (zua rfl) (zEa (d:=41) rfl rfl (vQa rfl qKa.u rfl zpa rfl)) rfl (zfa rfl (zfa rfl (zfa rfl (zfa rfl zIa)))) (zba rfl (zba rfl zga))) .nil)) (.cons (.step [2,4] (by kernel_rfl) rfl (.cons (.yes 12 rfl (zua rfl) (wma (k:=40) (F:=cU) (l:=b2) (xs:=(([(13:UInt8),(10:UInt8)]:List UInt8))) (lim:=140737488355328) rfl rfl rfl rfl zpa zJa rfl rfl (fun _=>rfl) rfl h20) rfl (zfa rfl (zfa rfl (zfa rfl (zfa rfl zIa)))) (zba rfl (zba rfl zga))) (.cons (.yes 13 rfl (zua rfl) (zEa (d:=42) rfl rfl (QRa rfl rfl zpa rfl rfl)) rfl (zfa rfl (zfa rfl (zfa rfl (zfa rfl (zfa rfl (zfa rfl zIa)))))) (zba rfl (zba rfl zga))) .nil))) (.cons (.step [1] (by kernel_rfl) rfl (.cons (.yes 13 rfl (zua rfl) (Wta (d:=39) rfl rfl (wpa (F:=cU) (l:=([(13:UInt8),(10:UInt8)]:List UInt8)) zpa zJa rfl (fun _=>rfl) rfl rfl)) rfl (zfa rfl (zfa rfl (zfa rfl (zfa rfl (zfa rfl (zfa rfl zIa)))))) (zba rfl (zba rfl zga))) .nil)) (.cons (.step [0] (by kernel_rfl) rfl (.cons (.yes 13 rfl (zua rfl) (zEa (d:=38) rfl rfl voa) rfl (zfa rfl (zfa rfl (zfa rfl (zfa rfl (zfa rfl (zfa rfl zIa)))))) (zba rfl (zba rfl zga))) .nil)) (.cons (.step [4] (by kernel_rfl) rfl (.cons (.yes 14 rfl (zua rfl) (zEa (d:=42) rfl rfl (QRa rfl rfl zpa rfl rfl)) rfl (zfa rfl (zfa rfl (zfa rfl (zfa rfl (zfa rfl zIa))))) (zba rfl (zba rfl zga))) .nil)) (.cons (.step [2] (by kernel_rfl) rfl (.cons (.yes 14 rfl (zua rfl) (wma (k:=40) (F:=cU) (l:=b2) (xs:=(([(13:UInt8),(10:UInt8)]:List UInt8))) (lim:=140737488355328) rfl rfl rfl rfl zpa zJa rfl rfl (fun _=>rfl) rfl h20) rfl (zfa rfl (zfa rfl (zfa rfl (zfa rfl (zfa rfl zIa))))) (zba rfl (zba rfl zga))) .nil)) (.cons (.step [5] (by kernel_rfl) rfl (.cons (.yes 15 rfl (zua rfl) (wma (k:=43) (F:=cU) (l:=v19) (xs:=a0.Body) (lim:=140737488355328) rfl rfl rfl rfl zpa zJa rfl rfl (fun _=>rfl) rfl h22) rfl (zfa rfl (zfa rfl (zfa rfl (zfa rfl (zfa rfl zIa))))) (zba rfl (zba rfl zga))) .nil)) (.cons (.step [6] (by kernel_rfl) rfl (.cons (.yes 16 rfl (zua rfl) (zEa (d:=2) rfl rfl yAa) rfl (zfa rfl (zfa rfl (zfa rfl (zfa rfl (zfa rfl (zfa rfl zIa)))))) (zba rfl (zba rfl zga))) .nil)) (.cons (.full (by kernel_rfl) (hA ?_)) .nil)))))))))))))))));refine rn tk 1 rfl ?_;refine jYa (d:=2) (F:=cU) (l:=v21) rfl rfl (hC ?_);refine rn tk 1 rfl ?_;cases hr;exact kr tk (.inr rfl) rfl rfl
theorem vra(a0:zxa)(r:zra)(hr:kGa a0=some r):Run Tryz.prog 53 [.agg [.l zia.pc a0.Fields,.l cU a0.Body]] (.agg [.i r.Code,.i r.Index]):=by
 unfold kGa at hr;refine rf (fn:=Tryz.f53) ⟨Tryz.func53,rfl,by kernel_rfl⟩ rfl (fun _=>rfl) fun g0 hg=>?_
 refine rn tk 11 rfl ?_;obtain ⟨v1,h2,hr⟩:=zaa hr;refine cl (Qha _ _ h2) rfl rfl<|rn tk 7 rfl ?_;obtain ⟨v3,h4,hr⟩:=zaa hr;refine cl (zza _ _ h4) rfl rfl<|rn tk 2 rfl<|ac 8 hr rfl (fun c5 hr=>?_) (fun c5 hr=>?_)
 .refine rn tk 8 rfl ?_;cases hr;exact kr tk (.inr rfl) rfl rfl
 refine rn tk 6 rfl ?_;obtain ⟨v6,h7,hr⟩:=zaa hr;refine cl (jWa _ _ h7) rfl rfl<|wn tk rfl rfl rfl<|rn tk 3 rfl<|ac 13 hr rfl (fun c8 hr=>?_) (fun c8 hr=>?_)
 .refine rn tk 2 rfl ?_;obtain ⟨v9,h10,hr⟩:=zaa hr;refine cl (zja _ _ _ h10) rfl rfl<|rn tk 5 rfl ?_;cases hr;exact kr tk (.inr rfl) rfl rfl
 refine rn tk 6 rfl ?_;obtain ⟨v11,h12,hr⟩:=zaa hr;refine cl (V7a _ _ h12) rfl rfl<|rn tk 4 rfl ?_;cases hr;exact kr tk (.inr rfl) rfl rfl
theorem Vva(a0:List UInt8)(r:List UInt8)(hr:v6a a0=some r):Run Tryz.prog 123 [.l cU a0] (.l cU r):=by
 unfold v6a at hr;refine rf (fn:=Tryz.f123) ⟨Tryz.func123,rfl,by kernel_rfl⟩ rfl (fun _=>rfl) fun g0 hg=>?_
 refine rn tk 8 rfl ?_;refine Kka 1003 (d:=3) 5 1 rfl rfl rfl (hO ?_);refine rn tk 9 rfl<|al1 hr (fun s1=>[(0,.l cU a0),(3,.hs 1003 0),(4,.i s1.1)]) (fun s1=>[(1003,.row 5 false 1 (List.map cU s1.2))]) (.exit 0) (fun b2=>[(3,.hs 1003 0)]) (fun b2=>[(1003,.row 5 false 1 (List.map cU b2))]) rfl rfl (fun s1 x3 hr=>?_) (fun b2 hr=>?_)
 .unfold qIa at hr;refine rn tk 5 rfl<|wn tk rfl rfl rfl<|rn tk 3 rfl<|ac 8 hr rfl (fun c4 hr=>?_) (fun c4 hr=>?_)
  .refine rn tk 2 rfl<|jb hr (fun j5=>[(0,.l cU a0),(3,.hs 1003 0),(4,.i j5.1)]) (fun j5=>[(1003,.row 5 false 1 (List.map cU j5.2))]) (fun j5 hr=>?_) (fun j5 hr=>?_)
   .refine rn tk 2 rfl<|jb hr (fun j6=>[(0,.l cU a0),(3,.hs 1003 0),(4,.i s1.1),(18,.bo j6)]) (fun j6=>[(1003,.row 5 false 1 (List.map cU s1.2))]) (fun j6 hr=>?_) (fun j6 hr=>?_)
    .refine rn tk 3 rfl ?_;obtain ⟨v7,h8,hr⟩:=zaa hr;refine wi tk h8 rfl rfl rfl rfl rfl<|rn tk 3 rfl<|bs 24 hr rfl (fun c9 hr=>?_) (fun c9 hr=>?_)
     .refine rn tk 3 rfl<|ug rfl rfl rfl<|wn tk rfl rfl rfl<|rn tk 3 rfl<|bs 31 hr rfl (fun c10 hr=>?_) (fun c10 hr=>?_)
      .refine rn tk 3 rfl ?_;obtain ⟨v11,h12,hr⟩:=zaa hr;refine ug rfl rfl rfl<|wi tk h12 rfl rfl rfl rfl rfl<|rn tk 5 rfl ?_;cases hr;exact jn _ rfl rfl rfl
      refine rn tk 9 rfl ?_;cases hr;exact jn _ rfl rfl rfl
     refine rn tk 16 rfl ?_;cases hr;exact jn _ rfl rfl rfl
    refine ac 18 hr rfl (fun c13 hr=>?_) (fun c13 hr=>?_)
    .refine rn tk 9 rfl<|wz cU ([(13:UInt8),(10:UInt8)]:List UInt8) tk rfl rfl (fun _=>rfl) rfl rfl rfl ?_;obtain ⟨v14,h15,hr⟩:=zaa hr;refine wa tk h15 rfl rfl rfl rfl (fun _=>rfl) rfl rfl<|rn tk 4 rfl ?_;cases hr;exact jn _ rfl rfl rfl
    refine jb hr (fun j16=>[(0,.l cU a0),(3,.hs 1003 0),(4,.i s1.1),(44,.bo j16)]) (fun j16=>[(1003,.row 5 false 1 (List.map cU s1.2))]) (fun j16 hr=>?_) (fun j16 hr=>?_)
    .refine rn tk 3 rfl ?_;obtain ⟨v17,h18,hr⟩:=zaa hr;refine wi tk h18 rfl rfl rfl rfl rfl<|rn tk 3 rfl<|bs 50 hr rfl (fun c19 hr=>?_) (fun c19 hr=>?_)
     .refine rn tk 8 rfl ?_;cases hr;exact jn _ rfl rfl rfl
     refine rn tk 2 rfl ?_;obtain ⟨v20,h21,hr⟩:=zaa hr;refine ug rfl rfl rfl<|wi tk h21 rfl rfl rfl rfl rfl<|rn tk 5 rfl ?_;cases hr;exact jn _ rfl rfl rfl
    refine ac 44 hr rfl (fun c22 hr=>?_) (fun c22 hr=>?_)
    .refine rn tk 2 rfl<|wz cU ([(13:UInt8),(10:UInt8)]:List UInt8) tk rfl rfl (fun _=>rfl) rfl rfl rfl ?_;obtain ⟨v23,h24,hr⟩:=zaa hr;refine wa tk h24 rfl rfl rfl rfl (fun _=>rfl) rfl rfl<|rn tk 4 rfl ?_;cases hr;exact jn _ rfl rfl rfl
    refine rn tk 4 rfl ?_;obtain ⟨v25,h26,hr⟩:=zaa hr;refine wi tk h26 rfl rfl rfl rfl rfl<|rn tk 1 rfl<|wz cU ([v25]:List UInt8) tk rfl rfl (fun _=>rfl) rfl rfl rfl ?_;obtain ⟨v27,h28,hr⟩:=zaa hr;refine wa tk h28 rfl rfl rfl rfl (fun _=>rfl) rfl rfl<|rn tk 4 rfl ?_;cases hr;exact jn _ rfl rfl rfl
   refine rn tk 5 rfl ?_;cases hr;exact atc rfl rfl
  refine rn tk 2 rfl ?_;cases hr;exact ato rfl rfl rfl rfl
 refine rn tk 8 rfl ?_;refine jYa (d:=2) (F:=cU) (l:=b2) rfl rfl (hC ?_);refine rn tk 1 rfl ?_;cases hr;exact kr tk (.inr rfl) rfl rfl
theorem V8a(a0:List UInt8)(r:zxa × zra)(hr:w5a a0=some r):Run Tryz.prog 91 [.l cU a0] (.tup [.agg [.l zia.pc r.1.Fields,.l cU r.1.Body],.agg [.i r.2.Code,.i r.2.Index]]):=by
 unfold w5a at hr;refine rf (fn:=Tryz.f91) ⟨Tryz.func91,rfl,by kernel_rfl⟩ rfl (fun _=>rfl) fun g0 hg=>?_
 refine rn tk 9 rfl ?_;obtain ⟨v1,h2,hr⟩:=zaa hr;refine cl (Yua _ _ h2) rfl rfl<|rn tk 14 rfl ?_;obtain ⟨v3,h4,hr⟩:=zaa hr;refine cl (zza _ _ h4) rfl rfl<|rn tk 2 rfl<|ac 16 hr rfl (fun c5 hr=>?_) (fun c5 hr=>?_)
 .refine rn tk 1 rfl<|drX 2 3 3 3 [1] [(18,.agg [.i v1.2.2.Code,.i v1.2.2.Index]),(17,.agg [.pv (.sl (some true) []),.pv (.sl (some true) [])])] [(2,.ptr 2 0),(3,.ptr 3 0),(18,.agg [.i v1.2.2.Code,.i v1.2.2.Index])] [(6,.cells [.i v1.2.2.Code,.i v1.2.2.Index]),(3,.cells [.i 0,.i 0]),(2,.cells [.pv (.sl (some true) []),.pv (.sl (some true) [])])] tk mixed (by kernel_rfl) rfl rfl rfl (pqX tk rfl (.plain rfl) (pqX tk rfl (.plain rfl) .nil)) rfl rfl rfl rfl (by kernel_rfl)<|rn tk 5 rfl ?_;cases hr;exact kr tk (.inr rfl) rfl rfl
 refine rn tk 7 rfl ?_;obtain ⟨v6,h7,hr⟩:=zaa hr;refine wlL tk h7 rfl rfl rfl (fun _=>rfl) rfl ?_;obtain ⟨v8,h9,hr⟩:=zaa hr;refine cl (Vva _ _ h9) rfl rfl<|rn tk 9 rfl ?_;obtain ⟨v10,h11,hr⟩:=zaa hr;refine cl (vra _ _ h11) rfl rfl<|rn tk 7 rfl ?_;obtain ⟨v12,h13,hr⟩:=zaa hr;refine cl (zza _ _ h13) rfl rfl<|rn tk 2 rfl<|ac 28 hr rfl (fun c14 hr=>?_) (fun c14 hr=>?_)
 .refine rn tk 1 rfl<|drX 2 3 3 3 [1] [(30,.agg [.i v10.Code,.i v10.Index]),(29,.agg [.pv (.sl (some true) []),.pv (.sl (some true) [])])] [(2,.ptr 2 0),(3,.ptr 3 0),(30,.agg [.i v10.Code,.i v10.Index])] [(8,.cells [.i v10.Code,.i v10.Index]),(7,.cells [.l zia.pc v1.1,.l cU v8]),(6,.cells [.i v1.2.2.Code,.i v1.2.2.Index]),(3,.cells [.i 0,.i 0]),(2,.cells [.pv (.sl (some true) []),.pv (.sl (some true) [])])] tk mixed (by kernel_rfl) rfl rfl rfl (pqX tk rfl (.plain rfl) (pqX tk rfl (.plain rfl) .nil)) rfl rfl rfl rfl (by kernel_rfl)<|rn tk 5 rfl ?_;cases hr;exact kr tk (.inr rfl) rfl rfl
 refine rn tk 3 rfl ?_;obtain ⟨v15,h16,hr⟩:=zaa hr;refine drF 1 0 [(31,.agg [.l zia.pc v1.1,.l cU v8])] [(31,.any)] [(2,.ptr 2 0),(3,.ptr 3 0),(31,.agg [.l zia.pc v1.1,.l cU v8]),(32,.agg [.i v15.Code,.i v15.Index])] [(8,.cells [.i v10.Code,.i v10.Index]),(7,.cells [.l zia.pc v1.1,.l cU v8]),(6,.cells [.i v1.2.2.Code,.i v1.2.2.Index]),(3,.cells [.i 0,.i 0]),(2,.cells [.pv (.sl (some true) []),.pv (.sl (some true) [])])] mixed (by kernel_rfl) rfl rfl rfl rfl rfl (pqA tk rfl (.plain rfl) .nil) rfl rfl rfl rfl rfl (fun hJ=>?_) (fun hJ=>?_) ?_
 .refine cl (zGa _ h16) rfl rfl ?_;exact hJ _ _ rfl rfl
 .refine cl (zGa _ h16) rfl rfl<|rn tk 1 rfl ?_;exact hJ _ _ rfl rfl
 refine rn tk 5 rfl ?_;cases hr;exact kr tk (.inr rfl) rfl rfl
theorem kqa(a0:zea)(r:zea)(hr:zUa a0=some r):RunS Tryz.prog 93 [.ptr 90002000 0] [(90002000,.cells [.s a0.Server.Name,.i a0.Server.Size,.i a0.Server.Many,.i a0.Server.Phase,.bo a0.Server.Greeted,.bo a0.Server.Mailing,.s a0.Server.From,.l zca.pc a0.Server.To,.hs 90002009 0,.hs 90002010 0,.i a0.Server.Lost,.i a0.Server.Dots,.bo a0.Server.Chunked,.i a0.Server.Left,.bo a0.Server.Last,.bo a0.Server.Ignore,.i a0.Server.Count,.hs 90002018 0,.hs 90002019 0]),(90002009,.row 5 false 1 (List.map cU a0.Server.Buffer)),(90002010,.row 5 false 1 (List.map cU a0.Server.Data)),(90002018,.row 28 false 2 (List.map zna.pc a0.replies)),(90002019,.row 56 false 5 (List.map zwa.pc a0.mails))] (.tup []) [(90002000,.cells [.s r.Server.Name,.i r.Server.Size,.i r.Server.Many,.i r.Server.Phase,.bo r.Server.Greeted,.bo r.Server.Mailing,.s r.Server.From,.l zca.pc r.Server.To,.hs 90002009 0,.hs 90002010 0,.i r.Server.Lost,.i r.Server.Dots,.bo r.Server.Chunked,.i r.Server.Left,.bo r.Server.Last,.bo r.Server.Ignore,.i r.Server.Count,.hs 90002018 0,.hs 90002019 0]),(90002009,.row 5 false 1 (List.map cU r.Server.Buffer)),(90002010,.row 5 false 1 (List.map cU r.Server.Data)),(90002018,.row 28 false 2 (List.map zna.pc r.replies)),(90002019,.row 56 false 5 (List.map zwa.pc r.mails))] 90002000 [90002009,90002010,90002018,90002019]:=by
 unfold zUa at hr;refine rfS (fn:=Tryz.f93) (H:=90002999) (.ptr 90002000 0) ⟨Tryz.func93,rfl,by kernel_rfl⟩ rfl (hasT rfl) (.inl ⟨rfl,rfl⟩) rfl rfl rfl rfl fun g0 hg S sg T=>?_
 refine rn tk 31 rfl ?_;refine WCa 90002010 (hO ?_);refine yBa 90002010 (o:=90002000) (j:=9) 5 1 rfl rfl rfl rfl (hO ?_);refine rn tk 1 rfl ?_;cases hr;exact krS tk (.inl rfl) rfl rfl (zba rfl (YPa rfl rfl (zba rfl (zba rfl (zba rfl (zba rfl zga))))))
theorem zma(a0:zea)(a1:Int)(a2:List Str)(r:zea)(hr:zoa a0 a1 a2=some r):RunS Tryz.prog 63 [.ptr 90002000 0,.i a1,.l cS a2] [(90002000,.cells [.s a0.Server.Name,.i a0.Server.Size,.i a0.Server.Many,.i a0.Server.Phase,.bo a0.Server.Greeted,.bo a0.Server.Mailing,.s a0.Server.From,.l zca.pc a0.Server.To,.hs 90002009 0,.hs 90002010 0,.i a0.Server.Lost,.i a0.Server.Dots,.bo a0.Server.Chunked,.i a0.Server.Left,.bo a0.Server.Last,.bo a0.Server.Ignore,.i a0.Server.Count,.hs 90002018 0,.hs 90002019 0]),(90002009,.row 5 false 1 (List.map cU a0.Server.Buffer)),(90002010,.row 5 false 1 (List.map cU a0.Server.Data)),(90002018,.row 28 false 2 (List.map zna.pc a0.replies)),(90002019,.row 56 false 5 (List.map zwa.pc a0.mails))] (.tup []) [(90002000,.cells [.s r.Server.Name,.i r.Server.Size,.i r.Server.Many,.i r.Server.Phase,.bo r.Server.Greeted,.bo r.Server.Mailing,.s r.Server.From,.l zca.pc r.Server.To,.hs 90002009 0,.hs 90002010 0,.i r.Server.Lost,.i r.Server.Dots,.bo r.Server.Chunked,.i r.Server.Left,.bo r.Server.Last,.bo r.Server.Ignore,.i r.Server.Count,.hs 90002018 0,.hs 90002019 0]),(90002009,.row 5 false 1 (List.map cU r.Server.Buffer)),(90002010,.row 5 false 1 (List.map cU r.Server.Data)),(90002018,.row 28 false 2 (List.map zna.pc r.replies)),(90002019,.row 56 false 5 (List.map zwa.pc r.mails))] 90002000 [90002009,90002010,90002018,90002019]:=by
 unfold zoa at hr;refine rfS (fn:=Tryz.f63) (H:=90002999) (.ptr 90002000 0) ⟨Tryz.func63,rfl,by kernel_rfl⟩ rfl (hasT rfl) (.inl ⟨rfl,rfl⟩) rfl rfl rfl rfl fun g0 hg S sg T=>?_
 refine rn tk 9 rfl<|wz zna.pc ([(zna.mk a1 a2)]:List zna) tk rfl rfl (fun _=>rfl) rfl rfl rfl ?_;obtain ⟨v1,h2,hr⟩:=zaa hr;refine wa tk h2 rfl rfl rfl rfl (fun _=>rfl) rfl rfl<|rn tk 4 rfl ?_;cases hr;exact krS tk (.inl rfl) rfl rfl (zba rfl (zba rfl (zba rfl (zba rfl (zba rfl (zba rfl zga))))))
theorem kka(a0:List zca)(r:List zca)(hr:zqa a0=some r):RunO Tryz.prog 36 [.l zca.pc a0] 60 2 (List.map zca.pc r):=by
 unfold zqa at hr;refine rfO (fn:=Tryz.f36) ⟨Tryz.func36,rfl,by kernel_rfl⟩ rfl fun g0 hg=>?_
 refine rn tk 3 rfl ?_;refine wna 1002 (d:=2) 60 2 rfl rfl rfl (hO ?_);refine rn tk 6 rfl ?_;refine Q0a (d:=3) (F:=zca.pc) (l:=a0) rfl rfl rfl zsa (fun c1=>hO ?_) (hO ?_)
 .replace hr:=JPa c1 hr
  refine rn tk 6 rfl ?_;refine wna 2002 (d:=2) 60 2 rfl rfl rfl (hO ?_);refine rn tk 4 rfl ?_;cases hr;exact krO tk (.inr rfl) rfl rfl
 replace hr:=JQa hr
 refine rn tk 7 rfl<|wo (Wxa (k:=5) rfl zsa zDa) rfl<|rn tk 1 rfl ?_;obtain ⟨v2,h3,hr⟩:=zaa hr;refine wo (ZIa (k:=7) (F:=zca.pc) (xs:=a0) (lim:=5864062014805) 2002 rfl rfl rfl zsa zDa rfl rfl (fun _=>rfl) rfl rfl rfl h3) rfl<|rn tk 4 rfl ?_;cases hr;exact krO tk (.inr rfl) rfl rfl
theorem kma(a0:List zca)(r:List zca)(hr:zqa a0=some r):Run Tryz.prog 36 [.l zca.pc a0] (.l zca.pc r):=by
 unfold zqa at hr;refine rf (fn:=Tryz.f36) ⟨Tryz.func36,rfl,by kernel_rfl⟩ rfl (fun _=>rfl) fun g0 hg=>?_
 refine rn tk 9 rfl ?_;refine Q0a (d:=3) (F:=zca.pc) (l:=a0) rfl rfl rfl zsa (fun c1=>hO ?_) (hO ?_)
 .replace hr:=JPa c1 hr
  refine rn tk 10 rfl ?_;cases hr;exact kr tk (.inr rfl) rfl rfl
 replace hr:=JQa hr
 refine rn tk 7 rfl<|wo (Wxa (k:=5) rfl zsa zDa) rfl<|rn tk 1 rfl ?_;obtain ⟨v2,h3,hr⟩:=zaa hr;refine wo (ZIa (k:=7) (F:=zca.pc) (xs:=a0) (lim:=5864062014805) 1002 rfl rfl rfl zsa zDa rfl rfl (fun _=>rfl) rfl rfl rfl h3) rfl<|rn tk 3 rfl ?_;refine JMa 1002 rfl (hC ?_);refine jYa (d:=2) (F:=zca.pc) (l:=v2) rfl rfl (hC ?_);refine rn tk 1 rfl ?_;cases hr;exact kr tk (.inr rfl) rfl rfl
theorem q9a(a0:zea)(r:zea)(hr:zZa a0=some r):RunS Tryz.prog 64 [.ptr 90002000 0] [(90002000,.cells [.s a0.Server.Name,.i a0.Server.Size,.i a0.Server.Many,.i a0.Server.Phase,.bo a0.Server.Greeted,.bo a0.Server.Mailing,.s a0.Server.From,.l zca.pc a0.Server.To,.hs 90002009 0,.hs 90002010 0,.i a0.Server.Lost,.i a0.Server.Dots,.bo a0.Server.Chunked,.i a0.Server.Left,.bo a0.Server.Last,.bo a0.Server.Ignore,.i a0.Server.Count,.hs 90002018 0,.hs 90002019 0]),(90002009,.row 5 false 1 (List.map cU a0.Server.Buffer)),(90002010,.row 5 false 1 (List.map cU a0.Server.Data)),(90002018,.row 28 false 2 (List.map zna.pc a0.replies)),(90002019,.row 56 false 5 (List.map zwa.pc a0.mails))] (.tup []) [(90002000,.cells [.s r.Server.Name,.i r.Server.Size,.i r.Server.Many,.i r.Server.Phase,.bo r.Server.Greeted,.bo r.Server.Mailing,.s r.Server.From,.l zca.pc r.Server.To,.hs 90002009 0,.hs 90002010 0,.i r.Server.Lost,.i r.Server.Dots,.bo r.Server.Chunked,.i r.Server.Left,.bo r.Server.Last,.bo r.Server.Ignore,.i r.Server.Count,.hs 90002018 0,.hs 90002019 0]),(90002009,.row 5 false 1 (List.map cU r.Server.Buffer)),(90002010,.row 5 false 1 (List.map cU r.Server.Data)),(90002018,.row 28 false 2 (List.map zna.pc r.replies)),(90002019,.row 56 false 5 (List.map zwa.pc r.mails))] 90002000 [90002009,90002010,90002018,90002019]:=by
 unfold zZa at hr;refine rfS (fn:=Tryz.f64) (H:=90002999) (.ptr 90002000 0) ⟨Tryz.func64,rfl,by kernel_rfl⟩ rfl (hasT rfl) (.inl ⟨rfl,rfl⟩) rfl rfl rfl rfl fun g0 hg S sg T=>?_
 refine rn tk 7 rfl ?_;refine JIa (d:=10) (F:=cU) (l:=a0.Server.Data) rfl rfl (hO ?_);obtain ⟨v1,h2,hr⟩:=zaa hr;refine cl (V8a _ _ h2) rfl rfl<|rn tk 9 rfl<|jb hr (fun j3=>[(0,.ptr 90002000 0)]) (fun j3=>[(90002000,.cells [.s j3.Server.Name,.i j3.Server.Size,.i j3.Server.Many,.i j3.Server.Phase,.bo j3.Server.Greeted,.bo j3.Server.Mailing,.s j3.Server.From,.l zca.pc j3.Server.To,.hs 90002009 0,.hs 90002010 0,.i j3.Server.Lost,.i j3.Server.Dots,.bo j3.Server.Chunked,.i j3.Server.Left,.bo j3.Server.Last,.bo j3.Server.Ignore,.i j3.Server.Count,.hs 90002018 0,.hs 90002019 0]),(90002009,.row 5 false 1 (List.map cU j3.Server.Buffer)),(90002010,.row 5 false 1 (List.map cU j3.Server.Data)),(90002018,.row 28 false 2 (List.map zna.pc j3.replies)),(90002019,.row 56 false 5 (List.map zwa.pc j3.mails)),(90002999,.hold (.ptr 90002000 0) (T.getD 0 undef))]) (fun j3 hr=>?_) (fun j3 hr=>?_)
 .refine rn tk 12 rfl<|ac 64 hr rfl (fun c4 hr=>?_) (fun c4 hr=>?_)
  .refine rn tk 2 rfl<|wz cS ([([108,97,114,103,101]:Str)]:List Str) tk rfl rfl (fun _=>rfl) rfl rfl rfl ?_;obtain ⟨v5,h6,hr⟩:=zaa hr;refine wo (zva (k:=73) (zma a0 552 (([([108,97,114,103,101]:Str)]:List Str)) v5 h6) rfl rfl (zba rfl (zba rfl (zba rfl (zba rfl (zba rfl zga)))))) rfl<|rn tk 2 rfl ?_;cases hr;exact jn _ rfl rfl rfl
  refine jb hr (fun j7=>[(0,.ptr 90002000 0),(2,.ptr 2 0),(74,.bo j7)]) (fun j7=>[(2,.cells [.l zia.pc v1.1.Fields,.l cU v1.1.Body]),(90002999,.hold (.ptr 90002000 0) (T.getD 0 undef)),(90002000,.cells [.s a0.Server.Name,.i a0.Server.Size,.i a0.Server.Many,.i a0.Server.Phase,.bo a0.Server.Greeted,.bo a0.Server.Mailing,.s a0.Server.From,.l zca.pc a0.Server.To,.hs 90002009 0,.hs 90002010 0,.i a0.Server.Lost,.i a0.Server.Dots,.bo a0.Server.Chunked,.i a0.Server.Left,.bo a0.Server.Last,.bo a0.Server.Ignore,.i a0.Server.Count,.hs 90002018 0,.hs 90002019 0]),(90002009,.row 5 false 1 (List.map cU a0.Server.Buffer)),(90002010,.row 5 false 1 (List.map cU a0.Server.Data)),(90002018,.row 28 false 2 (List.map zna.pc a0.replies)),(90002019,.row 56 false 5 (List.map zwa.pc a0.mails))]) (fun j7 hr=>?_) (fun j7 hr=>?_)
  .refine rn tk 2 rfl ?_;obtain ⟨v8,h9,hr⟩:=zaa hr;refine cl (zza _ _ h9) rfl rfl<|rn tk 1 rfl<|bs 77 hr rfl (fun c10 hr=>?_) (fun c10 hr=>?_)
   .refine rn tk 9 rfl ?_;cases hr;exact jn _ rfl rfl rfl
   refine rn tk 9 rfl ?_;cases hr;exact jn _ rfl rfl rfl
  refine ac 74 hr rfl (fun c11 hr=>?_) (fun c11 hr=>?_)
  .refine rn tk 2 rfl<|wz cS ([([114,101,102,117,115,101,100]:Str)]:List Str) tk rfl rfl (fun _=>rfl) rfl rfl rfl ?_;obtain ⟨v12,h13,hr⟩:=zaa hr;refine wo (zva (k:=87) (zma a0 554 (([([114,101,102,117,115,101,100]:Str)]:List Str)) v12 h13) rfl rfl (zba rfl (zba rfl (zba rfl (zba rfl (zba rfl zga)))))) rfl<|rn tk 2 rfl ?_;cases hr;exact jn _ rfl rfl rfl
  refine rn tk 15 rfl ?_;obtain ⟨v14,h15,hr⟩:=zaa hr;obtain ⟨v16,h17,hr⟩:=zaa hr;refine dr 12 [(34,.s v16),(33,.i ((w64 (a0.Server.Count+1)))),(32,.ptr 90002000 16),(31,.ptr 90002000 0),(30,.ptr 90002000 0),(29,.ptr 90002000 0),(28,.s v14),(27,.s a0.Server.Name),(26,.ptr 90002000 0),(25,.ptr 90002000 0),(24,.ptr 90002000 0),(23,.ptr 90002000 0)] mixed (by kernel_rfl) rfl rfl (pq tk rfl (.plain rfl) (pq tk rfl (.plain rfl) (pq tk rfl (.plain rfl) (pq tk rfl (.plain rfl) (pq tk rfl (.plain rfl) (.run (.plain rfl) (z2a (YTa rfl rfl h15)) (pq tk rfl (.plain rfl) (pq tk rfl (.plain rfl) (pq tk rfl (.plain rfl) (pq tk rfl (.plain rfl) (pq tk rfl (.plain rfl) (.run (.plain rfl) (vca (vEa ((w64 (a0.Server.Count+1))) v16 h17) rfl) .nil)))))))))))) rfl ?_;obtain ⟨v18,h19,hr⟩:=zaa hr;refine wc h19 rfl rfl rfl<|rn tk 4 rfl ?_;obtain ⟨v20,h21,hr⟩:=zaa hr;obtain ⟨v22,h23,hr⟩:=zaa hr;refine drF 21 0 [(56,.l zwa.pc (([(zwa.mk ((kaa.mk a0.Server.From v20 v18)) v1.1)]:List zwa))),(55,.agg [.s a0.Server.From,.l zca.pc v20,.s v18,.l zia.pc v1.1.Fields,.l cU v1.1.Body]),(54,.agg [.l zia.pc v1.1.Fields,.l cU v1.1.Body]),(53,.agg [.s a0.Server.From,.l zca.pc v20,.s v18]),(52,.s v18),(51,.l zca.pc v20),(50,.l zca.pc a0.Server.To),(49,.ptr 90002000 7),(48,.ptr 90002000 0),(47,.ptr 90002000 0),(46,.ptr 90002000 0),(45,.s a0.Server.From),(44,.ptr 90002000 6),(43,.ptr 90002000 0),(42,.ptr 90002000 0),(41,.ptr 90002000 0),(40,.hs 90002019 0),(39,.ptr 90002000 18),(38,.ptr 90002000 0),(37,.ptr 90002000 0),(36,.ptr 90002000 0)] [(56,.l zwa.pc (([(zwa.mk ((kaa.mk a0.Server.From v20 v18)) v1.1)]:List zwa))),(55,.agg [.s a0.Server.From,.l zca.pc v20,.s v18,.l zia.pc v1.1.Fields,.l cU v1.1.Body]),(54,.agg [.l zia.pc v1.1.Fields,.l cU v1.1.Body]),(53,.agg [.s a0.Server.From,.l zca.pc v20,.s v18]),(52,.s v18),(51,.l zca.pc v20),(50,.l zca.pc a0.Server.To),(49,.ptr 90002000 7),(48,.ptr 90002000 0),(47,.ptr 90002000 0),(46,.ptr 90002000 0),(45,.s a0.Server.From),(44,.ptr 90002000 6),(43,.ptr 90002000 0),(42,.ptr 90002000 0),(41,.ptr 90002000 0),(40,.hs 90002019 0),(39,.ptr 90002000 18),(38,.ptr 90002000 0),(37,.ptr 90002000 0),(36,.any)] [(0,.ptr 90002000 0),(4,.s v18),(36,.ptr 90002000 0),(57,.hs 90002019 0)] [(2,.cells [.l zia.pc v1.1.Fields,.l cU v1.1.Body]),(90002999,.hold (.ptr 90002000 0) (T.getD 0 undef)),(90002000,.cells [.s a0.Server.Name,.i a0.Server.Size,.i a0.Server.Many,.i a0.Server.Phase,.bo a0.Server.Greeted,.bo a0.Server.Mailing,.s a0.Server.From,.l zca.pc a0.Server.To,.hs 90002009 0,.hs 90002010 0,.i a0.Server.Lost,.i a0.Server.Dots,.bo a0.Server.Chunked,.i a0.Server.Left,.bo a0.Server.Last,.bo a0.Server.Ignore,.i ((w64 (a0.Server.Count+1))),.hs 90002018 0,.any]),(90002009,.row 5 false 1 (List.map cU a0.Server.Buffer)),(90002010,.row 5 false 1 (List.map cU a0.Server.Data)),(90002018,.row 28 false 2 (List.map zna.pc a0.replies)),(90002019,.row 56 false 5 (List.map zwa.pc v22))] mixed (by kernel_rfl) rfl rfl rfl rfl rfl (pqA tk rfl (.plain rfl) (pqA tk rfl (.plain rfl) (pqA tk rfl (.plain rfl) (pqA tk rfl (.plain rfl) (pqA tk rfl (.plain rfl) (pqA tk rfl (.plain rfl) (pqA tk rfl (.plain rfl) (pqA tk rfl (.plain rfl) (pqA tk rfl (.plain rfl) (pqA tk rfl (.plain rfl) (pqA tk rfl (.plain rfl) (pqA tk rfl (.plain rfl) (pqA tk rfl (.plain rfl) (pqA tk rfl (.plain rfl) (pqA tk rfl (.plain rfl) (.run (.plain rfl) (vca (kma a0.Server.To v20 h21) rfl) (pqA tk rfl (.plain rfl) (pqA tk rfl (.plain rfl) (pqA tk rfl (.plain rfl) (pqA tk rfl (.plain rfl) (.run (.plain rfl) (wpa (F:=zwa.pc) (l:=([(zwa.mk ((kaa.mk a0.Server.From v20 v18)) v1.1)]:List zwa)) kNa qza rfl (fun _=>rfl) rfl rfl) .nil))))))))))))))))))))) rfl rfl rfl rfl rfl (fun hJ=>?_) (fun hJ=>?_) ?_
  .refine wa tk h23 rfl rfl rfl rfl (fun _=>rfl) rfl rfl ?_;exact hJ _ _ rfl rfl
  .refine wa tk h23 rfl rfl rfl rfl (fun _=>rfl) rfl rfl<|rn tk 1 rfl ?_;exact hJ _ _ rfl rfl
  refine rn tk 8 rfl<|wz cS ([v18]:List Str) tk rfl rfl (fun _=>rfl) rfl rfl rfl ?_;obtain ⟨v24,h25,hr⟩:=zaa hr;refine wo (zva (k:=63) (zma ((zea.mk ((zha.mk a0.Server.Name a0.Server.Size a0.Server.Many a0.Server.Phase a0.Server.Greeted a0.Server.Mailing a0.Server.From a0.Server.To a0.Server.Buffer a0.Server.Data a0.Server.Lost a0.Server.Dots a0.Server.Chunked a0.Server.Left a0.Server.Last a0.Server.Ignore ((w64 (a0.Server.Count+1))))) a0.replies v22)) 250 (([v18]:List Str)) v24 h25) rfl rfl (zba rfl (zba rfl (zba rfl (zba rfl (zba rfl zga)))))) rfl<|rn tk 2 rfl ?_;cases hr;exact jn _ rfl rfl rfl
 refine rn tk 2 rfl ?_;obtain ⟨v26,h27,hr⟩:=zaa hr;refine wo (zva (k:=89) (kqa j3 v26 h27) rfl rfl (zba rfl (zba rfl (zba rfl (zba rfl (zba rfl zga)))))) rfl<|rn tk 1 rfl ?_;cases hr;exact krS tk (.inl rfl) rfl rfl (zba rfl (zba rfl (zba rfl (zba rfl (zba rfl (zba rfl zga))))))
theorem vna(a0:zea)(r:zea)(hr:z8a a0=some r):RunS Tryz.prog 40 [.ptr 90002000 0] [(90002000,.cells [.s a0.Server.Name,.i a0.Server.Size,.i a0.Server.Many,.i a0.Server.Phase,.bo a0.Server.Greeted,.bo a0.Server.Mailing,.s a0.Server.From,.l zca.pc a0.Server.To,.hs 90002009 0,.hs 90002010 0,.i a0.Server.Lost,.i a0.Server.Dots,.bo a0.Server.Chunked,.i a0.Server.Left,.bo a0.Server.Last,.bo a0.Server.Ignore,.i a0.Server.Count,.hs 90002018 0,.hs 90002019 0]),(90002009,.row 5 false 1 (List.map cU a0.Server.Buffer)),(90002010,.row 5 false 1 (List.map cU a0.Server.Data)),(90002018,.row 28 false 2 (List.map zna.pc a0.replies)),(90002019,.row 56 false 5 (List.map zwa.pc a0.mails))] (.tup []) [(90002000,.cells [.s r.Server.Name,.i r.Server.Size,.i r.Server.Many,.i r.Server.Phase,.bo r.Server.Greeted,.bo r.Server.Mailing,.s r.Server.From,.l zca.pc r.Server.To,.hs 90002009 0,.hs 90002010 0,.i r.Server.Lost,.i r.Server.Dots,.bo r.Server.Chunked,.i r.Server.Left,.bo r.Server.Last,.bo r.Server.Ignore,.i r.Server.Count,.hs 90002018 0,.hs 90002019 0]),(90002009,.row 5 false 1 (List.map cU r.Server.Buffer)),(90002010,.row 5 false 1 (List.map cU r.Server.Data)),(90002018,.row 28 false 2 (List.map zna.pc r.replies)),(90002019,.row 56 false 5 (List.map zwa.pc r.mails))] 90002000 [90002009,90002010,90002018,90002019]:=by
 unfold z8a at hr;refine rfS (fn:=Tryz.f40) (H:=90002999) (.ptr 90002000 0) ⟨Tryz.func40,rfl,by kernel_rfl⟩ rfl (hasT rfl) (.inl ⟨rfl,rfl⟩) rfl rfl rfl rfl fun g0 hg S sg T=>?_
 refine rn tk 1 rfl<|dr 11 [(2,.bo a0.Server.Ignore),(13,.bo a0.Server.Last),(12,.ptr 90002000 14),(11,.ptr 90002000 0),(10,.ptr 90002000 0),(9,.ptr 90002000 0),(8,.bo a0.Server.Ignore),(7,.ptr 90002000 15),(6,.ptr 90002000 0),(5,.ptr 90002000 0),(4,.ptr 90002000 0)] mixed (by kernel_rfl) rfl rfl (pq tk rfl (.plain rfl) (pq tk rfl (.plain rfl) (pq tk rfl (.plain rfl) (pq tk rfl (.plain rfl) (pq tk rfl (.plain rfl) (pq tk rfl (.plain rfl) (pq tk rfl (.plain rfl) (pq tk rfl (.plain rfl) (pq tk rfl (.plain rfl) (pq tk rfl (.plain rfl) (pq tk rfl (.plain rfl) .nil))))))))))) rfl<|rn tk 29 rfl<|ac 29 hr rfl (fun c1 hr=>?_) (fun c1 hr=>?_)
 .refine rn tk 2 rfl<|wz cS ([([111,114,100,101,114]:Str)]:List Str) tk rfl rfl (fun _=>rfl) rfl rfl rfl ?_;obtain ⟨v2,h3,hr⟩:=zaa hr;refine wo (zva (k:=33) (zma ((zea.mk ((zha.mk a0.Server.Name a0.Server.Size a0.Server.Many 0 a0.Server.Greeted a0.Server.Mailing a0.Server.From a0.Server.To a0.Server.Buffer a0.Server.Data a0.Server.Lost a0.Server.Dots a0.Server.Chunked a0.Server.Left false false a0.Server.Count)) a0.replies a0.mails)) 503 (([([111,114,100,101,114]:Str)]:List Str)) v2 h3) rfl rfl (zba rfl (zba rfl (zba rfl (zba rfl (zba rfl zga)))))) rfl<|rn tk 2 rfl ?_;cases hr;exact krS tk (.inl rfl) rfl rfl (zba rfl (zba rfl (zba rfl (zba rfl (zba rfl (zba rfl zga))))))
 refine rn tk 6 rfl<|ac 34 hr rfl (fun c4 hr=>?_) (fun c4 hr=>?_)
 .refine rn tk 2 rfl ?_;obtain ⟨v5,h6,hr⟩:=zaa hr;refine wo (zva (k:=37) (q9a ((zea.mk ((zha.mk a0.Server.Name a0.Server.Size a0.Server.Many 0 a0.Server.Greeted a0.Server.Mailing a0.Server.From a0.Server.To a0.Server.Buffer a0.Server.Data a0.Server.Lost a0.Server.Dots a0.Server.Chunked a0.Server.Left false false a0.Server.Count)) a0.replies a0.mails)) v5 h6) rfl rfl (zba rfl (zba rfl (zba rfl (zba rfl (zba rfl zga)))))) rfl<|rn tk 2 rfl ?_;cases hr;exact krS tk (.inl rfl) rfl rfl (zba rfl (zba rfl (zba rfl (zba rfl (zba rfl (zba rfl zga))))))
 refine rn tk 2 rfl<|wz cS ([([111,107]:Str)]:List Str) tk rfl rfl (fun _=>rfl) rfl rfl rfl ?_;obtain ⟨v7,h8,hr⟩:=zaa hr;refine wo (zva (k:=28) (zma ((zea.mk ((zha.mk a0.Server.Name a0.Server.Size a0.Server.Many 0 a0.Server.Greeted a0.Server.Mailing a0.Server.From a0.Server.To a0.Server.Buffer a0.Server.Data a0.Server.Lost a0.Server.Dots a0.Server.Chunked a0.Server.Left false false a0.Server.Count)) a0.replies a0.mails)) 250 (([([111,107]:Str)]:List Str)) v7 h8) rfl rfl (zba rfl (zba rfl (zba rfl (zba rfl (zba rfl zga)))))) rfl<|rn tk 2 rfl ?_;cases hr;exact krS tk (.inl rfl) rfl rfl (zba rfl (zba rfl (zba rfl (zba rfl (zba rfl (zba rfl zga))))))
theorem Zma(a0:zea)(a1:UInt8)(r:zea)(hr:kYa a0 a1=some r):RunS Tryz.prog 42 [.ptr 90002000 0,.u8 a1] [(90002000,.cells [.s a0.Server.Name,.i a0.Server.Size,.i a0.Server.Many,.i a0.Server.Phase,.bo a0.Server.Greeted,.bo a0.Server.Mailing,.s a0.Server.From,.l zca.pc a0.Server.To,.hs 90002009 0,.hs 90002010 0,.i a0.Server.Lost,.i a0.Server.Dots,.bo a0.Server.Chunked,.i a0.Server.Left,.bo a0.Server.Last,.bo a0.Server.Ignore,.i a0.Server.Count,.hs 90002018 0,.hs 90002019 0]),(90002009,.row 5 false 1 (List.map cU a0.Server.Buffer)),(90002010,.row 5 false 1 (List.map cU a0.Server.Data)),(90002018,.row 28 false 2 (List.map zna.pc a0.replies)),(90002019,.row 56 false 5 (List.map zwa.pc a0.mails))] (.tup []) [(90002000,.cells [.s r.Server.Name,.i r.Server.Size,.i r.Server.Many,.i r.Server.Phase,.bo r.Server.Greeted,.bo r.Server.Mailing,.s r.Server.From,.l zca.pc r.Server.To,.hs 90002009 0,.hs 90002010 0,.i r.Server.Lost,.i r.Server.Dots,.bo r.Server.Chunked,.i r.Server.Left,.bo r.Server.Last,.bo r.Server.Ignore,.i r.Server.Count,.hs 90002018 0,.hs 90002019 0]),(90002009,.row 5 false 1 (List.map cU r.Server.Buffer)),(90002010,.row 5 false 1 (List.map cU r.Server.Data)),(90002018,.row 28 false 2 (List.map zna.pc r.replies)),(90002019,.row 56 false 5 (List.map zwa.pc r.mails))] 90002000 [90002009,90002010,90002018,90002019]:=by
 unfold kYa at hr;refine rfS (fn:=Tryz.f42) (H:=90002999) (.ptr 90002000 0) ⟨Tryz.func42,rfl,by kernel_rfl⟩ rfl (hasT rfl) (.inl ⟨rfl,rfl⟩) rfl rfl rfl rfl fun g0 hg S sg T=>?_
 refine jk (fun j1=>[(0,.ptr 90002000 0),(1,.u8 a1)]) (fun j1=>[(90002000,.cells [.s j1.Server.Name,.i j1.Server.Size,.i j1.Server.Many,.i j1.Server.Phase,.bo j1.Server.Greeted,.bo j1.Server.Mailing,.s j1.Server.From,.l zca.pc j1.Server.To,.hs 90002009 0,.hs 90002010 0,.i j1.Server.Lost,.i j1.Server.Dots,.bo j1.Server.Chunked,.i j1.Server.Left,.bo j1.Server.Last,.bo j1.Server.Ignore,.i j1.Server.Count,.hs 90002018 0,.hs 90002019 0]),(90002009,.row 5 false 1 (List.map cU j1.Server.Buffer)),(90002010,.row 5 false 1 (List.map cU j1.Server.Data)),(90002018,.row 28 false 2 (List.map zna.pc j1.replies)),(90002019,.row 56 false 5 (List.map zwa.pc j1.mails)),(90002999,.hold (.ptr 90002000 0) (T.getD 0 undef))]) (fun j1=>z9a a1 j1=some r) ?_ ?_
 .refine rn tk 1 rfl<|jb hr (fun j8=>[(0,.ptr 90002000 0),(1,.u8 a1),(4,.bo j8)]) (fun j8=>[(90002999,.hold (.ptr 90002000 0) (T.getD 0 undef)),(90002000,.cells [.s a0.Server.Name,.i a0.Server.Size,.i a0.Server.Many,.i a0.Server.Phase,.bo a0.Server.Greeted,.bo a0.Server.Mailing,.s a0.Server.From,.l zca.pc a0.Server.To,.hs 90002009 0,.hs 90002010 0,.i a0.Server.Lost,.i a0.Server.Dots,.bo a0.Server.Chunked,.i a0.Server.Left,.bo a0.Server.Last,.bo a0.Server.Ignore,.i a0.Server.Count,.hs 90002018 0,.hs 90002019 0]),(90002009,.row 5 false 1 (List.map cU a0.Server.Buffer)),(90002010,.row 5 false 1 (List.map cU a0.Server.Data)),(90002018,.row 28 false 2 (List.map zna.pc a0.replies)),(90002019,.row 56 false 5 (List.map zwa.pc a0.mails))]) (fun j8 hr=>?_) (fun j8 hr=>?_)
  .refine rn tk 8 rfl<|bs 11 hr rfl (fun c9 hr=>?_) (fun c9 hr=>?_)
   .refine rn tk 5 rfl ?_;cases hr;exact jn _ rfl rfl rfl
   refine rn tk 5 rfl ?_;cases hr;exact jn _ rfl rfl rfl
  refine ac 4 hr rfl (fun c10 hr=>?_) (fun c10 hr=>?_)
  .refine rn tk 12 rfl ?_;cases hr;exact krS tk (.inr rfl) rfl rfl (zba rfl (zba rfl (zba rfl (zba rfl (zba rfl (zba rfl zga))))))
  refine jb hr (fun j11=>[(0,.ptr 90002000 0),(1,.u8 a1),(19,.bo j11)]) (fun j11=>[(90002999,.hold (.ptr 90002000 0) (T.getD 0 undef)),(90002000,.cells [.s a0.Server.Name,.i a0.Server.Size,.i a0.Server.Many,.i a0.Server.Phase,.bo a0.Server.Greeted,.bo a0.Server.Mailing,.s a0.Server.From,.l zca.pc a0.Server.To,.hs 90002009 0,.hs 90002010 0,.i a0.Server.Lost,.i a0.Server.Dots,.bo a0.Server.Chunked,.i a0.Server.Left,.bo a0.Server.Last,.bo a0.Server.Ignore,.i a0.Server.Count,.hs 90002018 0,.hs 90002019 0]),(90002009,.row 5 false 1 (List.map cU a0.Server.Buffer)),(90002010,.row 5 false 1 (List.map cU a0.Server.Data)),(90002018,.row 28 false 2 (List.map zna.pc a0.replies)),(90002019,.row 56 false 5 (List.map zwa.pc a0.mails))]) (fun j11 hr=>?_) (fun j11 hr=>?_)
  .refine rn tk 8 rfl<|bs 26 hr rfl (fun c12 hr=>?_) (fun c12 hr=>?_)
   .refine rn tk 5 rfl ?_;cases hr;exact jn _ rfl rfl rfl
   refine rn tk 5 rfl ?_;cases hr;exact jn _ rfl rfl rfl
  refine ac 19 hr rfl (fun c13 hr=>?_) (fun c13 hr=>?_)
  .refine rn tk 12 rfl ?_;cases hr;exact krS tk (.inr rfl) rfl rfl (zba rfl (zba rfl (zba rfl (zba rfl (zba rfl (zba rfl zga))))))
  refine jb hr (fun j14=>[(0,.ptr 90002000 0),(1,.u8 a1),(34,.bo j14)]) (fun j14=>[(90002999,.hold (.ptr 90002000 0) (T.getD 0 undef)),(90002000,.cells [.s a0.Server.Name,.i a0.Server.Size,.i a0.Server.Many,.i a0.Server.Phase,.bo a0.Server.Greeted,.bo a0.Server.Mailing,.s a0.Server.From,.l zca.pc a0.Server.To,.hs 90002009 0,.hs 90002010 0,.i a0.Server.Lost,.i a0.Server.Dots,.bo a0.Server.Chunked,.i a0.Server.Left,.bo a0.Server.Last,.bo a0.Server.Ignore,.i a0.Server.Count,.hs 90002018 0,.hs 90002019 0]),(90002009,.row 5 false 1 (List.map cU a0.Server.Buffer)),(90002010,.row 5 false 1 (List.map cU a0.Server.Data)),(90002018,.row 28 false 2 (List.map zna.pc a0.replies)),(90002019,.row 56 false 5 (List.map zwa.pc a0.mails))]) (fun j14 hr=>?_) (fun j14 hr=>?_)
  .refine rn tk 8 rfl<|bs 41 hr rfl (fun c15 hr=>?_) (fun c15 hr=>?_)
   .refine rn tk 5 rfl ?_;cases hr;exact jn _ rfl rfl rfl
   refine rn tk 5 rfl ?_;cases hr;exact jn _ rfl rfl rfl
  refine ac 34 hr rfl (fun c16 hr=>?_) (fun c16 hr=>?_)
  .refine rn tk 17 rfl ?_;obtain ⟨v17,h18,hr⟩:=zaa hr;refine wo (zva (k:=54) (q9a ((zea.mk ((zha.mk a0.Server.Name a0.Server.Size a0.Server.Many 0 a0.Server.Greeted a0.Server.Mailing a0.Server.From a0.Server.To a0.Server.Buffer a0.Server.Data a0.Server.Lost 0 a0.Server.Chunked a0.Server.Left a0.Server.Last a0.Server.Ignore a0.Server.Count)) a0.replies a0.mails)) v17 h18) rfl rfl (zba rfl (zba rfl (zba rfl (zba rfl (zba rfl zga)))))) rfl<|rn tk 5 rfl ?_;cases hr;exact krS tk (.inr rfl) rfl rfl (zba rfl (zba rfl (zba rfl (zba rfl (zba rfl (zba rfl zga))))))
  refine rn tk 11 rfl<|ac 55 hr rfl (fun c19 hr=>?_) (fun c19 hr=>?_)
  .refine rn tk 2 rfl ?_;obtain ⟨v20,h21,hr⟩:=zaa hr;refine wo (zva (k:=63) (qQa a0 ((13:UInt8)) v20 h21) rfl rfl (zba rfl (zba rfl (zba rfl (zba rfl (zba rfl zga)))))) rfl<|rn tk 2 rfl<|jn v20 hr rfl rfl
  refine rn tk 2 rfl<|jn a0 hr rfl rfl
 intro j1 hr;unfold z9a at hr;refine rn tk 4 rfl ?_;obtain ⟨v2,h3,hr⟩:=zaa hr;refine wo (zva (k:=66) (qQa j1 a1 v2 h3) rfl rfl (zba rfl (zba rfl (zba rfl (zba rfl (zba rfl zga)))))) rfl<|rn tk 10 rfl<|ac 71 hr rfl (fun c4 hr=>?_) (fun c4 hr=>?_)
 .refine rn tk 8 rfl ?_;cases hr;exact krS tk (.inl rfl) rfl rfl (zba rfl (zba rfl (zba rfl (zba rfl (zba rfl (zba rfl zga))))))
 refine jb hr (fun j5=>[(0,.ptr 90002000 0),(78,.bo j5)]) (fun j5=>[(90002000,.cells [.s v2.Server.Name,.i v2.Server.Size,.i v2.Server.Many,.i v2.Server.Phase,.bo v2.Server.Greeted,.bo v2.Server.Mailing,.s v2.Server.From,.l zca.pc v2.Server.To,.hs 90002009 0,.hs 90002010 0,.i v2.Server.Lost,.i v2.Server.Dots,.bo v2.Server.Chunked,.i v2.Server.Left,.bo v2.Server.Last,.bo v2.Server.Ignore,.i v2.Server.Count,.hs 90002018 0,.hs 90002019 0]),(90002009,.row 5 false 1 (List.map cU v2.Server.Buffer)),(90002010,.row 5 false 1 (List.map cU v2.Server.Data)),(90002018,.row 28 false 2 (List.map zna.pc v2.replies)),(90002019,.row 56 false 5 (List.map zwa.pc v2.mails)),(90002999,.hold (.ptr 90002000 0) (T.getD 0 undef))]) (fun j5 hr=>?_) (fun j5 hr=>?_)
 .refine rn tk 4 rfl<|bs 81 hr rfl (fun c6 hr=>?_) (fun c6 hr=>?_)
  .refine rn tk 9 rfl ?_;cases hr;exact jn _ rfl rfl rfl
  refine rn tk 9 rfl ?_;cases hr;exact jn _ rfl rfl rfl
 refine ac 78 hr rfl (fun c7 hr=>?_) (fun c7 hr=>?_)
 .refine rn tk 8 rfl ?_;cases hr;exact krS tk (.inl rfl) rfl rfl (zba rfl (zba rfl (zba rfl (zba rfl (zba rfl (zba rfl zga))))))
 refine rn tk 8 rfl ?_;cases hr;exact krS tk (.inl rfl) rfl rfl (zba rfl (zba rfl (zba rfl (zba rfl (zba rfl (zba rfl zga))))))
theorem Qia(a0:List UInt8)(a1:List UInt8)(r:(List UInt8) × Bool)(hr:qsa a0 a1=some r):Run Tryz.prog 65 [.l cU a0,.l cU a1] (.tup [.l cU r.1,.bo r.2]):=by
 unfold qsa at hr;refine rf (fn:=Tryz.f65) ⟨Tryz.func65,rfl,by kernel_rfl⟩ rfl (fun _=>rfl) fun g0 hg=>?_
 refine rn tk 11 rfl ?_;obtain ⟨v1,h2,hr⟩:=zaa hr;refine cl (y0a _ _ _ h2) rfl rfl<|rn tk 3 rfl<|ac 9 hr rfl (fun c3 hr=>?_) (fun c3 hr=>?_)
 .refine rn tk 9 rfl ?_;cases hr;exact kr tk (.inr rfl) rfl rfl
 refine rn tk 6 rfl<|wn tk rfl rfl rfl<|rn tk 1 rfl<|wn tk rfl rfl rfl<|rn tk 1 rfl ?_;obtain ⟨v4,h5,hr⟩:=zaa hr;refine wlH tk h5 rfl rfl rfl (fun _=>rfl) rfl<|rn tk 5 rfl ?_;cases hr;exact kr tk (.inr rfl) rfl rfl
section
open Go.RowKit Go.Lib
theorem ff_pred(w:World):PredAt Tryz.prog 96 #[] encR sp32 w:=fun W r _=>by
 unfold FnGives;go_enter Tryz.func96,Tryz.ntmps96
 go_wp2
 go_ret
 exact ⟨rfl,0,rfl⟩
theorem str_argF{g:G}{s:Str}{v:Value}(h:Rel g (.s s) v):v=.string (strB s):=z1a h
theorem wFb{g:G}{w' :World}{A n:Nat}(h:Below g.w.heap.size g.w w')(hA:g.w.heap.size<=A):Old (fun _=>False) g ⟨w',fun k=>if k=A then n else g.u k,g.loc⟩:=
 ⟨h.os,h.tape,h.output,⟨h.size,fun k hk=>by show g.u k<=if k=A then n else g.u k;rw[if_neg (by omega)];exact Nat.le_refl _,fun k i hk _=>by simp only[World.cell?];rw[h.block k hk],fun r hr=>(h.block r (z0a hr)).trans hr⟩,fun k hk _=>⟨h.block k hk,by show (if k=A then n else g.u k)=g.u k;rw[if_neg (by omega)]⟩⟩
theorem jDa(s:Str)(r:List Str)(hr:kEa s=some r):Run Tryz.prog 95 [.s s,.fn (.func 96) [] []] (.l cS r):=by
 unfold kEa at hr;split at hr
 case isFalse=>cases hr
 rename_i hlen;cases hr;refine ⟨⟨_,_,⟨Tryz.func95,rfl,by kernel_rfl⟩⟩,fun g vs hw hg ha=>?_⟩;obtain ⟨hsz,hrel⟩:=ha;obtain ⟨vl⟩:=vs
 match vl,hsz with
 | [x,y],_=>
  obtain rfl:=str_argF (hrel 0 _ rfl);have hy:Rel g (.fn (.func 96) [] []) y:=hrel 1 _ rfl;have hy2:y=.func (.func 96) #[] #[]:=by
   cases hy with
   | @fn f first captured fv cv h1 h2 hf hc=>
    have e1:fv= #[]:=Array.eq_empty_of_size_eq_zero h1;have e2:cv= #[]:=Array.eq_empty_of_size_eq_zero h2;rw[e1,e2]
  subst hy2;have hC:=Tryz.strings_FieldsFunc 96 #[] (enters_of Tryz.func96 (by kernel_rfl) rfl) sp32 (strB s) g.w (by rw[zBa];exact hlen) (ff_pred g.w);generalize Lib.goFieldsP sp32 (strB s)=L at hC ⊢;refine callsIn_wide.2 (hC.mono ?_);rintro e w' ⟨A,rfl,hA,hown,hb⟩;have hlm:(L.map fun b=>b.data.toList).length=L.length:=by simp
  obtain ⟨hl0,hno⟩:=hown;rcases hno with ⟨hc,_⟩ | ⟨g0,cap,cur,hv,_,hheap,hle,_,hcs,htk⟩
  .cases hc
  simp only[Value.slice.injEq,Option.some.injEq,Addr.mk.injEq,and_true,true_and]at hv;obtain ⟨rfl,rfl⟩:=hv;have hlt:A < w'.heap.size:=by
   rcases Nat.lt_or_ge A w'.heap.size with h | h
   .exact h
   rw[Array.getElem?_eq_none h]at hheap;cases hheap
  refine ⟨⟨w',fun k=>if k=A then L.length else g.u k,g.loc⟩,_,rfl,rfl,wFb hb hA,fun k hk=>?_,rfl,?_⟩
  .show (if k=A then L.length else g.u k)=0;have hk' :w'.heap.size<=k:=hk;have:=hb.size;rw[if_neg (by omega)];exact hw k (by omega)
  rw[show (Value.slice (some ⟨A,0,none⟩) L.length L.length)=.slice (some ⟨A,0,none⟩) ((L.map fun b=>b.data.toList).map cS).length L.length by simp];refine .pv (.sl (a:=some ⟨A,0,none⟩) (cap:=L.length) 1 A 0 (fun i=>cur.getD i undef) (fun x hx=>by cases hx) (fun hx=>by cases hx) (by simp) (fun x' hx' =>by obtain ⟨y',hy',rfl⟩:=List.mem_map.1 hx';rfl) (fun _=>rfl) (fun _=>⟨?_,hlt⟩) (fun i hi=>?_) (fun i j e c hi hj=>?_))
  .show 0+_ * 1<=if A=A then L.length else g.u A;rw[if_pos rfl];simp
  .have hi' :i < cur.size:=by simp at hi;omega
   simp only[World.cell?,hheap,Nat.zero_add];simp[Array.getD,hi']
  simp only[List.getElem?_map,Option.map_eq_some_iff]at hi;obtain ⟨q,⟨b,hbq,rfl⟩,rfl⟩:=hi;have hj0:j=0/\c=.b (.string (strB b.data.toList)):=by
   cases j with
   | zero=>exact ⟨rfl,(Option.some.inj hj).symm⟩
   | succ j=>cases hj
  obtain ⟨rfl,rfl⟩:=hj0;have hil:=(List.getElem?_eq_some_iff.1 hbq).1;have h1:(cur.toList.take (L.length * 1))[i]? =some (.string b):=by rw[htk];simp[hbq]
  have h2:cur.getD (i * 1+0) undef=.string (strB b.data.toList):=by
   rw[List.getElem?_take_of_lt (by omega)]at h1;rw[Array.getD_eq_getD_getElem?,Nat.mul_one,Nat.add_zero];rw[Array.getElem?_toList]at h1;rw[h1];rfl
  rw[h2];exact .b rfl
end
theorem y1a(a0:Str)(r:Str)(hr:vKa a0=some r):Run Tryz.prog 98 [.s a0] (.s r):=by
 unfold vKa at hr;refine rf (fn:=Tryz.f98) ⟨Tryz.func98,rfl,by kernel_rfl⟩ rfl (fun _=>rfl) fun g0 hg=>?_
 refine rn tk 8 rfl<|wo (vYb (k:=7) (s:=a0) 1007 rfl rfl rfl rfl zHa zpa zJa) rfl<|rn tk 7 rfl<|wq (yob (l:=a0) rfl rfl zpa.u) rfl rfl rfl<|rn tk 4 rfl<|al1 hr (fun s1=>[(3,.hs 1007 0),(8,.hs 1007 0),(9,.i ((a0.length:Int))),(10,.i s1.1)]) (fun s1=>[(1007,.buf s1.2)]) (.exit 0) (fun b2=>[(3,.hs 1007 0)]) (fun b2=>[(1007,.buf b2)]) rfl rfl (fun s1 x3 hr=>?_) (fun b2 hr=>?_)
 .unfold qca at hr;refine rn tk 6 rfl<|ac 11 hr rfl (fun c4 hr=>?_) (fun c4 hr=>?_)
  .refine rn tk 2 rfl<|jb hr (fun j5=>[(3,.hs 1007 0),(8,.hs 1007 0),(9,.i ((a0.length:Int))),(10,.i s1.1)]) (fun j5=>[(1007,.buf j5)]) (fun j5 hr=>?_) (fun j5 hr=>?_)
   .refine rn tk 4 rfl ?_;obtain ⟨v6,h7,hr⟩:=zaa hr;refine wq (zSb (l:=s1.2) (n:=s1.1) rfl rfl rfl zpa zJa h7) rfl rfl rfl ?_;obtain ⟨v8,h9,hr⟩:=zaa hr;refine wq (vXb (l:=s1.2) (n:=s1.1) rfl rfl zJa h9) rfl rfl rfl<|rn tk 4 rfl<|jb hr (fun j10=>[(3,.hs 1007 0),(4,.i s1.1),(5,.u8 v8),(8,.hs 1007 0),(9,.i ((a0.length:Int))),(10,.i s1.1),(20,.bo j10)]) (fun j10=>[(1007,.buf s1.2)]) (fun j10 hr=>?_) (fun j10 hr=>?_)
    .refine rn tk 4 rfl<|bs 17 hr rfl (fun c11 hr=>?_) (fun c11 hr=>?_)
     .refine rn tk 4 rfl ?_;cases hr;exact jn _ rfl rfl rfl
     refine rn tk 4 rfl ?_;cases hr;exact jn _ rfl rfl rfl
    refine ac 20 hr rfl (fun c12 hr=>?_) (fun c12 hr=>?_)
    .refine rn tk 4 rfl<|wq (ev_u8add (a:=v8) (b:=(97:UInt8)) rfl rfl) rfl rfl rfl<|wq (ev_u8sub (a:=((v8+(97:UInt8)))) (b:=(65:UInt8)) rfl rfl) rfl rfl rfl ?_;obtain ⟨v13,h14,hr⟩:=zaa hr;refine wq (zSb (l:=s1.2) (n:=s1.1) rfl rfl rfl zpa zJa h14) rfl rfl rfl ?_;obtain ⟨v15,h16,hr⟩:=zaa hr;refine wo (JWa (l:=s1.2) (n:=s1.1) (v:=v15) (v' :=(((v8+(97:UInt8)) - (65:UInt8)))) rfl rfl rfl zJa h16) rfl<|rn tk 2 rfl ?_;cases hr;exact jn _ rfl rfl rfl
    refine rn tk 2 rfl ?_;cases hr;exact jn _ rfl rfl rfl
   refine rn tk 4 rfl ?_;cases hr;exact atc rfl rfl
  refine rn tk 2 rfl ?_;cases hr;exact ato rfl rfl rfl rfl
 refine rn tk 5 rfl<|wq (ev_buf2s (l:=b2) rfl rfl zpa zJa zHa) rfl rfl rfl<|rn tk 4 rfl ?_;cases hr;exact kr tk (.inr rfl) rfl rfl
theorem V9a(a0:zla)(r:zla)(hr:w0a a0=some r):Run Tryz.prog 131 [.agg [.i a0.Verb,.s a0.Name,.s a0.Address,.i a0.Size,.i a0.Notify,.bo a0.Last]] (.agg [.i r.Verb,.s r.Name,.s r.Address,.i r.Size,.i r.Notify,.bo r.Last]):=by
 unfold w0a at hr;refine rf (fn:=Tryz.f131) ⟨Tryz.func131,rfl,by kernel_rfl⟩ rfl (fun _=>rfl) fun g0 hg=>?_
 refine rn tk 15 rfl<|jb hr (fun j1=>[(2,.ptr 2 0),(3,.ptr 3 0)]) (fun j1=>[(3,.cells [.i a0.Verb,.s j1.1,.s j1.2.1,.i j1.2.2.1,.i j1.2.2.2.1,.bo j1.2.2.2.2]),(2,.cells [.i 0,.s (([]:Str)),.s (([]:Str)),.i 0,.i 0,.bo false])]) (fun j1 hr=>?_) (fun j1 hr=>?_)
 .refine rn tk 13 rfl<|ac 9 hr rfl (fun c2 hr=>?_) (fun c2 hr=>?_)
  .refine rn tk 7 rfl ?_;cases hr;exact jn _ rfl rfl rfl
  refine rn tk 6 rfl<|ac 14 hr rfl (fun c3 hr=>?_) (fun c3 hr=>?_)
  .refine drX 5 6 4 8 [2,3] [(20,.ptr 3 2),(19,.i a0.Size),(18,.ptr 1 3),(17,.s a0.Address),(16,.ptr 1 2)] [(2,.ptr 2 0),(3,.ptr 3 0),(19,.i a0.Size)] [(3,.cells [.i a0.Verb,.s (([]:Str)),.s a0.Address,.i 0,.i 0,.bo false]),(2,.cells [.i 0,.s (([]:Str)),.s (([]:Str)),.i 0,.i 0,.bo false]),(1,.cells [.i a0.Verb,.s a0.Name,.s a0.Address,.i a0.Size,.i a0.Notify,.bo a0.Last])] tk mixed (by kernel_rfl) rfl rfl rfl (pqX tk rfl (.plain rfl) (pqX tk rfl (.plain rfl) (pqX tk rfl (.plain rfl) (pqX tk rfl (.plain rfl) (pqX tk rfl (.plain rfl) .nil))))) rfl rfl rfl rfl (by kernel_rfl)<|rn tk 4 rfl ?_;cases hr;exact jn _ rfl rfl rfl
  refine rn tk 6 rfl<|ac 22 hr rfl (fun c4 hr=>?_) (fun c4 hr=>?_)
  .refine drX 5 6 4 8 [2,3] [(28,.ptr 3 2),(27,.i a0.Notify),(26,.ptr 1 4),(25,.s a0.Address),(24,.ptr 1 2)] [(2,.ptr 2 0),(3,.ptr 3 0),(27,.i a0.Notify)] [(3,.cells [.i a0.Verb,.s (([]:Str)),.s a0.Address,.i 0,.i 0,.bo false]),(2,.cells [.i 0,.s (([]:Str)),.s (([]:Str)),.i 0,.i 0,.bo false]),(1,.cells [.i a0.Verb,.s a0.Name,.s a0.Address,.i a0.Size,.i a0.Notify,.bo a0.Last])] tk mixed (by kernel_rfl) rfl rfl rfl (pqX tk rfl (.plain rfl) (pqX tk rfl (.plain rfl) (pqX tk rfl (.plain rfl) (pqX tk rfl (.plain rfl) (pqX tk rfl (.plain rfl) .nil))))) rfl rfl rfl rfl (by kernel_rfl)<|rn tk 4 rfl ?_;cases hr;exact jn _ rfl rfl rfl
  refine rn tk 6 rfl<|ac 30 hr rfl (fun c5 hr=>?_) (fun c5 hr=>?_)
  .refine drX 5 6 4 8 [2,3] [(36,.ptr 3 3),(35,.bo a0.Last),(34,.ptr 1 5),(33,.i a0.Size),(32,.ptr 1 3)] [(2,.ptr 2 0),(3,.ptr 3 0),(35,.bo a0.Last)] [(3,.cells [.i a0.Verb,.s (([]:Str)),.s (([]:Str)),.i a0.Size,.i 0,.bo false]),(2,.cells [.i 0,.s (([]:Str)),.s (([]:Str)),.i 0,.i 0,.bo false]),(1,.cells [.i a0.Verb,.s a0.Name,.s a0.Address,.i a0.Size,.i a0.Notify,.bo a0.Last])] tk mixed (by kernel_rfl) rfl rfl rfl (pqX tk rfl (.plain rfl) (pqX tk rfl (.plain rfl) (pqX tk rfl (.plain rfl) (pqX tk rfl (.plain rfl) (pqX tk rfl (.plain rfl) .nil))))) rfl rfl rfl rfl (by kernel_rfl)<|rn tk 4 rfl ?_;cases hr;exact jn _ rfl rfl rfl
  refine rn tk 2 rfl ?_;cases hr;exact jn _ rfl rfl rfl
 refine rn tk 7 rfl ?_;cases hr;exact kr tk (.inr rfl) rfl rfl
end Go.Proofs.YtmmjihadplknjaaGreatDoor
