/- Part 5 of the proof of the law DigestReadMatchesSpec: what it needs. -/
import Derived.Test.YthbbeodmpnmopaaGreatDoorKDigestReadMatchesSpec4
import Derived.Shelf.Strings.Builder1
import Derived.Shelf.Strings.Builder2
import Derived.Shelf.Strings.OnBuilder
import Derived.Shelf.Strings.Trim
import Derived.Shelf.Small.Utf8
import Derived.Shelf.Small.Bits
import Derived.Shelf.Small.Strs
import Derived.Shelf.Small.Wraps
import Derived.Shelf.Strings.BuilderF
import Derived.Shelf.Strings.BuilderK
import Derived.Shelf.Utf8.RuneCount
import Derived.Shelf.Strings.Builder2Cap
import Derived.Shelf.Strconv.Atoi
import Derived.Shelf.Strconv.Itoa0
import Derived.Shelf.Strconv.Itoa1
import Derived.Shelf.LaysM
import Derived.Shelf.Strconv.Itoa2
import Derived.Shelf.Strconv.Itoa3
import Derived.Shelf.Strconv.AtoiErrFast
import Derived.Shelf.Strconv.ParseIntEmpty
import Derived.Shelf.Strconv.AtoiFail
import Derived.Shelf.Strconv.Clone
import Derived.Shelf.Strconv.SyntaxError
import Derived.Shelf.LaysC
import Derived.Shelf.Strconv.ToError
import Derived.Shelf.Strconv.AtoiErr
import Derived.Shelf.Strconv.ErrVar
import Derived.Shelf.Strconv.Lower
import Derived.Shelf.Strconv.ParseUint10
import Derived.Shelf.Strconv.ParseUint10Empty
import Derived.Shelf.Strconv.ParseUint10Any
import Derived.Shelf.Strconv.ParseInt10
import Derived.Shelf.Strconv.AtoiLong
import Derived.Shelf.Strconv.AtoiInnerAll
import Derived.Shelf.Strconv.RangeError
import Derived.Shelf.Strconv.ToErrorRange
import Derived.Shelf.Strconv.AtoiAll
import Derived.Shelf.Strings.Search1
import Derived.Shelf.Strings.Search2
import Derived.Shelf.Strings.Search3
import Derived.Shelf.Strings.Cut
import Derived.Shelf.Strings.Count
import Derived.Shelf.Strings.Shaped
import Derived.Shelf.Strings.Prefix
import Derived.Shelf.Strings.Split
import Derived.Shelf.Unicode.Decode
import Derived.Shelf.Strings.Runes
import Derived.Shelf.Strings.RuneCount
import Derived.Shelf.Strings.IndexAny
import Derived.Shelf.Strings.AsciiSet
import Derived.Shelf.Strings.IndexAnyAll
import Derived.Shelf.Bits.Mul64
import Derived.Shelf.Strings.Repeat
import Derived.Shelf.Unicode.DecodeSlow
import Derived.Shelf.Unicode.DecodeAny
import Derived.Shelf.Unicode.DecodeLast
import Derived.Shelf.Strings.MapAny
import Derived.Shelf.Strings.BuilderCap
import Derived.Shelf.Bytes.SlIndexSmall
import Derived.Shelf.Bytes.SlIndexAt
import Derived.Shelf.Bytes.SlSearch0
import Derived.Shelf.Bytes.SlSearch1
import Derived.Shelf.Bytes.SlSearch2
import Derived.Shelf.Bytes.SlIndexWhole
import Derived.Shelf.Bytes.SlSmallAll
import Derived.Shelf.Bytes.SlEqualAll
import Derived.Shelf.Bytes.Small
import Derived.Shelf.Bytes.IndexByte
import Derived.Shelf.Unicode.ValidAny
import Derived.Shelf.SlSortCmp.WholeK
import Derived.Shelf.SlSortCmp.NoneTotal
import Derived.Ground.SlsfProg
import Derived.Test.YthbbeodmpnmopaaGreatDoorProg
import Derived.StillTailTactics
import Derived.Sort.Grow
import Derived.Handy
import Derived.WalkKit
import Derived.BigCall
import Derived.Shelf.Strings.SlTrimAscii
set_option linter.unusedVariables false
set_option linter.unusedSimpArgs false
set_option maxRecDepth 100000
set_option maxHeartbeats 40000000
namespace Go.Proofs
open Go.Shelf
def Tryz.lays169_ren:Go.Shelf.Ren:=⟨fun | 169=>110 | n=>n,fun | 70=>162 | 9=>9 | 0=>0 | 72=>164 | 37=>23 | 127=>222 | 3=>3 | 5=>5 | n=>n,fun | n=>n⟩
theorem Tryz.cqz{α:Type}{a:Option α}{x y:α}(h:a=some x)(e:x=y):a=some y:=h.trans (congrArg some e)
theorem Tryz.lays169:Go.Proofs.Lays.n169 prog Tryz.lays169_ren:=⟨by kernel_rfl,cqz func110 (by kernel_rfl),underlying0,isAgg0,sizeOf0,zeroValue0,underlying3,isAgg3,sizeOf3,zeroValue3,underlying9,isAgg9,sizeOf9,zeroValue9,underlying23,isAgg23,sizeOf23,zeroValue23,underlying162,isAgg162,sizeOf162,zeroValue162,underlying164,isAgg164,sizeOf164,zeroValue164,underlying222,isAgg222,sizeOf222,zeroValue222⟩
theorem Tryz.Builder_Extra_169:Builder.Extra prog Tryz.lays169_ren:={
 sizeBuilder:=by kernel_rfl
 liesBuilder:=by kernel_rfl
 t5:=underlying5
 a5:=isAgg5
 z5:=sizeOf5
 v5:=zeroValue5
 infoByte:=by kernel_rfl
 cellsByte:=by kernel_rfl
 sizeByte:=by kernel_rfl
 neB5:=by decide}
def Tryz.lays165_ren:Go.Shelf.Ren:=⟨fun | 165=>108 | 240=>152 | 241=>153 | 276=>184 | 277=>185 | n=>n,fun | 70=>162 | 3=>3 | 0=>0 | 4=>4 | 9=>9 | 20=>20 | 72=>164 | 37=>23 | 164=>241 | 5=>5 | n=>n,fun | n=>n⟩
theorem Tryz.lays165:Go.Proofs.Lays.n165 prog Tryz.lays165_ren:=⟨by kernel_rfl,cqz func108 (by kernel_rfl),cqz func152 (by kernel_rfl),cqz func153 (by kernel_rfl),cqz func184 (by kernel_rfl),cqz func185 (by kernel_rfl),underlying0,isAgg0,sizeOf0,zeroValue0,underlying3,isAgg3,sizeOf3,zeroValue3,underlying4,isAgg4,sizeOf4,zeroValue4,underlying9,isAgg9,sizeOf9,zeroValue9,underlying20,isAgg20,sizeOf20,zeroValue20,underlying23,isAgg23,sizeOf23,zeroValue23,underlying162,isAgg162,sizeOf162,zeroValue162,underlying164,isAgg164,sizeOf164,zeroValue164,underlying241,isAgg241,sizeOf241,zeroValue241⟩
theorem Tryz.Builder_Extra_165:Builder.Extra prog Tryz.lays165_ren:={
 sizeBuilder:=by kernel_rfl
 liesBuilder:=by kernel_rfl
 t5:=underlying5
 a5:=isAgg5
 z5:=sizeOf5
 v5:=zeroValue5
 infoByte:=by kernel_rfl
 cellsByte:=by kernel_rfl
 sizeByte:=by kernel_rfl
 neB5:=by decide}
def Tryz.lays156_ren:Go.Shelf.Ren:=⟨fun | 156=>70 | 165=>108 | 166=>109 | 169=>110 | 240=>152 | 241=>153 | 276=>184 | 277=>185 | n=>n,fun | 31=>40 | 9=>9 | 3=>3 | 4=>4 | 0=>0 | 20=>20 | 72=>164 | 76=>168 | 70=>162 | 37=>23 | 75=>167 | 127=>222 | 164=>241 | 5=>5 | 80=>170 | n=>n,fun | n=>n⟩
theorem Tryz.lays156:Go.Proofs.Lays.n156 prog Tryz.lays156_ren:=⟨by kernel_rfl,cqz func70 (by kernel_rfl),cqz func108 (by kernel_rfl),cqz func109 (by kernel_rfl),cqz func110 (by kernel_rfl),cqz func152 (by kernel_rfl),cqz func153 (by kernel_rfl),cqz func184 (by kernel_rfl),cqz func185 (by kernel_rfl),underlying0,isAgg0,sizeOf0,zeroValue0,underlying3,isAgg3,sizeOf3,zeroValue3,underlying4,isAgg4,sizeOf4,zeroValue4,underlying9,isAgg9,sizeOf9,zeroValue9,underlying20,isAgg20,sizeOf20,zeroValue20,underlying40,isAgg40,sizeOf40,zeroValue40,underlying23,isAgg23,sizeOf23,zeroValue23,underlying162,isAgg162,sizeOf162,zeroValue162,underlying164,isAgg164,sizeOf164,zeroValue164,underlying167,isAgg167,sizeOf167,zeroValue167,underlying168,isAgg168,sizeOf168,zeroValue168,underlying222,isAgg222,sizeOf222,zeroValue222,underlying241,isAgg241,sizeOf241,zeroValue241⟩
theorem Tryz.Builder_Extra_156:Builder.Extra prog Tryz.lays156_ren:={
 sizeBuilder:=by kernel_rfl
 liesBuilder:=by kernel_rfl
 t5:=underlying5
 a5:=isAgg5
 z5:=sizeOf5
 v5:=zeroValue5
 infoByte:=by kernel_rfl
 cellsByte:=by kernel_rfl
 sizeByte:=by kernel_rfl
 neB5:=by decide}
open Go.RowKit in
theorem Tryz.strings_Join_none(a:Option Addr)(c:Nat)(sep:ByteArray)(w:World):
 Calls prog 70 #[.slice a 0 c,.string sep] w fun e w' =>e=.returned (.string ⟨#[]⟩)/\w' =w:=Any.strings_Join_none Tryz.lays156 Tryz.Builder_Extra_156 a c sep w
open Go.RowKit in
theorem Tryz.strings_Join(bk o c:Nat)(xs:List ByteArray)(sep:ByteArray)(w:World)(hcells:∀(j:Nat) x,xs[j]? =some x->w.cell? ⟨bk,o+j,none⟩=some (.string x))(hbk:bk < w.heap.size)(hN:xs.length<=140737488355328)(hcap:xs.length<=c)(hlen:(Lib.join (xs.map (·.data.toList)) sep.data.toList).length<=140737488355328):
 Calls prog 70 #[.slice (some ⟨bk,o,none⟩) xs.length c,.string sep] w fun e w' =>e=.returned (.string ⟨(Lib.join (xs.map (·.data.toList)) sep.data.toList).toArray⟩)/\Below w.heap.size w w' :=Any.strings_Join Tryz.lays156 Tryz.Builder_Extra_156 bk o c xs sep w hcells hbk hN hcap hlen
def Tryz.lays161_ren:Go.Shelf.Ren:=⟨fun | 161=>215 | 231=>135 | 227=>137 | 233=>138 | 235=>140 | 228=>171 | 197=>172 | 151=>173 | 260=>199 | 152=>200 | 137=>101 | 119=>220 | 224=>188 | 225=>208 | 217=>145 | 266=>179 | n=>n,fun | 9=>9 | 4=>4 | 3=>3 | 5=>5 | 117=>213 | 116=>212 | 0=>0 | 124=>216 | 105=>232 | 21=>21 | 119=>257 | 46=>191 | 139=>260 | 138=>259 | n=>n,fun | 3=>2 | 4=>3 | n=>n⟩
theorem Tryz.lays161:Go.Proofs.Lays.n161 prog Tryz.lays161_ren:=⟨by kernel_rfl,cqz func220 (by kernel_rfl),cqz func101 (by kernel_rfl),cqz func173 (by kernel_rfl),cqz func200 (by kernel_rfl),cqz func215 (by kernel_rfl),cqz func172 (by kernel_rfl),cqz func145 (by kernel_rfl),cqz func188 (by kernel_rfl),cqz func208 (by kernel_rfl),cqz func137 (by kernel_rfl),cqz func171 (by kernel_rfl),cqz func135 (by kernel_rfl),cqz func138 (by kernel_rfl),cqz func140 (by kernel_rfl),cqz func199 (by kernel_rfl),cqz func179 (by kernel_rfl),underlying0,isAgg0,sizeOf0,zeroValue0,underlying3,isAgg3,sizeOf3,zeroValue3,underlying4,isAgg4,sizeOf4,zeroValue4,underlying5,isAgg5,sizeOf5,zeroValue5,underlying9,isAgg9,sizeOf9,zeroValue9,underlying21,isAgg21,sizeOf21,zeroValue21,underlying191,isAgg191,sizeOf191,zeroValue191,underlying232,isAgg232,sizeOf232,zeroValue232,underlying212,isAgg212,sizeOf212,underlying213,isAgg213,sizeOf213,zeroValue213,underlying257,isAgg257,sizeOf257,underlying216,isAgg216,sizeOf216,zeroValue216,underlying259,isAgg259,sizeOf259,zeroValue259,underlying260,isAgg260,sizeOf260,zeroValue260,by kernel_rfl,by kernel_rfl⟩
def Tryz.lays162_ren:Go.Shelf.Ren:=⟨fun | 162=>134 | 232=>136 | 227=>137 | 234=>139 | 236=>141 | 228=>171 | 271=>174 | 151=>173 | 120=>201 | 197=>172 | 152=>200 | 260=>199 | 137=>101 | 119=>220 | 224=>188 | 225=>208 | 217=>145 | 266=>179 | n=>n,fun | 9=>9 | 4=>4 | 3=>3 | 5=>5 | 117=>213 | 116=>212 | 0=>0 | 124=>216 | 21=>21 | 105=>232 | 46=>191 | 119=>257 | 139=>260 | 138=>259 | n=>n,fun | 3=>2 | 4=>3 | n=>n⟩
theorem Tryz.lays162:Go.Proofs.Lays.n162 prog Tryz.lays162_ren:=⟨by kernel_rfl,cqz func220 (by kernel_rfl),cqz func201 (by kernel_rfl),cqz func101 (by kernel_rfl),cqz func173 (by kernel_rfl),cqz func200 (by kernel_rfl),cqz func134 (by kernel_rfl),cqz func172 (by kernel_rfl),cqz func145 (by kernel_rfl),cqz func188 (by kernel_rfl),cqz func208 (by kernel_rfl),cqz func137 (by kernel_rfl),cqz func171 (by kernel_rfl),cqz func136 (by kernel_rfl),cqz func139 (by kernel_rfl),cqz func141 (by kernel_rfl),cqz func199 (by kernel_rfl),cqz func179 (by kernel_rfl),cqz func174 (by kernel_rfl),underlying0,isAgg0,sizeOf0,zeroValue0,underlying3,isAgg3,sizeOf3,zeroValue3,underlying4,isAgg4,sizeOf4,zeroValue4,underlying5,isAgg5,sizeOf5,zeroValue5,underlying9,isAgg9,sizeOf9,zeroValue9,underlying21,isAgg21,sizeOf21,zeroValue21,underlying191,isAgg191,sizeOf191,zeroValue191,underlying232,isAgg232,sizeOf232,zeroValue232,underlying212,isAgg212,sizeOf212,underlying213,isAgg213,sizeOf213,zeroValue213,underlying257,isAgg257,sizeOf257,underlying216,isAgg216,sizeOf216,zeroValue216,underlying259,isAgg259,sizeOf259,zeroValue259,underlying260,isAgg260,sizeOf260,zeroValue260,by kernel_rfl,by kernel_rfl⟩
def Tryz.lays160_ren:Go.Shelf.Ren:=⟨fun | 160=>96 | 232=>136 | 231=>135 | 227=>137 | 234=>139 | 233=>138 | 236=>141 | 235=>140 | 228=>171 | 271=>174 | 151=>173 | 197=>172 | 120=>201 | 152=>200 | 260=>199 | 137=>101 | 119=>220 | 224=>188 | 225=>208 | 217=>145 | 266=>179 | n=>n,fun | 9=>9 | 4=>4 | 3=>3 | 5=>5 | 117=>213 | 116=>212 | 0=>0 | 124=>216 | 21=>21 | 105=>232 | 46=>191 | 119=>257 | 139=>260 | 138=>259 | n=>n,fun | 3=>2 | 4=>3 | n=>n⟩
theorem Tryz.lays160:Go.Proofs.Lays.n160 prog Tryz.lays160_ren:=⟨by kernel_rfl,cqz func220 (by kernel_rfl),cqz func201 (by kernel_rfl),cqz func101 (by kernel_rfl),cqz func173 (by kernel_rfl),cqz func200 (by kernel_rfl),cqz func96 (by kernel_rfl),cqz func172 (by kernel_rfl),cqz func145 (by kernel_rfl),cqz func188 (by kernel_rfl),cqz func208 (by kernel_rfl),cqz func137 (by kernel_rfl),cqz func171 (by kernel_rfl),cqz func135 (by kernel_rfl),cqz func136 (by kernel_rfl),cqz func138 (by kernel_rfl),cqz func139 (by kernel_rfl),cqz func140 (by kernel_rfl),cqz func141 (by kernel_rfl),cqz func199 (by kernel_rfl),cqz func179 (by kernel_rfl),cqz func174 (by kernel_rfl),underlying0,isAgg0,sizeOf0,zeroValue0,underlying3,isAgg3,sizeOf3,zeroValue3,underlying4,isAgg4,sizeOf4,zeroValue4,underlying5,isAgg5,sizeOf5,zeroValue5,underlying9,isAgg9,sizeOf9,zeroValue9,underlying21,isAgg21,sizeOf21,zeroValue21,underlying191,isAgg191,sizeOf191,zeroValue191,underlying232,isAgg232,sizeOf232,zeroValue232,underlying212,isAgg212,sizeOf212,underlying213,isAgg213,sizeOf213,zeroValue213,underlying257,isAgg257,sizeOf257,underlying216,isAgg216,sizeOf216,zeroValue216,underlying259,isAgg259,sizeOf259,zeroValue259,underlying260,isAgg260,sizeOf260,zeroValue260,by kernel_rfl,by kernel_rfl⟩
def Tryz.lays137_ren:Go.Shelf.Ren:=⟨fun | 137=>101 | 217=>145 | 266=>179 | n=>n,fun | 9=>9 | 5=>5 | 3=>3 | n=>n,fun | n=>n⟩
theorem Tryz.lays137:Go.Proofs.Lays.n137 prog Tryz.lays137_ren:=⟨by kernel_rfl,cqz func101 (by kernel_rfl),cqz func145 (by kernel_rfl),cqz func179 (by kernel_rfl),underlying3,isAgg3,sizeOf3,zeroValue3,underlying5,isAgg5,sizeOf5,zeroValue5,underlying9,isAgg9,sizeOf9,zeroValue9⟩
open Go.RowKit in
theorem Tryz.strings_IndexByte(s:ByteArray)(c:Int)(w:World):
 Calls prog 101 #[.string s,.int .u8 c] w fun e w' =>e=.returned (.int .i64 (Lib.indexByte s.data.toList c.toNat.toUInt8))/\w' =w:=Any.strings_IndexByte Tryz.lays137 s c w
def Tryz.lays104_ren:Go.Shelf.Ren:=⟨fun | 104=>213 | 211=>229 | 207=>156 | n=>n,fun | 9=>9 | 4=>4 | 24=>128 | 3=>3 | n=>n,fun | n=>n⟩
theorem Tryz.lays104:Go.Proofs.Lays.n104 prog Tryz.lays104_ren:=⟨by kernel_rfl,cqz func213 (by kernel_rfl),cqz func156 (by kernel_rfl),cqz func229 (by kernel_rfl),underlying3,isAgg3,sizeOf3,zeroValue3,underlying4,isAgg4,sizeOf4,zeroValue4,underlying9,isAgg9,sizeOf9,zeroValue9,underlying128,isAgg128,sizeOf128,zeroValue128⟩
open Go.RowKit in
theorem Tryz.strings_CutSuffix(s p:ByteArray)(w:World)(hs:s.size<=9223372036854775807):
 Calls prog 213 #[.string s,.string p] w fun e w' =>e=.returned (.tuple #[.string ⟨(Lib.trimSuffix s.data.toList p.data.toList).toArray⟩,.bool (Lib.hasSuffix s.data.toList p.data.toList)])/\w' =w:=Any.strings_CutSuffix Tryz.lays104 s p w hs
open Go.RowKit in
theorem Tryz.Builder_String_any_k(B b:Nat)(l:List UInt8)(w:World)(h:Lib.IsBuilderF 164 5 B b (Lib.byteCells l) w)(hBw:B<=w.heap.size):
 Calls prog 110 #[.pointer (some ⟨b,0,none⟩)] w fun e w' =>e=.returned (.string ⟨l.toArray⟩)/\(Lib.IsBuilderF 164 5 B b (Lib.byteCells l) w' /\Below B w w' /\Lib.OthersKept 5 (some b) w w'):=Any.Builder_String_any_k Tryz.lays169 Tryz.Builder_Extra_169 B b l w h hBw
open Go.RowKit in
theorem Tryz.Builder_Grow_fresh_cap(B b n:Nat)(w:World)(hB:B<=b)(hbk:w.heap[b]? =some (.cells #[.pointer none,.slice none 0 0] 164 (0,0)))(hBw:B<=w.heap.size)(hn:n<=281474976710656):
 Calls prog 108 #[.pointer (some ⟨b,0,none⟩),.int .i64 n] w fun e w' =>e=.returned (.tuple #[])/\(Lib.BuilderAt 164 5 B b (.pointer (some ⟨b,0,none⟩)) [] w' /\Below B w w')/\∃p cap,w'.cell? ⟨b,1,none⟩=some (.slice p 0 cap)/\n<=cap:=Any.Builder_Grow_fresh_cap Tryz.lays165 Tryz.Builder_Extra_165 B b n w hB hbk hBw hn
def Tryz.lays172_ren:Go.Shelf.Ren:=⟨fun | 172=>230 | 244=>245 | 245=>246 | 247=>259 | 279=>260 | 280=>261 | 281=>262 | 282=>263 | 287=>274 | 316=>275 | 171=>20 | 205=>276 | 321=>282 | 322=>283 | 243=>39 | 246=>60 | 283=>88 | 284=>89 | 285=>90 | 286=>91 | 129=>128 | 317=>127 | 318=>129 | 319=>130 | 320=>131 | 337=>167 | 338=>168 | n=>n,fun | 9=>9 | 3=>3 | 75=>167 | 76=>168 | 4=>4 | 5=>5 | 167=>324 | 37=>23 | 0=>0 | 85=>325 | 2=>2 | 168=>327 | 53=>145 | 175=>338 | 46=>191 | 210=>341 | 127=>222 | 145=>351 | 143=>349 | 21=>21 | 171=>144 | 173=>148 | 212=>188 | 51=>189 | 20=>20 | 213=>190 | 232=>262 | 233=>263 | 80=>170 | n=>n,fun | 15=>6 | 16=>7 | 17=>0 | 18=>4 | 19=>5 | n=>n⟩
theorem Tryz.lays172:Go.Proofs.Lays.n172 prog Tryz.lays172_ren:=⟨by kernel_rfl,cqz func128 (by kernel_rfl),cqz func20 (by kernel_rfl),cqz func230 (by kernel_rfl),cqz func276 (by kernel_rfl),cqz func39 (by kernel_rfl),cqz func245 (by kernel_rfl),cqz func246 (by kernel_rfl),cqz func60 (by kernel_rfl),cqz func259 (by kernel_rfl),cqz func260 (by kernel_rfl),cqz func261 (by kernel_rfl),cqz func262 (by kernel_rfl),cqz func263 (by kernel_rfl),cqz func88 (by kernel_rfl),cqz func89 (by kernel_rfl),cqz func90 (by kernel_rfl),cqz func91 (by kernel_rfl),cqz func274 (by kernel_rfl),cqz func275 (by kernel_rfl),cqz func127 (by kernel_rfl),cqz func129 (by kernel_rfl),cqz func130 (by kernel_rfl),cqz func131 (by kernel_rfl),cqz func282 (by kernel_rfl),cqz func283 (by kernel_rfl),cqz func167 (by kernel_rfl),cqz func168 (by kernel_rfl),underlying0,isAgg0,sizeOf0,zeroValue0,underlying2,isAgg2,sizeOf2,zeroValue2,underlying3,isAgg3,sizeOf3,zeroValue3,underlying4,isAgg4,sizeOf4,zeroValue4,underlying5,isAgg5,sizeOf5,zeroValue5,underlying9,isAgg9,sizeOf9,zeroValue9,underlying20,isAgg20,sizeOf20,zeroValue20,underlying21,isAgg21,sizeOf21,zeroValue21,underlying23,isAgg23,sizeOf23,zeroValue23,underlying191,isAgg191,sizeOf191,zeroValue191,underlying189,isAgg189,sizeOf189,zeroValue189,underlying145,isAgg145,sizeOf145,zeroValue145,underlying167,isAgg167,sizeOf167,zeroValue167,underlying168,isAgg168,sizeOf168,zeroValue168,underlying325,isAgg325,sizeOf325,zeroValue325,underlying222,isAgg222,sizeOf222,zeroValue222,underlying349,isAgg349,sizeOf349,zeroValue349,underlying351,isAgg351,sizeOf351,zeroValue351,underlying324,isAgg324,sizeOf324,zeroValue324,underlying327,isAgg327,sizeOf327,zeroValue327,underlying144,isAgg144,sizeOf144,zeroValue144,underlying148,isAgg148,sizeOf148,zeroValue148,underlying338,isAgg338,sizeOf338,zeroValue338,underlying341,isAgg341,sizeOf341,zeroValue341,underlying188,isAgg188,sizeOf188,zeroValue188,underlying190,isAgg190,sizeOf190,underlying262,isAgg262,sizeOf262,zeroValue262,underlying263,isAgg263,sizeOf263,zeroValue263,by kernel_rfl,by kernel_rfl,by kernel_rfl,by kernel_rfl,by kernel_rfl⟩
open Go.RowKit in
theorem Tryz.strconv_Atoi(s:ByteArray)(n:Int)(hl:s.size<=18)(h:Lib.atoi s.data.toList=some n)(w:World):
 Calls prog 230 #[.string s] w fun e w' =>e=.returned (.tuple #[.int .i64 n,.nilIface])/\∃t,w' =Lib.bytesWorld w 5 t:=Any.strconv_Atoi Tryz.lays172 s n hl h w
def Tryz.laysM171_ren:Go.Shelf.Ren:=⟨fun | 171=>20 | 243=>39 | 246=>60 | 283=>88 | 284=>89 | 285=>90 | 286=>91 | 129=>128 | 317=>127 | 318=>129 | 319=>130 | 320=>131 | 337=>167 | 338=>168 | n=>n,fun | 3=>3 | 9=>9 | 2=>2 | 4=>4 | 171=>144 | 0=>0 | 53=>145 | 37=>23 | 5=>5 | 173=>148 | 212=>188 | 51=>189 | 20=>20 | 213=>190 | 46=>191 | 232=>262 | 233=>263 | n=>n,fun | 17=>0 | 18=>4 | 19=>5 | n=>n⟩
theorem Tryz.laysM171:Go.Proofs.LaysM.n171 prog Tryz.laysM171_ren:={mixed:=by kernel_rfl,f129:=cqz func128 (by kernel_rfl),f171:=cqz func20 (by kernel_rfl),f243:=cqz func39 (by kernel_rfl),f246:=cqz func60 (by kernel_rfl),f283:=cqz func88 (by kernel_rfl),f284:=cqz func89 (by kernel_rfl),f285:=cqz func90 (by kernel_rfl),f286:=cqz func91 (by kernel_rfl),f317:=cqz func127 (by kernel_rfl),f318:=cqz func129 (by kernel_rfl),f319:=cqz func130 (by kernel_rfl),f320:=cqz func131 (by kernel_rfl),f337:=cqz func167 (by kernel_rfl),f338:=cqz func168 (by kernel_rfl),t0:=underlying0,a0:=isAgg0,z0:=sizeOf0,v0:=zeroValue0,t2:=underlying2,a2:=isAgg2,z2:=sizeOf2,v2:=zeroValue2,t3:=underlying3,a3:=isAgg3,z3:=sizeOf3,v3:=zeroValue3,t4:=underlying4,a4:=isAgg4,z4:=sizeOf4,v4:=zeroValue4,t5:=underlying5,a5:=isAgg5,z5:=sizeOf5,v5:=zeroValue5,t9:=underlying9,a9:=isAgg9,z9:=sizeOf9,v9:=zeroValue9,t20:=underlying20,a20:=isAgg20,z20:=sizeOf20,v20:=zeroValue20,t37:=underlying23,a37:=isAgg23,z37:=sizeOf23,v37:=zeroValue23,t46:=underlying191,a46:=isAgg191,z46:=sizeOf191,v46:=zeroValue191,t51:=underlying189,a51:=isAgg189,z51:=sizeOf189,v51:=zeroValue189,t53:=underlying145,a53:=isAgg145,z53:=sizeOf145,v53:=zeroValue145,t171:=underlying144,a171:=isAgg144,z171:=sizeOf144,v171:=zeroValue144,t173:=underlying148,a173:=isAgg148,z173:=sizeOf148,v173:=zeroValue148,t212:=underlying188,a212:=isAgg188,z212:=sizeOf188,v212:=zeroValue188,t213:=underlying190,a213:=isAgg190,z213:=sizeOf190,t232:=underlying262,a232:=isAgg262,z232:=sizeOf262,v232:=zeroValue262,t233:=underlying263,a233:=isAgg263,z233:=sizeOf263,v233:=zeroValue263,g17:=by kernel_rfl,g18:=by kernel_rfl,g19:=by kernel_rfl,i0:=by kernel_rfl,i2:=by kernel_rfl,i3:=by kernel_rfl,i4:=by kernel_rfl,i5:=by kernel_rfl,i9:=by kernel_rfl,i20:=by kernel_rfl,i37:=by kernel_rfl,i46:=by kernel_rfl,i51:=by kernel_rfl,i53:=by kernel_rfl,i171:=by kernel_rfl,i173:=by kernel_rfl,i212:=by kernel_rfl,i232:=by kernel_rfl,i233:=by kernel_rfl,m17:=by kernel_rfl,m18:=by kernel_rfl,m19:=by kernel_rfl}
open Go.RowKit Go.Sort Go.Lib in
theorem Tryz.strconv_Itoa (n : Int) (h0 : -9223372036854775808 <= n) (h1 : n <= 9223372036854775807) (w : World) (htab : Lib.TabIs prog w "internal/strconv.uint64pow10" .u64 Lib.pow10Tab) :
 Calls prog 20 #[.int .i64 n] w fun e w' =>e=.returned (.string ⟨(Lib.itoa n).toArray⟩)/\∃k os,w' =grow (w.drewN k) os:=Any.strconv_Itoa Tryz.laysM171 n h0 h1 w htab
def Tryz.laysC172_ren:Go.Shelf.Ren:=⟨fun | 172=>230 | 244=>245 | 245=>246 | 247=>259 | 279=>260 | 280=>261 | 281=>262 | 282=>263 | 287=>274 | 316=>275 | 171=>20 | 205=>276 | 321=>282 | 322=>283 | 243=>39 | 246=>60 | 283=>88 | 284=>89 | 285=>90 | 286=>91 | 129=>128 | 317=>127 | 318=>129 | 319=>130 | 320=>131 | 337=>167 | 338=>168 | n=>n,fun | 9=>9 | 3=>3 | 75=>167 | 76=>168 | 4=>4 | 5=>5 | 167=>324 | 37=>23 | 0=>0 | 85=>325 | 2=>2 | 168=>327 | 53=>145 | 175=>338 | 46=>191 | 210=>341 | 127=>222 | 145=>351 | 143=>349 | 21=>21 | 171=>144 | 173=>148 | 212=>188 | 51=>189 | 20=>20 | 213=>190 | 232=>262 | 233=>263 | 80=>170 | n=>n,fun | 15=>6 | 16=>7 | 17=>0 | 18=>4 | 19=>5 | n=>n⟩
theorem Tryz.laysC172:Go.Proofs.LaysC.n172 prog Tryz.laysC172_ren:={mixed:=by kernel_rfl,f129:=cqz func128 (by kernel_rfl),f171:=cqz func20 (by kernel_rfl),f172:=cqz func230 (by kernel_rfl),f205:=cqz func276 (by kernel_rfl),f243:=cqz func39 (by kernel_rfl),f244:=cqz func245 (by kernel_rfl),f245:=cqz func246 (by kernel_rfl),f246:=cqz func60 (by kernel_rfl),f247:=cqz func259 (by kernel_rfl),f279:=cqz func260 (by kernel_rfl),f280:=cqz func261 (by kernel_rfl),f281:=cqz func262 (by kernel_rfl),f282:=cqz func263 (by kernel_rfl),f283:=cqz func88 (by kernel_rfl),f284:=cqz func89 (by kernel_rfl),f285:=cqz func90 (by kernel_rfl),f286:=cqz func91 (by kernel_rfl),f287:=cqz func274 (by kernel_rfl),f316:=cqz func275 (by kernel_rfl),f317:=cqz func127 (by kernel_rfl),f318:=cqz func129 (by kernel_rfl),f319:=cqz func130 (by kernel_rfl),f320:=cqz func131 (by kernel_rfl),f321:=cqz func282 (by kernel_rfl),f322:=cqz func283 (by kernel_rfl),f337:=cqz func167 (by kernel_rfl),f338:=cqz func168 (by kernel_rfl),t0:=underlying0,a0:=isAgg0,z0:=sizeOf0,v0:=zeroValue0,t2:=underlying2,a2:=isAgg2,z2:=sizeOf2,v2:=zeroValue2,t3:=underlying3,a3:=isAgg3,z3:=sizeOf3,v3:=zeroValue3,t4:=underlying4,a4:=isAgg4,z4:=sizeOf4,v4:=zeroValue4,t5:=underlying5,a5:=isAgg5,z5:=sizeOf5,v5:=zeroValue5,t9:=underlying9,a9:=isAgg9,z9:=sizeOf9,v9:=zeroValue9,t20:=underlying20,a20:=isAgg20,z20:=sizeOf20,v20:=zeroValue20,t21:=underlying21,a21:=isAgg21,z21:=sizeOf21,v21:=zeroValue21,t37:=underlying23,a37:=isAgg23,z37:=sizeOf23,v37:=zeroValue23,t46:=underlying191,a46:=isAgg191,z46:=sizeOf191,v46:=zeroValue191,t51:=underlying189,a51:=isAgg189,z51:=sizeOf189,v51:=zeroValue189,t53:=underlying145,a53:=isAgg145,z53:=sizeOf145,v53:=zeroValue145,t75:=underlying167,a75:=isAgg167,z75:=sizeOf167,v75:=zeroValue167,t76:=underlying168,a76:=isAgg168,z76:=sizeOf168,v76:=zeroValue168,t85:=underlying325,a85:=isAgg325,z85:=sizeOf325,v85:=zeroValue325,t127:=underlying222,a127:=isAgg222,z127:=sizeOf222,v127:=zeroValue222,t143:=underlying349,a143:=isAgg349,z143:=sizeOf349,v143:=zeroValue349,t145:=underlying351,a145:=isAgg351,z145:=sizeOf351,v145:=zeroValue351,t167:=underlying324,a167:=isAgg324,z167:=sizeOf324,v167:=zeroValue324,t168:=underlying327,a168:=isAgg327,z168:=sizeOf327,v168:=zeroValue327,t171:=underlying144,a171:=isAgg144,z171:=sizeOf144,v171:=zeroValue144,t173:=underlying148,a173:=isAgg148,z173:=sizeOf148,v173:=zeroValue148,t175:=underlying338,a175:=isAgg338,z175:=sizeOf338,v175:=zeroValue338,t210:=underlying341,a210:=isAgg341,z210:=sizeOf341,v210:=zeroValue341,t212:=underlying188,a212:=isAgg188,z212:=sizeOf188,v212:=zeroValue188,t213:=underlying190,a213:=isAgg190,z213:=sizeOf190,t232:=underlying262,a232:=isAgg262,z232:=sizeOf262,v232:=zeroValue262,t233:=underlying263,a233:=isAgg263,z233:=sizeOf263,v233:=zeroValue263,g15:=by kernel_rfl,g16:=by kernel_rfl,g17:=by kernel_rfl,g18:=by kernel_rfl,g19:=by kernel_rfl,t80:=underlying170,a80:=isAgg170,z80:=sizeOf170,v80:=zeroValue170,i0:=by kernel_rfl,i2:=by kernel_rfl,i3:=by kernel_rfl,i4:=by kernel_rfl,i5:=by kernel_rfl,i9:=by kernel_rfl,i20:=by kernel_rfl,i21:=by kernel_rfl,i37:=by kernel_rfl,i46:=by kernel_rfl,i51:=by kernel_rfl,i53:=by kernel_rfl,i75:=by kernel_rfl,i76:=by kernel_rfl,i80:=by kernel_rfl,i85:=by kernel_rfl,i127:=by kernel_rfl,i143:=by kernel_rfl,i145:=by kernel_rfl,i167:=by kernel_rfl,i168:=by kernel_rfl,i171:=by kernel_rfl,i173:=by kernel_rfl,i175:=by kernel_rfl,i210:=by kernel_rfl,i212:=by kernel_rfl,i232:=by kernel_rfl,i233:=by kernel_rfl,m15:=by kernel_rfl,m16:=by kernel_rfl,m17:=by kernel_rfl,m18:=by kernel_rfl,m19:=by kernel_rfl,c0:=by kernel_rfl,c2:=by kernel_rfl,c3:=by kernel_rfl,c4:=by kernel_rfl,c5:=by kernel_rfl,c9:=by kernel_rfl,c20:=by kernel_rfl,c21:=by kernel_rfl,c37:=by kernel_rfl,c46:=by kernel_rfl,c51:=by kernel_rfl,c53:=by kernel_rfl,c75:=by kernel_rfl,c76:=by kernel_rfl,c80:=by kernel_rfl,c85:=by kernel_rfl,c127:=by kernel_rfl,c143:=by kernel_rfl,c145:=by kernel_rfl,c167:=by kernel_rfl,c168:=by kernel_rfl,c171:=by kernel_rfl,c173:=by kernel_rfl,c175:=by kernel_rfl,c210:=by kernel_rfl,c212:=by kernel_rfl,c213:=by kernel_rfl,c232:=by kernel_rfl,c233:=by kernel_rfl}
open Go.RowKit in
theorem Tryz.strconv_Atoi_err_var (s : ByteArray) (hl : s.size <= 18) (h : Lib.atoi s.data.toList = none) (tp : TypeId) (p : Value) (w : World) (hvar : w.var? prog "strconv.ErrSyntax" = some #[.iface tp p]) :
 Calls prog 230 #[.string s] w fun e w' =>∃N,e=.returned (.tuple #[.int .i64 0,.iface 327 (.pointer (some ⟨N,0,none⟩))])/\w.heap.size<=N/\w'.heap[N]? =some (.cells #[.string ⟨#[65,116,111,105]⟩,.string s,.iface tp p] 341 (0,0))/\Below w.heap.size w w' :=Any.strconv_Atoi_err_var Tryz.laysC172 s hl h tp p w hvar
def Tryz.lays144_ren:Go.Shelf.Ren:=⟨fun | 144=>148 | 143=>181 | 219=>178 | 217=>145 | 225=>208 | 224=>188 | 267=>209 | 266=>179 | 314=>227 | n=>n,fun | 9=>9 | 4=>4 | 3=>3 | 5=>5 | 46=>191 | 146=>237 | 51=>189 | n=>n,fun | 1=>1 | n=>n⟩
theorem Tryz.lays144:Go.Proofs.Lays.n144 prog Tryz.lays144_ren:=⟨by kernel_rfl,cqz func181 (by kernel_rfl),cqz func148 (by kernel_rfl),cqz func145 (by kernel_rfl),cqz func178 (by kernel_rfl),cqz func188 (by kernel_rfl),cqz func208 (by kernel_rfl),cqz func179 (by kernel_rfl),cqz func209 (by kernel_rfl),cqz func227 (by kernel_rfl),underlying3,isAgg3,sizeOf3,zeroValue3,underlying4,isAgg4,sizeOf4,zeroValue4,underlying5,isAgg5,sizeOf5,zeroValue5,underlying9,isAgg9,sizeOf9,zeroValue9,underlying191,isAgg191,sizeOf191,zeroValue191,underlying189,isAgg189,sizeOf189,zeroValue189,underlying237,isAgg237,sizeOf237,zeroValue237,by kernel_rfl⟩
open Go.RowKit Go.Lib in
theorem Tryz.strings_Contains(s sub:ByteArray)(m:Int)(w:World)(hs:s.size < 4294967281)(hm:w.cell? ⟨1,0,none⟩=some (.int .i64 m)):
 Calls prog 148 #[.string s,.string sub] w fun e w' =>e=.returned (.bool (Lib.contains s.data.toList sub.data.toList))/\w' =w:=Any.strings_Contains Tryz.lays144 s sub m w hs hm
def Tryz.lays145_ren:Go.Shelf.Ren:=⟨fun | 145=>98 | 220=>144 | 219=>178 | 217=>145 | 225=>208 | 224=>188 | 267=>209 | 266=>179 | 314=>227 | n=>n,fun | 9=>9 | 4=>4 | 59=>112 | 3=>3 | 5=>5 | 46=>191 | 146=>237 | 51=>189 | n=>n,fun | 1=>1 | n=>n⟩
theorem Tryz.lays145:Go.Proofs.Lays.n145 prog Tryz.lays145_ren:=⟨by kernel_rfl,cqz func98 (by kernel_rfl),cqz func145 (by kernel_rfl),cqz func178 (by kernel_rfl),cqz func144 (by kernel_rfl),cqz func188 (by kernel_rfl),cqz func208 (by kernel_rfl),cqz func179 (by kernel_rfl),cqz func209 (by kernel_rfl),cqz func227 (by kernel_rfl),underlying3,isAgg3,sizeOf3,zeroValue3,underlying4,isAgg4,sizeOf4,zeroValue4,underlying5,isAgg5,sizeOf5,zeroValue5,underlying9,isAgg9,sizeOf9,zeroValue9,underlying191,isAgg191,sizeOf191,zeroValue191,underlying189,isAgg189,sizeOf189,zeroValue189,underlying112,isAgg112,sizeOf112,zeroValue112,underlying237,isAgg237,sizeOf237,zeroValue237,by kernel_rfl⟩
open Go.RowKit Go.Lib in
theorem Tryz.strings_Cut(s sep:ByteArray)(m:Int)(w:World)(hs:s.size < 4294967281)(hm:w.cell? ⟨1,0,none⟩=some (.int .i64 m)):
 Calls prog 98 #[.string s,.string sep] w fun e w' =>e=.returned (.tuple #[.string ⟨(Lib.cut s.data.toList sep.data.toList).1.toArray⟩,.string ⟨(Lib.cut s.data.toList sep.data.toList).2.1.toArray⟩,.bool (Lib.cut s.data.toList sep.data.toList).2.2])/\∃n,w' =w.drewN n:=Any.strings_Cut Tryz.lays145 s sep m w hs hm
def Tryz.lays138_ren:Go.Shelf.Ren:=⟨fun | 138=>312 | 195=>313 | 218=>314 | 143=>181 | 219=>178 | 217=>145 | 225=>208 | 224=>188 | 267=>209 | 266=>179 | 314=>227 | n=>n,fun | 9=>9 | 3=>3 | 4=>4 | 5=>5 | 0=>0 | 46=>191 | 146=>237 | 51=>189 | n=>n,fun | 1=>1 | n=>n⟩
theorem Tryz.lays138:Go.Proofs.Lays.n138 prog Tryz.lays138_ren:=⟨by kernel_rfl,cqz func312 (by kernel_rfl),cqz func181 (by kernel_rfl),cqz func313 (by kernel_rfl),cqz func145 (by kernel_rfl),cqz func314 (by kernel_rfl),cqz func178 (by kernel_rfl),cqz func188 (by kernel_rfl),cqz func208 (by kernel_rfl),cqz func179 (by kernel_rfl),cqz func209 (by kernel_rfl),cqz func227 (by kernel_rfl),underlying0,isAgg0,sizeOf0,zeroValue0,underlying3,isAgg3,sizeOf3,zeroValue3,underlying4,isAgg4,sizeOf4,zeroValue4,underlying5,isAgg5,sizeOf5,zeroValue5,underlying9,isAgg9,sizeOf9,zeroValue9,underlying191,isAgg191,sizeOf191,zeroValue191,underlying189,isAgg189,sizeOf189,zeroValue189,underlying237,isAgg237,sizeOf237,zeroValue237,by kernel_rfl⟩
open Go.RowKit Go.Lib in
theorem Tryz.strings_Count_one(s:ByteArray)(c:UInt8)(w:World):
 Calls prog 312 #[.string s,.string ⟨#[c]⟩] w fun e w' =>e=.returned (.int .i64 (Lib.countByte s.data.toList c))/\w' =w:=Any.strings_Count_one Tryz.lays138 s c w
def Tryz.lays99_ren:Go.Shelf.Ren:=⟨fun | 99=>147 | 206=>180 | n=>n,fun | 9=>9 | 4=>4 | 3=>3 | n=>n,fun | n=>n⟩
theorem Tryz.lays99:Go.Proofs.Lays.n99 prog Tryz.lays99_ren:=⟨by kernel_rfl,cqz func147 (by kernel_rfl),cqz func180 (by kernel_rfl),underlying3,isAgg3,sizeOf3,zeroValue3,underlying4,isAgg4,sizeOf4,zeroValue4,underlying9,isAgg9,sizeOf9,zeroValue9⟩
open Go.RowKit Go.Lib in
theorem Tryz.strings_HasPrefix(s p:ByteArray)(w:World):
 Calls prog 147 #[.string s,.string p] w fun e w' =>e=.returned (.bool (Lib.hasPrefix s.data.toList p.data.toList))/\w' =w:=Any.strings_HasPrefix Tryz.lays99 s p w
def Tryz.lays100_ren:Go.Shelf.Ren:=⟨fun | 100=>118 | 207=>156 | n=>n,fun | 9=>9 | 4=>4 | 3=>3 | n=>n,fun | n=>n⟩
theorem Tryz.lays100:Go.Proofs.Lays.n100 prog Tryz.lays100_ren:=⟨by kernel_rfl,cqz func118 (by kernel_rfl),cqz func156 (by kernel_rfl),underlying3,isAgg3,sizeOf3,zeroValue3,underlying4,isAgg4,sizeOf4,zeroValue4,underlying9,isAgg9,sizeOf9,zeroValue9⟩
open Go.RowKit Go.Lib in
theorem Tryz.strings_HasSuffix(s p:ByteArray)(w:World)(hs:s.size<=9223372036854775807):
 Calls prog 118 #[.string s,.string p] w fun e w' =>e=.returned (.bool (Lib.hasSuffix s.data.toList p.data.toList))/\w' =w:=Any.strings_HasSuffix Tryz.lays100 s p w hs
def Tryz.lays197_ren:Go.Shelf.Ren:=⟨fun | 197=>172 | 260=>199 | n=>n,fun | 9=>9 | 21=>21 | 3=>3 | 4=>4 | 5=>5 | 105=>232 | 119=>257 | 0=>0 | 46=>191 | 139=>260 | 138=>259 | n=>n,fun | 3=>2 | 4=>3 | n=>n⟩
theorem Tryz.lays197:Go.Proofs.Lays.n197 prog Tryz.lays197_ren:=⟨by kernel_rfl,cqz func172 (by kernel_rfl),cqz func199 (by kernel_rfl),underlying0,isAgg0,sizeOf0,zeroValue0,underlying3,isAgg3,sizeOf3,zeroValue3,underlying4,isAgg4,sizeOf4,zeroValue4,underlying5,isAgg5,sizeOf5,zeroValue5,underlying9,isAgg9,sizeOf9,zeroValue9,underlying21,isAgg21,sizeOf21,zeroValue21,underlying191,isAgg191,sizeOf191,zeroValue191,underlying232,isAgg232,sizeOf232,zeroValue232,underlying257,isAgg257,sizeOf257,underlying259,isAgg259,sizeOf259,zeroValue259,underlying260,isAgg260,sizeOf260,zeroValue260,by kernel_rfl,by kernel_rfl⟩
def Tryz.lays226_ren:Go.Shelf.Ren:=⟨fun | 226=>219 | n=>n,fun | 3=>3 | 4=>4 | n=>n,fun | n=>n⟩
theorem Tryz.lays226:Go.Proofs.Lays.n226 prog Tryz.lays226_ren:=⟨by kernel_rfl,cqz func219 (by kernel_rfl),underlying3,isAgg3,sizeOf3,zeroValue3,underlying4,isAgg4,sizeOf4,zeroValue4⟩
open Go.RowKit Go.Lib in
theorem Tryz.strings_shouldUseASCIISet(n:Int)(w:World):
 Calls prog 219 #[.int .i64 n] w fun e w' =>e=.returned (.bool (decide (8 < n)))/\w' =w:=Any.strings_shouldUseASCIISet Tryz.lays226 n w
def Tryz.lays153_ren:Go.Shelf.Ren:=⟨fun | 153=>198 | 152=>200 | 226=>219 | 227=>137 | 228=>171 | 137=>101 | 119=>220 | 224=>188 | 225=>208 | 217=>145 | 266=>179 | n=>n,fun | 9=>9 | 3=>3 | 4=>4 | 5=>5 | 21=>21 | 117=>213 | 116=>212 | 0=>0 | 46=>191 | 124=>216 | n=>n,fun | n=>n⟩
theorem Tryz.lays153:Go.Proofs.Lays.n153 prog Tryz.lays153_ren:=⟨by kernel_rfl,cqz func220 (by kernel_rfl),cqz func101 (by kernel_rfl),cqz func200 (by kernel_rfl),cqz func198 (by kernel_rfl),cqz func145 (by kernel_rfl),cqz func188 (by kernel_rfl),cqz func208 (by kernel_rfl),cqz func219 (by kernel_rfl),cqz func137 (by kernel_rfl),cqz func171 (by kernel_rfl),cqz func179 (by kernel_rfl),underlying0,isAgg0,sizeOf0,zeroValue0,underlying3,isAgg3,sizeOf3,zeroValue3,underlying4,isAgg4,sizeOf4,zeroValue4,underlying5,isAgg5,sizeOf5,zeroValue5,underlying9,isAgg9,sizeOf9,zeroValue9,underlying21,isAgg21,sizeOf21,zeroValue21,underlying191,isAgg191,sizeOf191,zeroValue191,underlying212,isAgg212,sizeOf212,underlying213,isAgg213,sizeOf213,zeroValue213,underlying216,isAgg216,sizeOf216,zeroValue216⟩
open Go.RowKit Go.Lib in
theorem Tryz.strings_IndexAny_long(hv116:∀w,(zeroValue 212).run prog w=.ok (.agg (Array.replicate 256 (.bool false))) w)(s chars:ByteArray)(w:World)(h2:2<=chars.size)(h8:8 < s.size)(hs:s.size < 4294967281)(hcs:chars.size < 4294967281)(hascii:∀(j:Nat) b,chars.data.toList[j]? =some b->b.toNat < 128):
 Calls prog 198 #[.string s,.string chars] w fun e w' =>e=.returned (.int .i64 (Lib.indexAny s.data.toList chars.data.toList))/\w' =((w.alloc (.cells (Lib.setCells chars.data.toList) 212)).alloc (.cells (Lib.setCells chars.data.toList) 212)):=Any.strings_IndexAny_long Tryz.lays153 hv116 (by kernel_rfl) s chars w h2 h8 hs hcs hascii
open Go.RowKit Go.Lib in
theorem Tryz.strings_IndexAny(hv116:∀w,(zeroValue 212).run prog w=.ok (.agg (Array.replicate 256 (.bool false))) w)(s chars:ByteArray)(w:World)(hs:s.size < 4294967281)(hcs:chars.size < 4294967281)(has:∀(j:Nat) b,s.data.toList[j]? =some b->b.toNat < 128)(hac:∀(j:Nat) b,chars.data.toList[j]? =some b->b.toNat < 128):
 Calls prog 198 #[.string s,.string chars] w fun e w' =>e=.returned (.int .i64 (Lib.indexAny s.data.toList chars.data.toList))/\Below w.heap.size w w' :=Any.strings_IndexAny Tryz.lays153 hv116 (by kernel_rfl) s chars w hs hcs has hac
def Tryz.lays150_ren:Go.Shelf.Ren:=⟨fun | 150=>166 | 153=>198 | 152=>200 | 226=>219 | 227=>137 | 228=>171 | 137=>101 | 119=>220 | 224=>188 | 225=>208 | 217=>145 | 266=>179 | n=>n,fun | 9=>9 | 4=>4 | 3=>3 | 5=>5 | 21=>21 | 117=>213 | 116=>212 | 0=>0 | 46=>191 | 124=>216 | n=>n,fun | n=>n⟩
theorem Tryz.lays150:Go.Proofs.Lays.n150 prog Tryz.lays150_ren:=⟨by kernel_rfl,cqz func220 (by kernel_rfl),cqz func101 (by kernel_rfl),cqz func166 (by kernel_rfl),cqz func200 (by kernel_rfl),cqz func198 (by kernel_rfl),cqz func145 (by kernel_rfl),cqz func188 (by kernel_rfl),cqz func208 (by kernel_rfl),cqz func219 (by kernel_rfl),cqz func137 (by kernel_rfl),cqz func171 (by kernel_rfl),cqz func179 (by kernel_rfl),underlying0,isAgg0,sizeOf0,zeroValue0,underlying3,isAgg3,sizeOf3,zeroValue3,underlying4,isAgg4,sizeOf4,zeroValue4,underlying5,isAgg5,sizeOf5,zeroValue5,underlying9,isAgg9,sizeOf9,zeroValue9,underlying21,isAgg21,sizeOf21,zeroValue21,underlying191,isAgg191,sizeOf191,zeroValue191,underlying212,isAgg212,sizeOf212,underlying213,isAgg213,sizeOf213,zeroValue213,underlying216,isAgg216,sizeOf216,zeroValue216⟩
open Go.RowKit Go.Lib in
theorem Tryz.strings_ContainsAny(hv116:∀w,(zeroValue 212).run prog w=.ok (.agg (Array.replicate 256 (.bool false))) w)(s chars:ByteArray)(w:World)(hs:s.size < 4294967281)(hcs:chars.size < 4294967281)(has:∀(j:Nat) b,s.data.toList[j]? =some b->b.toNat < 128)(hac:∀(j:Nat) b,chars.data.toList[j]? =some b->b.toNat < 128):
 Calls prog 166 #[.string s,.string chars] w fun e w' =>e=.returned (.bool (Lib.containsAny s.data.toList chars.data.toList))/\Below w.heap.size w w' :=Any.strings_ContainsAny Tryz.lays150 hv116 (by kernel_rfl) s chars w hs hcs has hac
def Tryz.lays105_ren:Go.Shelf.Ren:=⟨fun | 105=>107 | 212=>150 | 99=>147 | 165=>108 | 166=>109 | 170=>151 | 169=>110 | 263=>182 | 264=>183 | 206=>180 | 240=>152 | 241=>153 | 276=>184 | 277=>185 | n=>n,fun | 9=>9 | 3=>3 | 4=>4 | 20=>20 | 0=>0 | 46=>191 | 109=>219 | 5=>5 | 72=>164 | 76=>168 | 51=>189 | 146=>237 | 53=>145 | 148=>239 | 70=>162 | 37=>23 | 75=>167 | 127=>222 | 164=>241 | 80=>170 | n=>n,fun | n=>n⟩
theorem Tryz.lays105:Go.Proofs.Lays.n105 prog Tryz.lays105_ren:=⟨by kernel_rfl,cqz func147 (by kernel_rfl),cqz func107 (by kernel_rfl),cqz func108 (by kernel_rfl),cqz func109 (by kernel_rfl),cqz func110 (by kernel_rfl),cqz func151 (by kernel_rfl),cqz func180 (by kernel_rfl),cqz func150 (by kernel_rfl),cqz func152 (by kernel_rfl),cqz func153 (by kernel_rfl),cqz func182 (by kernel_rfl),cqz func183 (by kernel_rfl),cqz func184 (by kernel_rfl),cqz func185 (by kernel_rfl),underlying0,isAgg0,sizeOf0,zeroValue0,underlying3,isAgg3,sizeOf3,zeroValue3,underlying4,isAgg4,sizeOf4,zeroValue4,underlying5,isAgg5,sizeOf5,zeroValue5,underlying9,isAgg9,sizeOf9,zeroValue9,underlying20,isAgg20,sizeOf20,zeroValue20,underlying23,isAgg23,sizeOf23,zeroValue23,underlying191,isAgg191,sizeOf191,zeroValue191,underlying189,isAgg189,sizeOf189,zeroValue189,underlying145,isAgg145,sizeOf145,zeroValue145,underlying162,isAgg162,sizeOf162,zeroValue162,underlying164,isAgg164,sizeOf164,zeroValue164,underlying167,isAgg167,sizeOf167,zeroValue167,underlying168,isAgg168,sizeOf168,zeroValue168,underlying219,isAgg219,sizeOf219,zeroValue219,underlying222,isAgg222,sizeOf222,zeroValue222,underlying237,isAgg237,sizeOf237,zeroValue237,underlying239,isAgg239,sizeOf239,zeroValue239,underlying241,isAgg241,sizeOf241,zeroValue241⟩
theorem Tryz.Builder_Extra_105:Builder.Extra prog Tryz.lays105_ren:={
 sizeBuilder:=by kernel_rfl
 liesBuilder:=by kernel_rfl
 t5:=underlying5
 a5:=isAgg5
 z5:=sizeOf5
 v5:=zeroValue5
 infoByte:=by kernel_rfl
 cellsByte:=by kernel_rfl
 sizeByte:=by kernel_rfl
 neB5:=by decide}
open Go.RowKit Go.Lib in
theorem Tryz.strings_Repeat(s:ByteArray)(c:Nat)(w:World)(hc:c<=9223372036854775807)(hlen:s.size * c<=140737488355328):
 Calls prog 107 #[.string s,.int .i64 c] w fun e w' =>e=.returned (.string ⟨(Lib.repeatL s.data.toList c).toArray⟩)/\Below w.heap.size w w' :=Any.strings_Repeat Tryz.lays105 Tryz.Builder_Extra_105 s c w hc hlen
open Go.RowKit Go.Lib in
theorem Tryz.utf8_DecodeRuneInString(s:ByteArray)(w:World)(hT:Lib.Utf8Tabs 2 3 w):
 Calls prog 172 #[.string s] w fun e w' =>e=.returned (.tuple #[.int .i32 (Lib.decodeGo s).1,.int .i64 (Lib.decodeGo s).2])/\Below w.heap.size w w' :=Any.utf8_DecodeRuneInString Tryz.lays197 s w hT
def Tryz.lays270_ren:Go.Shelf.Ren:=⟨fun | 270=>250 | n=>n,fun | 70=>162 | 3=>3 | 0=>0 | 72=>164 | 37=>23 | 5=>5 | n=>n,fun | n=>n⟩
theorem Tryz.lays270:Go.Proofs.Lays.n270 prog Tryz.lays270_ren:=⟨by kernel_rfl,cqz func250 (by kernel_rfl),underlying0,isAgg0,sizeOf0,zeroValue0,underlying3,isAgg3,sizeOf3,zeroValue3,underlying23,isAgg23,sizeOf23,zeroValue23,underlying162,isAgg162,sizeOf162,zeroValue162,underlying164,isAgg164,sizeOf164,zeroValue164⟩
open Go.RowKit Go.Lib in
theorem Tryz.Builder_Cap_cell(b:Nat)(p:Option Addr)(n cap:Nat)(w:World)(c1:w.cell? ⟨b,1,none⟩=some (.slice p n cap)):
 Calls prog 250 #[.pointer (some ⟨b,0,none⟩)] w fun e w' =>e=.returned (.int .i64 cap)/\w' =w:=Any.Builder_Cap_cell Tryz.lays270 b p n cap w c1
def Tryz.lays185_ren:Go.Shelf.Ren:=⟨fun | 185=>158 | 187=>132 | 115=>42 | 253=>187 | 224=>188 | 254=>189 | 255=>169 | 291=>210 | n=>n,fun | 37=>23 | 3=>3 | 4=>4 | 0=>0 | 5=>5 | 46=>191 | 9=>9 | 146=>237 | 51=>189 | n=>n,fun | 1=>1 | n=>n⟩
theorem Tryz.lays185:Go.Proofs.Lays.n185 prog Tryz.lays185_ren:=⟨by kernel_rfl,cqz func42 (by kernel_rfl),cqz func158 (by kernel_rfl),cqz func132 (by kernel_rfl),cqz func188 (by kernel_rfl),cqz func187 (by kernel_rfl),cqz func189 (by kernel_rfl),cqz func169 (by kernel_rfl),cqz func210 (by kernel_rfl),underlying0,isAgg0,sizeOf0,zeroValue0,underlying3,isAgg3,sizeOf3,zeroValue3,underlying4,isAgg4,sizeOf4,zeroValue4,underlying5,isAgg5,sizeOf5,zeroValue5,underlying9,isAgg9,sizeOf9,zeroValue9,underlying23,isAgg23,sizeOf23,zeroValue23,underlying191,isAgg191,sizeOf191,zeroValue191,underlying189,isAgg189,sizeOf189,zeroValue189,underlying237,isAgg237,sizeOf237,zeroValue237,by kernel_rfl⟩
open Go.RowKit Go.Lib in
theorem Tryz.bytes_Index_longer(p q:Option Addr)(n c m d:Nat)(w:World)(h2:2<=m)(hnm:n < m)(hm:m<=9223372036854775807):
 Calls prog 158 #[.slice p n c,.slice q m d] w fun e w' =>e=.returned (.int .i64 (-1))/\w' =w:=Any.bytes_Index_longer Tryz.lays185 p q n c m d w h2 hnm hm
def Tryz.lays187_ren:Go.Shelf.Ren:=⟨fun | 187=>132 | 255=>169 | n=>n,fun | 37=>23 | 5=>5 | 3=>3 | n=>n,fun | n=>n⟩
theorem Tryz.lays187:Go.Proofs.Lays.n187 prog Tryz.lays187_ren:=⟨by kernel_rfl,cqz func132 (by kernel_rfl),cqz func169 (by kernel_rfl),underlying3,isAgg3,sizeOf3,zeroValue3,underlying5,isAgg5,sizeOf5,zeroValue5,underlying23,isAgg23,sizeOf23,zeroValue23⟩
open Go.RowKit Go.Lib in
theorem Tryz.bytes_IndexByte_at(a:Addr)(n c:Nat)(xs:List Int)(cv:Int)(w:World)(hx:xs.length=n)(hc:∀i,i < n->w.cell? (a.add i)=some (.int .u8 (xs.getD i 0))):
 Calls prog 132 #[.slice (some a) n c,.int .u8 cv] w fun e w' =>e=.returned (.int .i64 (Lib.indexByte (Lib.bytesOf xs) cv.toNat.toUInt8))/\w' =w:=Any.bytes_IndexByte_at Tryz.lays187 a n c xs cv w hx hc
def Tryz.lays115_ren:Go.Shelf.Ren:=⟨fun | 115=>42 | n=>n,fun | 37=>23 | 4=>4 | 9=>9 | 5=>5 | n=>n,fun | n=>n⟩
theorem Tryz.lays115:Go.Proofs.Lays.n115 prog Tryz.lays115_ren:=⟨by kernel_rfl,cqz func42 (by kernel_rfl),underlying4,isAgg4,sizeOf4,zeroValue4,underlying9,isAgg9,sizeOf9,zeroValue9,underlying23,isAgg23,sizeOf23,zeroValue23⟩
open Go.Proofs Go.RowKit Go.Lib in
theorem Tryz.bytes_Index_at(a1 a2:Addr)(n c1 k c2:Nat)(xs ys:List Int)(m:Int)(w:World)(hx:xs.length=n)(hy:ys.length=k)(hr1:∀x∈xs,0<=x/\x < 256)(hr2:∀y∈ys,0<=y/\y < 256)(hc1:∀i,i < n->w.cell? (a1.add i)=some (.int .u8 (xs.getD i 0)))(hc2:∀i,i < k->w.cell? (a2.add i)=some (.int .u8 (ys.getD i 0)))(hcap:n<=c1)(hs:n < 4294967281)(hk:k<=9223372036854775807)(hm:w.cell? ⟨1,0,none⟩=some (.int .i64 m)):
 Calls prog 158 #[.slice (some a1) n c1,.slice (some a2) k c2] w fun e w' =>e=.returned (.int .i64 (Lib.index (Lib.bytesOf xs) (Lib.bytesOf ys)))/\∃q,w' =w.drewN q:=Any.bytes_Index_at Tryz.lays185 a1 a2 n c1 k c2 xs ys m w hx hy hr1 hr2 hc1 hc2 hcap hs hk hm
def Tryz.laysnb117_ren:Go.Shelf.Ren:=⟨fun | 117=>170 | 115=>42 | n=>n,fun | 37=>23 | 4=>4 | 3=>3 | 9=>9 | 5=>5 | n=>n,fun | n=>n⟩
theorem Tryz.laysnb117:Go.Proofs.Lays.nb117 prog Tryz.laysnb117_ren:={mixed:=by kernel_rfl,f115:=cqz func42 (by kernel_rfl),f117:=cqz func170 (by kernel_rfl),t3:=underlying3,a3:=isAgg3,z3:=sizeOf3,v3:=zeroValue3,t4:=underlying4,a4:=isAgg4,z4:=sizeOf4,v4:=zeroValue4,t9:=underlying9,a9:=isAgg9,z9:=sizeOf9,v9:=zeroValue9,t37:=underlying23,a37:=isAgg23,z37:=sizeOf23,v37:=zeroValue23,t5:=underlying5,a5:=isAgg5,z5:=sizeOf5,v5:=zeroValue5}
def Tryz.laysnb140_ren:Go.Shelf.Ren:=⟨fun | 140=>133 | 117=>170 | 115=>42 | n=>n,fun | 37=>23 | 4=>4 | 3=>3 | 9=>9 | 5=>5 | n=>n,fun | n=>n⟩
theorem Tryz.laysnb140:Go.Proofs.Lays.nb140 prog Tryz.laysnb140_ren:={mixed:=by kernel_rfl,f115:=cqz func42 (by kernel_rfl),f117:=cqz func170 (by kernel_rfl),f140:=cqz func133 (by kernel_rfl),t3:=underlying3,a3:=isAgg3,z3:=sizeOf3,v3:=zeroValue3,t4:=underlying4,a4:=isAgg4,z4:=sizeOf4,v4:=zeroValue4,t9:=underlying9,a9:=isAgg9,z9:=sizeOf9,v9:=zeroValue9,t37:=underlying23,a37:=isAgg23,z37:=sizeOf23,v37:=zeroValue23,t5:=underlying5,a5:=isAgg5,z5:=sizeOf5,v5:=zeroValue5}
theorem Tryz.bytes_Equal(v1 v2:Value)(xs ys:List Int)(w:World)(h1:(convert 23 9 v1).run prog w=.ok (.string (strOfNums xs)) w)(h2:(convert 23 9 v2).run prog w=.ok (.string (strOfNums ys)) w):
 Calls prog 42 #[v1,v2] w fun e w' =>e=.returned (.bool (Lib.bytesOf xs==Lib.bytesOf ys))/\w' =w:=Any.bytes_Equal Tryz.lays115 v1 v2 xs ys w h1 h2
theorem Tryz.bytes_HasSuffix(b1 o1 n c b2 o2 m d:Nat)(xs ys:List Int)(w:World)(hx:xs.length=n)(hy:ys.length=m)(hnc:n<=c)(hbig:n<=9223372036854775807)(hc1:∀i,i < n->w.cell? ⟨b1,o1+i,none⟩=some (.int .u8 (xs.getD i 0)))(hc2:∀i,i < m->w.cell? ⟨b2,o2+i,none⟩=some (.int .u8 (ys.getD i 0))):
 Calls prog 170 #[.slice (some ⟨b1,o1,none⟩) n c,.slice (some ⟨b2,o2,none⟩) m d] w fun e w' =>e=.returned (.bool (Lib.hasSuffix (Lib.bytesOf xs) (Lib.bytesOf ys)))/\w' =w:=Any.bytes_HasSuffix Tryz.laysnb117 b1 o1 n c b2 o2 m d xs ys w hx hy hnc hbig hc1 hc2
theorem Tryz.bytes_TrimSuffix(b1 o1 n c b2 o2 m d:Nat)(xs ys:List Int)(w:World)(hx:xs.length=n)(hy:ys.length=m)(hnc:n<=c)(hbig:n<=9223372036854775807)(hc1:∀i,i < n->w.cell? ⟨b1,o1+i,none⟩=some (.int .u8 (xs.getD i 0)))(hc2:∀i,i < m->w.cell? ⟨b2,o2+i,none⟩=some (.int .u8 (ys.getD i 0))):
 Calls prog 133 #[.slice (some ⟨b1,o1,none⟩) n c,.slice (some ⟨b2,o2,none⟩) m d] w fun e w' =>e=.returned (Lib.bytesTrimSuffix b1 o1 n c xs ys)/\w' =w:=Any.bytes_TrimSuffix Tryz.laysnb140 b1 o1 n c b2 o2 m d xs ys w hx hy hnc hbig hc1 hc2
theorem Tryz.bytes_IndexByte(b o n c:Nat)(xs:List Int)(cv:Int)(w:World)(hx:xs.length=n)(hc:∀i,i < n->w.cell? ⟨b,o+i,none⟩=some (.int .u8 (xs.getD i 0))):
 Calls prog 132 #[.slice (some ⟨b,o,none⟩) n c,.int .u8 cv] w fun e w' =>e=.returned (.int .i64 (Lib.indexByte (Lib.bytesOf xs) cv.toNat.toUInt8))/\w' =w:=Any.bytes_IndexByte Tryz.lays187 b o n c xs cv w hx hc
theorem Tryz.bytes_IndexByte_nil(cv:Int)(w:World):
 Calls prog 132 #[.slice none 0 0,.int .u8 cv] w fun e w' =>e=.returned (.int .i64 (-1))/\w' =w:=Any.bytes_IndexByte_nil Tryz.lays187 cv w
def Tryz.lays196_ren:Go.Shelf.Ren:=⟨fun | 196=>163 | 259=>196 | n=>n,fun | 9=>9 | 4=>4 | 3=>3 | 5=>5 | 12=>12 | 119=>257 | 0=>0 | 46=>191 | 139=>260 | 138=>259 | 53=>145 | n=>n,fun | 3=>2 | 4=>3 | n=>n⟩
theorem Tryz.lays196:Go.Proofs.Lays.n196 prog Tryz.lays196_ren:=⟨by kernel_rfl,cqz func163 (by kernel_rfl),cqz func196 (by kernel_rfl),underlying0,isAgg0,sizeOf0,zeroValue0,underlying3,isAgg3,sizeOf3,zeroValue3,underlying4,isAgg4,sizeOf4,zeroValue4,underlying5,isAgg5,sizeOf5,zeroValue5,underlying9,isAgg9,sizeOf9,zeroValue9,underlying12,isAgg12,sizeOf12,zeroValue12,underlying191,isAgg191,sizeOf191,zeroValue191,underlying145,isAgg145,sizeOf145,zeroValue145,underlying257,isAgg257,sizeOf257,underlying259,isAgg259,sizeOf259,zeroValue259,underlying260,isAgg260,sizeOf260,zeroValue260,by kernel_rfl,by kernel_rfl⟩
def Tryz.sortPiece_ren:Go.Shelf.Ren:=⟨fun | 6=>232 | 15=>248 | 14=>247 | 28=>272 | 29=>128 | 20=>264 | 21=>265 | 22=>266 | 23=>267 | 24=>268 | 25=>269 | 26=>270 | 27=>271 | 46=>277 | 47=>278 | 48=>279 | 49=>280 | 50=>281 | 57=>284 | n=>n,fun | 22=>249 | 24=>251 | 25=>306 | 3=>3 | 39=>191 | 0=>0 | 53=>189 | 55=>145 | 4=>4 | 46=>332 | 45=>331 | 50=>282 | 5=>5 | 9=>9 | 66=>343 | 70=>347 | 76=>352 | 77=>115 | n=>n,fun | n=>n⟩
theorem Tryz.sortPiece:Go.Proofs.SlLaysF0.n6 prog Tryz.sortPiece_ren:={mixed:=by kernel_rfl,f6:=⟨Tryz.f232.name,by decide,func232.trans (congrArg some (by kernel_rfl))⟩,f14:=⟨Tryz.f247.name,by decide,func247.trans (congrArg some (by kernel_rfl))⟩,f15:=cqz func248 (by kernel_rfl),f20:=⟨Tryz.f264.name,by decide,func264.trans (congrArg some (by kernel_rfl))⟩,f21:=⟨f265.name,by decide,func265.trans (congrArg some (by kernel_rfl))⟩,f22:=⟨Tryz.f266.name,by decide,func266.trans (congrArg some (by kernel_rfl))⟩,f23:=⟨Tryz.f267.name,by decide,func267.trans (congrArg some (by kernel_rfl))⟩,f24:=⟨f268.name,by decide,func268.trans (congrArg some (by kernel_rfl))⟩,f25:=⟨f269.name,by decide,func269.trans (congrArg some (by kernel_rfl))⟩,f26:=⟨Tryz.f270.name,by decide,func270.trans (congrArg some (by kernel_rfl))⟩,f27:=⟨Tryz.f271.name,by decide,func271.trans (congrArg some (by kernel_rfl))⟩,f28:=cqz func272 (by kernel_rfl),f29:=cqz func128 (by kernel_rfl),f46:=⟨Tryz.f277.name,by decide,func277.trans (congrArg some (by kernel_rfl))⟩,f47:=cqz func278 (by kernel_rfl),f48:=cqz func279 (by kernel_rfl),f49:=⟨Tryz.f280.name,by decide,func280.trans (congrArg some (by kernel_rfl))⟩,f50:=⟨Tryz.f281.name,by decide,func281.trans (congrArg some (by kernel_rfl))⟩,f57:=⟨Tryz.f284.name,by decide,func284.trans (congrArg some (by kernel_rfl))⟩,t0:=underlying0,a0:=isAgg0,z0:=sizeOf0,v0:=zeroValue0,t3:=underlying3,a3:=isAgg3,z3:=sizeOf3,v3:=zeroValue3,t4:=underlying4,a4:=isAgg4,z4:=sizeOf4,v4:=zeroValue4,t5:=underlying5,a5:=isAgg5,z5:=sizeOf5,v5:=zeroValue5,t9:=underlying9,a9:=isAgg9,z9:=sizeOf9,v9:=zeroValue9,t22:=underlying249,a22:=isAgg249,z22:=sizeOf249,v22:=zeroValue249,t25:=underlying306,a25:=isAgg306,z25:=sizeOf306,v25:=zeroValue306,t39:=underlying191,a39:=isAgg191,z39:=sizeOf191,v39:=zeroValue191,t45:=underlying331,a45:=isAgg331,z45:=sizeOf331,v45:=zeroValue331,t46:=underlying332,a46:=isAgg332,z46:=sizeOf332,v46:=zeroValue332,t50:=underlying282,a50:=isAgg282,z50:=sizeOf282,v50:=zeroValue282,t53:=underlying189,a53:=isAgg189,z53:=sizeOf189,v53:=zeroValue189,t55:=underlying145,a55:=isAgg145,z55:=sizeOf145,v55:=zeroValue145,t66:=underlying343,a66:=isAgg343,z66:=sizeOf343,v66:=zeroValue343,t70:=underlying347,a70:=isAgg347,z70:=sizeOf347,v70:=zeroValue347,t76:=underlying352,a76:=isAgg352,z76:=sizeOf352,v76:=zeroValue352,t77:=underlying115,a77:=isAgg115,z77:=sizeOf115,v77:=zeroValue115}
end Go.Proofs
namespace Go.Proofs.YthbbeodmpnmopaaGreatDoor
open Go.RowKit Go.Proofs.Tryz
theorem qub(g:G)(q:Nat):Old (fun _=>False) g ⟨g.w.drewN q,g.u,g.loc⟩:=
 ⟨rfl,rfl,rfl,⟨jAm _,fun _ _=>jAm _,fun _ _ _ _=>rfl,fun _ h=>h⟩,fun _ _ _=>⟨rfl,rfl⟩⟩
theorem jRa{g:G}{s:Str}{v:Value}(h:Rel g (.s s) v):v=.string (strB s):=zKa h
theorem zNa(s:Str)(c:UInt8)(r:Int)(hr:zwa s c=some r):Run prog 101 [.s s,.u8 c] (.i r):=by
 unfold zwa at hr;cases hr;refine ⟨⟨_,_,⟨func101,rfl,by kernel_rfl⟩⟩,fun g vs hw hg ha=>?_⟩;obtain ⟨hsz,hrel⟩:=ha;obtain ⟨l⟩:=vs
 match l,hsz with
 | [x,y],_=>
  obtain rfl:=jRa (hrel 0 _ rfl);have e2:y=.int .u8 (c.toNat:Int):=zKa (hrel 1 _ rfl);subst e2;refine callsIn_wide.2 ((Tryz.strings_IndexByte (strB s) (c.toNat:Int) g.w).mono ?_);rintro e w' ⟨rfl,rfl⟩;refine ⟨g,_,rfl,rfl,Old.refl _ g,hw,rfl,?_⟩;simp[strB];exact .pv (.b rfl)
theorem jfa(a0:Int)(r:Bool)(hr:kia a0=some r):Run prog 220 [.pv (.b (.int .i32 a0))] (.bo r):=by
 unfold kia at hr;refine rfx (fn:=Tryz.f220) func220 fun g0 hg=>?_
 refine jq 7 hr [0] [] (fun j1=>[(3,.bo j1)]) (fun _=>[]) (fun j1 hr=>?_) (fun j1 hr=>?_)
 .refine bx 4 6 hr (fun c2 hr=>?_) fun c2 hr=>?_
  .exact jx 5 hr
  exact jx 5 hr
 refine ax 0 3 hr (fun hr=>?_) fun hr=>?_
 .exact kx 8 hr
 refine jq 0 hr [] [] (fun j4=>[(10,.bo j4)]) (fun _=>[]) (fun j4 hr=>?_) (fun j4 hr=>?_)
 .refine bx 4 13 hr (fun c5 hr=>?_) fun c5 hr=>?_
  .exact jx 5 hr
  exact jx 5 hr
 refine ax 0 10 hr (fun hr=>?_) fun hr=>?_
 .exact kx 8 hr
 exact kx 9 hr
theorem w4a(a0:Str)(a1:Int)(r:Int)(hr:z2a a0 a1=some r):Run prog 200 [.s a0,.pv (.b (.int .i32 a1))] (.i r):=by
 unfold z2a at hr;refine rfx (fn:=f200) func200 fun g0 hg=>?_
 refine rn tk 6 rfl<|jb hr (fun j1=>[(0,.s a0),(1,.pv (.b (.int .i32 a1))),(160,.bo j1)]) (fun j1=>[]) (fun j1 hr=>?_) (fun j1 hr=>?_)
 .refine bx 4 163 hr (fun c2 hr=>?_) fun c2 hr=>?_
  .exact jx 5 hr
  exact jx 5 hr
 refine ax 0 160 hr (fun hr=>?_) fun hr=>?_
 .refine clx 5 hr (zNa _ _) fun v4 _ hr=>?_
  exact kx 5 hr
 refine ax 7 171 hr (fun hr=>?_) fun hr=>?_
 .refine rn tk 4 rfl<|wr 1175 tk rfl rfl rfl rfl<|rn tk 3 rfl<|al2 hr (fun s7=>[(175,.ptr 1175 0)]) (fun s7=>[(1175,.it (strB a0) s7)]) (.exit 9) (fun b8=>[]) (fun b8=>[]) .ret (fun b9=>[(4,.i b9)]) (fun b9=>[]) rfl rfl (fun s7 x11 hr=>?_) (fun b8 hr=>?_) (fun b9 hr=>?_)
  .unfold qea at hr;refine rn tk 2 rfl<|wnx hr rfl rfl rfl (fun c12 hr=>?_) (fun c12 hr=>?_)
   .refine ax 22 181 hr (fun hr=>?_) fun hr=>?_
    .exact ox 8 hr
    exact cx 2 hr
   exact ox 7 hr
  .exact kx 9 hr
  exact kx 3 hr
 refine clx 3 hr (jfa _) fun v14 _ hr=>?_
 refine ax 4 183 hr (fun hr=>?_) fun hr=>?_
 .exact kx 7 hr
 refine rn tk 29 rfl<|al2 hr (fun s17=>[(0,.s a0),(7,.s ((jza a1))),(8,.i ((w64 ((((jza a1)).length:Int) - 1)))),(9,.i s17)]) (fun s17=>[]) (.exit 1) (fun b18=>[]) (fun b18=>[]) .ret (fun b19=>[(4,.i b19)]) (fun b19=>[]) rfl rfl (fun s17 x21 hr=>?_) (fun b18 hr=>?_) (fun b19 hr=>?_)
 .unfold qga at hr;refine ax 9 26 hr (fun hr=>?_) fun hr=>?_
  .refine rn tk 4 rfl<|jk (fun j23=>[(0,.s a0),(7,.s ((jza a1))),(8,.i j23.1),(9,.i j23.2)]) (fun j23=>[]) (fun j23=>qfa a0 a1 j23=some x21) ?_ ?_
   .refine rn tk 1 rfl ?_;obtain ⟨v24,h25,hr⟩:=zaa hr;obtain ⟨v26,h27,hr⟩:=zaa hr;refine dq 0 6 [] [(2,.u8 v24),(5,.u8 v26)] .nil (.cons rfl rfl (zGa (Kaa rfl rfl zoa h25)) (.cons rfl rfl (zGa (Kaa rfl rfl zoa h27)) .nil)) ?_ mixed;refine ax 3 33 hr (fun hr=>?_) fun hr=>?_
    .refine rn tk 1 rfl ?_;obtain ⟨v29,h30,hr⟩:=zaa hr;obtain ⟨v31,h32,hr⟩:=zaa hr;refine dq 0 7 [] [(3,.s v29),(6,.u8 v31)] .nil (.cons rfl rfl (zGa (ztb rfl rfl zoa h30)) (.cons rfl rfl (zGa (Kaa rfl rfl zoa h32)) .nil)) ?_ mixed;refine clx 0 hr (zNa _ _) fun v33 _ hr=>?_
     refine ax 10 43 hr (fun hr=>?_) fun hr=>?_
     .exact ox 10 hr
     refine rn tk 9 rfl<|jn (((w64 ((((jza a1)).length:Int) - 1)),(w64 (s17+(w64 (v33+1)))))) hr rfl rfl
    refine rn tk 1 rfl<|jn (((w64 ((((jza a1)).length:Int) - 1)),s17)) hr rfl rfl
   intro j23 hr;unfold qfa at hr;refine rn tk 7 rfl<|al1 hr (fun s36=>[(0,.s a0),(7,.s ((jza a1))),(8,.i j23.1),(9,.i j23.2),(12,.i s36)]) (fun s36=>[]) (.exit 3) (fun b37=>[(8,.i j23.1),(9,.i j23.2)]) (fun b37=>[]) rfl rfl (fun s36 x38 hr=>?_) (fun b37 hr=>?_)
   .unfold yja at hr;refine ax 9 51 hr (fun hr=>?_) fun hr=>?_
    .refine rn tk 5 rfl ?_;obtain ⟨v40,h41,hr⟩:=zaa hr;obtain ⟨v42,h43,hr⟩:=zaa hr;refine dq 0 10 [] [(4,.u8 v40),(9,.u8 v42)] .nil (.cons rfl rfl (zGa (Kaa rfl rfl zoa h41)) (.cons rfl rfl (zGa (Kaa rfl rfl zoa h43)) .nil)) ?_ mixed;refine ax 3 64 hr (fun hr=>?_) fun hr=>?_
     .cases hr
     exact cx 8 hr
    exact ox 2 hr
   exact ox 15 hr
  exact ox 2 hr
 .exact kx 12 hr
 exact kx 4 hr
theorem yga(a0:Int)(r:Bool)(hr:zAa a0=some r):Run prog 219 [.i a0] (.bo r):=by
 unfold zAa at hr;refine rfx (fn:=Tryz.f219) func219 fun g0 hg=>?_
 exact kx 13 hr
theorem KBa(a0:Str)(a1:Str)(r:Int)(hr:vca a0 a1=some r):Run prog 198 [.s a0,.s a1] (.i r):=by
 unfold vca at hr;refine rfx (fn:=f198) func198 fun g0 hg=>?_
 refine ax 12 12 hr (fun hr=>?_) fun hr=>?_
 .exact kx 7 hr
 refine ax 10 15 hr (fun hr=>?_) fun hr=>?_
 .refine rn tk 3 rfl ?_;obtain ⟨v3,h4,hr⟩:=zaa hr;refine ws tk h4 rfl rfl rfl rfl<|wur tk rfl rfl rfl<|rn tk 3 rfl<|jb hr (fun j5=>[(0,.s a0),(5,.pv (.b (.int .i32 j5)))]) (fun j5=>[]) (fun j5 hr=>?_) (fun j5 hr=>?_)
  .refine ax 6 20 hr (fun hr=>?_) fun hr=>?_
   .exact jx 3 hr
   exact jx 1 hr
  refine clx 4 hr (w4a _ _) fun v7 _ hr=>?_
  exact kx 5 hr
 refine clx 7 hr (yga _) fun v9 _ hr=>?_
 refine ax 2 26 hr (fun hr=>?_) fun hr=>?_
 .refine rn tk 3 rfl ?_;cases hr
 refine rn tk 6 rfl<|wr 1045 tk rfl rfl rfl rfl<|rn tk 3 rfl<|al2 hr (fun s12=>[(1,.s a1),(45,.ptr 1045 0)]) (fun s12=>[(1045,.it (strB a0) s12)]) (.exit 2) (fun b13=>[]) (fun b13=>[]) .ret (fun b14=>[(4,.i b14)]) (fun b14=>[]) rfl rfl (fun s12 x16 hr=>?_) (fun b13 hr=>?_) (fun b14 hr=>?_)
 .unfold qha at hr;refine rn tk 2 rfl<|wnx hr rfl rfl rfl (fun c17 hr=>?_) (fun c17 hr=>?_)
  .refine clx 20 hr (w4a _ _) fun v18 _ hr=>?_
   refine ax 3 53 hr (fun hr=>?_) fun hr=>?_
   .exact ox 8 hr
   exact cx 2 hr
  exact ox 7 hr
 .exact kx 8 hr
 exact kx 2 hr
theorem zbb(g:G)(vs:Array Value)(t:TypeId):Old (fun _=>False) g ⟨g.w.alloc (.cells vs t),fun k=>if k=g.w.heap.size then 0 else g.u k,g.loc⟩:=by
 have h:=yEa g vs t 0 0 (g.loc 0);have e:(g.alloc vs t 0 0 (g.loc 0))=⟨g.w.alloc (.cells vs t),fun k=>if k=g.w.heap.size then 0 else g.u k,g.loc⟩:=by
  unfold G.alloc
  congr 1
  funext k;split
  .rename_i hk;rw[hk]
  rfl
 rw[<-e];exact h
theorem qvb{g:G}(h:Wf g)(vs:Array Value)(t:TypeId):Wf ⟨g.w.alloc (.cells vs t),fun k=>if k=g.w.heap.size then 0 else g.u k,g.loc⟩:=by
 intro k hk;have hk:g.w.heap.size+1<=k:=by simpa using hk
 show (if k=g.w.heap.size then 0 else g.u k)=0;rw[if_neg (by omega)];exact h k (by omega)
theorem yub{t:Str}(h:JXa t=true):∀(j:Nat) b,(strB t).data.toList[j]? =some b->b.toNat < 128:=fun j b hb=>J0a h (jAi hb)
theorem Qna(s t:Str)(r:Int)(hr:kVa s t=some r):Run prog 198 [.s s,.s t] (.i r):=by
 unfold kVa at hr;split at hr
 case isFalse=>cases hr
 rename_i hc;obtain ⟨h1,h2,h3,h4⟩:=hc;by_cases h8:s.length<=8
 .exact KBa s t r (by rw[kXb s t h8 h3 h2 h4];exact hr)
 cases hr;refine ⟨⟨_,_,⟨func198,rfl,by kernel_rfl⟩⟩,fun g vs hw hg ha=>?_⟩;obtain ⟨hsz,hrel⟩:=ha;obtain ⟨l⟩:=vs
 match l,hsz with
 | [x,y],_=>
  obtain rfl:=jRa (hrel 0 _ rfl);obtain rfl:=jRa (hrel 1 _ rfl);have h116:(prog.info? 212).map (fun i=>(i.zero,i.size))=some (some (.agg (Array.replicate 256 (.bool false))),256):=by kernel_rfl
  have hz:=(zero_of_info h116).1;refine callsIn_wide.2 ((Tryz.strings_IndexAny_long hz (strB s) (strB t) g.w (by rw[zta];exact h3) (by rw[zta];omega) (by rw[zta];exact h1) (by rw[zta];exact h2) (yub h4)).mono ?_);rintro e w' ⟨rfl,rfl⟩;have o1:=zbb g (Lib.setCells t) 212;have w1:=qvb hw (Lib.setCells t) 212;have o2:=zbb ⟨g.w.alloc (.cells (Lib.setCells t) 212),fun k=>if k=g.w.heap.size then 0 else g.u k,g.loc⟩ (Lib.setCells t) 212;have w2:=qvb w1 (Lib.setCells t) 212;have o3:Old (fun _=>False) g _:=o1.trans (o2.mono (S' :=fun b=>False∨g.w.heap.size<=b) (by intro b _ hf;exact hf.elim));exact ⟨⟨_,_,_⟩,_,rfl,(by rfl),o3,w2,(by rfl),.pv (.b rfl)⟩
theorem ZMa(a0:Str)(a1:Str)(r:Bool)(hr:zZa a0 a1=some r):Run prog 166 [.s a0,.s a1] (.bo r):=by
 unfold zZa at hr;refine rfx (fn:=Tryz.f166) func166 fun g0 hg=>?_
 refine clx 9 hr (Qna _ _) fun v1 _ hr=>?_
 exact kx 5 hr
theorem kbb(a0:Str)(r:Bool)(hr:Kpa a0=some r):Run prog 126 [.s a0] (.bo r):=by
 unfold Kpa at hr;refine rfx (fn:=f126) func126 fun g0 hg=>?_
 refine clx 8 hr (ZMa _ _) fun v1 _ hr=>?_
 exact kx 4 hr
theorem Jza(a0:Str)(r:Bool)(hr:j3a a0=some r):Run prog 84 [.s a0] (.bo r):=by
 unfold j3a at hr;refine rfx (fn:=f84) func84 fun g0 hg=>?_
 refine jq 5 hr [] [] (fun j1=>[(2,.bo j1)]) (fun _=>[]) (fun j1 hr=>?_) (fun j1 hr=>?_)
 .refine clx 2 hr (kbb _) fun v2 _ hr=>?_
  refine bx 2 6 hr (fun c4 hr=>?_) fun c4 hr=>?_
  .refine bx 3 9 hr (fun c5 hr=>?_) fun c5 hr=>?_
   .exact jx 17 hr
   refine rn tk 1 rfl ?_;obtain ⟨v6,h7,hr⟩:=zaa hr;refine ug rfl rfl rfl<|ws tk h7 rfl rfl rfl rfl ?_;obtain ⟨v8,h9,hr⟩:=zaa hr;refine ug rfl rfl rfl<|cl (q8a _ _ h9) rfl rfl ?_;refine bx 2 14 hr (fun c10 hr=>?_) fun c10 hr=>?_
   .refine rn tk 4 rfl ?_;obtain ⟨v11,h12,hr⟩:=zaa hr;refine ug rfl rfl rfl<|ws tk h12 rfl rfl rfl rfl ?_;obtain ⟨v13,h14,hr⟩:=zaa hr;refine ug rfl rfl rfl<|cl (q8a _ _ h14) rfl rfl ?_;exact jx 6 hr
   exact jx 12 hr
  exact jx 20 hr
 exact kx 1 hr
theorem ysa(a0:Str)(a1:Str)(r:(List Str) × zja)(hr:wQa a0 a1=some r):Run prog 56 [.s a0,.s a1] (.tup [.l cS r.1,.agg [.i r.2.Code,.i r.2.Index]]):=by
 unfold wQa at hr;refine rfx (fn:=f56) func56 fun g0 hg=>?_
 refine clx 11 hr (kab _) fun v1 _ hr=>?_
 refine ax 4 12 hr (fun hr=>?_) fun hr=>?_
 .refine clx 2 hr (zga _ _) fun v4 _ hr=>?_
  exact kx 7 hr
 refine ax 8 17 hr (fun hr=>?_) fun hr=>?_
 .refine clx 2 hr (zga _ _) fun v7 _ hr=>?_
  exact kx 7 hr
 refine clx 3 hr (Jza _) fun v9 _ hr=>?_
 refine ax 4 22 hr (fun hr=>?_) fun hr=>?_
 .refine clx 2 hr (zga _ _) fun v12 _ hr=>?_
  exact kx 7 hr
 refine rn tk 6 rfl ?_;obtain ⟨v14,h15,hr⟩:=zaa hr;refine wc h15 rfl rfl rfl<|rn tk 1 rfl ?_;obtain ⟨v16,h17,hr⟩:=zaa hr;refine wc h17 rfl rfl rfl<|rn tk 10 rfl ?_;refine zUa 1008 (d:=8) 9 1 rfl rfl rfl (hO ?_);refine aq1 4 hr [5,8] [5] (fun s18=>[(6,.s s18.1),(7,.i s18.2.1)]) (fun s18=>[(1008,.row 9 false 1 (List.map cS s18.2.2))]) (.exit 1) [5,8] [5] (fun b19=>[(6,.s b19.1)]) (fun b19=>[(1008,.row 9 false 1 (List.map cS b19.2))]) (fun s18 x20 hr=>?_) (fun b19 hr=>?_)
 .unfold wPa at hr;refine ax 8 36 hr (fun hr=>?_) fun hr=>?_
  .refine clx 7 hr (Jya _ _) fun v22 _ hr=>?_
   refine ax 10 41 hr (fun hr=>?_) fun hr=>?_
   .exact ox 3 hr
   refine rn tk 7 rfl ?_;obtain ⟨v25,h26,hr⟩:=zaa hr;refine wscH tk h26 rfl rfl rfl rfl<|wz cS ([v25]:List Str) tk rfl rfl (fun _=>rfl) rfl rfl rfl ?_;obtain ⟨v27,h28,hr⟩:=zaa hr;refine wa tk h28 rfl rfl rfl rfl (fun _=>rfl) rfl rfl<|rn tk 6 rfl ?_;obtain ⟨v29,h30,hr⟩:=zaa hr;refine wscL tk h30 rfl rfl rfl rfl ?_;exact cx 4 hr
  exact ox 2 hr
 refine rn tk 6 rfl<|wz cS ([b19.1]:List Str) tk rfl rfl (fun _=>rfl) rfl rfl rfl ?_;obtain ⟨v31,h32,hr⟩:=zaa hr;refine wa tk h32 rfl rfl rfl rfl (fun _=>rfl) rfl rfl<|rn tk 7 rfl<|wnh tk rfl rfl rfl rfl<|rn tk 4 rfl ?_;refine kTa (d:=55) (F:=cS) (l:=v31) rfl rfl (hC ?_);refine aq2 0 hr [5,8,55,56] [1008,5] (fun s34=>[(57,.i s34)]) (fun _=>[]) (.exit 3) [5,8] [1008,5] (fun _=>[]) (fun _=>[]) .ret [5] [] (fun b36=>[(4,.l cS b36.1)]) (fun b36=>[(5,.cells [.i b36.2.Code,.i b36.2.Index])]) (fun s34 x38 hr=>?_) (fun b35 hr=>?_) (fun b36 hr=>?_)
 .unfold joa at hr;refine ax 6 58 hr (fun hr=>?_) fun hr=>?_
  .refine rn tk 7 rfl ?_;obtain ⟨v40,h41,hr⟩:=zaa hr;refine wi tk h41 rfl rfl rfl rfl rfl ?_;refine ax 12 64 hr (fun hr=>?_) fun hr=>?_
   .refine clx 3 hr (zga _ _) fun v43 _ hr=>?_
    exact ox 7 hr
   exact cx 7 hr
  exact ox 2 hr
 .refine clx 5 hr zma fun v45 _ hr=>?_
  refine rn tk 4 rfl ?_;refine kTa (d:=4) (F:=cS) (l:=v31) rfl rfl (hC ?_);exact kx 1 hr
 exact kx 2 hr
theorem vMa(a0:List zba)(r:zja)(hr:kOa a0=some r):Run prog 35 [.l zba.pc a0] (.agg [.i r.Code,.i r.Index]):=by
 unfold kOa at hr;refine rfx (fn:=f35) func35 fun g0 hg=>?_
 refine rn tk 9 rfl<|wn tk rfl rfl rfl ?_;refine ax 3 9 hr (fun hr=>?_) fun hr=>?_
 .refine clx 2 hr (zga _ _) fun v2 _ hr=>?_
  exact kx 5 hr
 refine rn tk 6 rfl<|wn tk rfl rfl rfl ?_;refine aq2 4 hr [2,11,12] [2] (fun s4=>[(13,.i s4)]) (fun _=>[]) (.exit 0) [2] [2] (fun _=>[]) (fun _=>[]) .ret [2] [] (fun _=>[]) (fun b6=>[(2,.cells [.i b6.Code,.i b6.Index])]) (fun s4 x8 hr=>?_) (fun b5 hr=>?_) (fun b6 hr=>?_)
 .unfold qWa at hr;refine ax 6 14 hr (fun hr=>?_) fun hr=>?_
  .refine rn tk 7 rfl ?_;obtain ⟨v10,h11,hr⟩:=zaa hr;refine wi tk h11 rfl rfl rfl rfl rfl ?_;refine clx 12 hr (ysa _ _) fun v12 _ hr=>?_
   refine clx 11 hr (zha _) fun v14 _ hr=>?_
   refine ax 2 27 hr (fun hr=>?_) fun hr=>?_
   .refine clx 5 hr (zga _ _) fun v17 _ hr=>?_
    exact ox 6 hr
   exact cx 7 hr
  exact ox 2 hr
 .refine clx 4 hr zma fun v19 _ hr=>?_
  exact kx 4 hr
 exact kx 2 hr
theorem QLa(a0:List UInt8)(r:Int)(hr:yxa a0=some r):Run prog 57 [.l cU a0] (.i r):=by
 unfold yxa at hr;refine rfx (fn:=Tryz.f57) func57 fun g0 hg=>?_
 refine aq2 17 hr [0] [] (fun s1=>[(3,.i s1.1),(4,.i s1.2)]) (fun _=>[]) (.exit 0) [] [] (fun _=>[]) (fun _=>[]) .ret [] [] (fun b3=>[(2,.i b3)]) (fun _=>[]) (fun s1 x5 hr=>?_) (fun b2 hr=>?_) (fun b3 hr=>?_)
 .unfold vea at hr;refine rn tk 5 rfl<|wn tk rfl rfl rfl ?_;refine ax 3 9 hr (fun hr=>?_) fun hr=>?_
  .refine jkq 2 [0] [] (fun j7=>[(3,.i j7.1),(4,.i j7.2)]) (fun _=>[]) (fun j7=>v3a j7=some x5) ?_ ?_
   .refine rn tk 5 rfl ?_;obtain ⟨v8,h9,hr⟩:=zaa hr;refine wi tk h9 rfl rfl rfl rfl rfl ?_;refine jq 5 hr [0,3,4,5] [] (fun j10=>[(32,.bo j10)]) (fun _=>[]) (fun j10 hr=>?_) (fun j10 hr=>?_)
    .refine bx 4 18 hr (fun c11 hr=>?_) fun c11 hr=>?_
     .refine rn tk 3 rfl<|ug rfl rfl rfl<|wn tk rfl rfl rfl ?_;refine bx 3 25 hr (fun c12 hr=>?_) fun c12 hr=>?_
      .refine rn tk 3 rfl ?_;obtain ⟨v13,h14,hr⟩:=zaa hr;refine ug rfl rfl rfl<|wi tk h14 rfl rfl rfl rfl rfl ?_;exact jx 4 hr
      exact jx 8 hr
     exact jx 15 hr
    refine ax 0 32 hr (fun hr=>?_) fun hr=>?_
    .refine rn tk 15 rfl<|jn ((0,(w64 (s1.2+1)))) hr rfl rfl
    refine jq 3 hr [0,3,4] [] (fun j16=>[(40,.bo j16)]) (fun _=>[]) (fun j16 hr=>?_) (fun j16 hr=>?_)
    .refine bx 4 37 hr (fun c17 hr=>?_) fun c17 hr=>?_
     .exact jx 4 hr
     exact jx 4 hr
    refine ax 0 40 hr (fun hr=>?_) fun hr=>?_
    .exact ox 9 hr
    refine ax 15 44 hr (fun hr=>?_) fun hr=>?_
    .exact ox 8 hr
    refine rn tk 2 rfl<|jn (((w64 (s1.1+1)),s1.2)) hr rfl rfl
   intro j7 hr;unfold v3a at hr;exact cx 5 hr
  exact ox 2 hr
 .exact kx 8 hr
 exact kx 2 hr
theorem WHa(a0:List UInt8)(r:zja)(hr:wRa a0=some r):Run prog 37 [.l cU a0] (.agg [.i r.Code,.i r.Index]):=by
 unfold wRa at hr;refine rfx (fn:=f37) func37 fun g0 hg=>?_
 refine clx 9 hr (QLa _) fun v1 _ hr=>?_
 refine ax 9 5 hr (fun hr=>?_) fun hr=>?_
 .refine clx 2 hr (zga _ _) fun v4 _ hr=>?_
  exact kx 6 hr
 refine ax 6 8 hr (fun hr=>?_) fun hr=>?_
 .refine clx 2 hr (zga _ _) fun v7 _ hr=>?_
  exact kx 6 hr
 refine clx 5 hr zma fun v9 _ hr=>?_
 exact kx 4 hr
section
open Go.RowKit Go.Lib Go.Proofs.Tryz
variable {E:Env} {T:Tab} {fr:Fr} {σ:Sto} {k:KS} {l:List Oper} {cs:List (Option AV)} {all:List Node} {H:List Bool} {K:Post} {g:GS}
abbrev HvF:=Fr->Sto->Fr × Sto
def hget:List (Nat × HvF)->Nat->Option HvF
 | [],_=>none
 | (k,c)::r,i=>bif Nat.beq k i then some c else hget r i
def mrun(T:Tab)(tl:List (Nat × AV))(hl:List (Nat × HvF)):List Oper->Nat->Fr->Sto->Option (List (Option AV))
 | [],_,_,_=>some []
 | o::r,i,fr,σ=>match hget hl i with
  | some F=>(match F fr σ with | (f',s')=>(match mrun T tl hl r (i+1) f' s' with | some cs=>some (none::cs) | none=>none))
  | none=>(match o.dst with
   | none=>none
   | some d=>(match (match tget tl i with | some c=>some c | none=>qval T fr.ev σ o.op) with
    | some c=>(match mrun T tl hl r (i+1) ((d,c)::fr) σ with | some cs=>some (some c::cs) | none=>none)
    | none=>none))
def runH(hl:List (Nat × HvF)):List Nat->Fr->Sto->Option (Fr × Sto)
 | [],f,s=>some (f,s)
 | i::r,f,s=>match hget hl i with
  | some F=>(match F f s with | (f',s')=>runH hl r f' s')
  | none=>none
def ndsF(n:Nat)(hl:List (Nat × HvF))(fr:Fr)(σ:Sto):List (List Nat)->Option (List Node)
 | []=>some []
 | h::r=>match runH hl h fr σ with
  | some (f,s)=>(match ndsF n hl fr σ r with | some x=>some (((List.range n).map h.contains,f,s)::x) | none=>none)
  | none=>none
theorem mh(n:Nat){id:Nat}(tl:List (Nat × AV))(hl:List (Nat × HvF))(Hs:List (List Nat))(h:ZUa E l cs (k.post E) all all)
 (hmix:E.P.follows .mixedOrders=true) (hT:zDa E.P T:=by exact tk) (hg:GS.run T E.N n g=some (.code (.region id l.toArray true) fr σ k):=by exact rfl) (hz:mrun T tl hl l 0 fr σ=some cs:=by exact rfl) (hn:ndsF l.length hl fr σ Hs=some all:=by exact rfl)
 (hok:(kIb E.N l cs,all[0]?)=(true,some (List.replicate l.length false,fr,σ)):=by kernel_rfl):g.holds E:=
 rn hT n hg (VYa cs all hmix (congrArg Prod.fst hok) (congrArg Prod.snd hok) rfl kza kLa h)
theorem mfq(hT:zDa E.P T)(is ks:List Nat){frJ:Fr}(h2:voa E l cs all H fr σ is)(h:K .normal frJ σ)(h1:((Kia l cs H is).map (zOb T l cs fr σ),(Kia l cs H is).all (fun i=>(Qka cs i).isSome))=((Kia l cs H is).map (Qka cs),true):=by kernel_rfl)(hf:(purL l cs fr).px ks=some frJ:=by exact rfl):zNb E l cs K all (H,fr,σ):=
 mf hT is frJ h1 h2 (Fr.px_ok hf).1 h
theorem mnq(hT:zDa E.P T)(is:List Nat)(h2:voa E l cs all H fr σ is)(h1:(((List.range l.length).all fun i=> !(isHv cs i) || H.getD i false),(Kia l cs H is).map (zOb T l cs fr σ),(Kia l cs H is).all (fun i=>(Qka cs i).isSome))=(false,(Kia l cs H is).map (Qka cs),true):=by kernel_rfl):zNb E l cs K all (H,fr,σ):=mn hT is h1 h2
theorem mdtq(j:Nat){i k:Nat}{o:Oper}{c:AV}{rs:List Nat}{σ' :Sto}(h:HvD E o (purF l cs (allT l)++fr) σ k c rs σ')(ho:l[i]? =some o:=by exact rfl)(e:(((List.range l.length).all fun i=>yma l cs i !=some k),wdb cs rs,cs[i]?,all[j]?)=(true,true,some none,some (H.set i true,(k,c)::fr.clrs rs,σ')):=by kernel_rfl):kHb E l cs all H fr σ i:=mdt j ho h e
theorem mpu{i:Nat}{o:Oper}{c:AV}(h:OpG E o (purF l cs (allT l)++fr) σ c)(ho:l[i]? =some o:=by exact rfl)(hc:cs[i]? =some (some c):=by exact rfl):kHb E l cs all H fr σ i:=.pure ho hc h
end
theorem Zpa(a0:zda)(r:List UInt8)(hr:vda a0=some r):Run prog 36 [.agg [.l zba.pc a0.Fields,.l cU a0.Body]] (.l cU r):=by
 unfold vda at hr;refine rfx (fn:=f36) func36 fun g0 hg=>?_
 refine rn tk 9 rfl ?_;refine zUa 1003 (d:=3) 5 1 rfl rfl rfl (hO ?_);refine rn tk 7 rfl<|wn tk rfl rfl rfl ?_;refine aq1 4 hr [1,3,11,12] [1] (fun s1=>[(13,.i s1.1)]) (fun s1=>[(1003,.row 5 false 1 (List.map cU s1.2))]) (.exit 0) [1,3] [1] (fun _=>[]) (fun b2=>[(1003,.row 5 false 1 (List.map cU b2))]) (fun s1 x3 hr=>?_) (fun b2 hr=>?_)
 .unfold qLa at hr;refine ax 6 14 hr (fun hr=>?_) fun hr=>?_
  .refine rn tk 6 rfl ?_;obtain ⟨v5,h6,hr⟩:=zaa hr;refine wi tk h6 rfl rfl rfl rfl rfl ?_;refine clx 11 hr (ysa _ _) fun v7 _ hr=>?_
   refine rn tk 11 rfl<|wn tk rfl rfl rfl ?_;refine aq1 4 hr [1,3,11,12,13,25,26] [1] (fun s9=>[(27,.i s9.1)]) (fun s9=>[(1003,.row 5 false 1 (List.map cU s9.2))]) (.exit 2) [1,3,11,12,13] [1] (fun _=>[]) (fun b10=>[(1003,.row 5 false 1 (List.map cU b10))]) (fun s9 x11 hr=>?_) (fun b10 hr=>?_)
   .unfold qKa at hr;refine ax 6 28 hr (fun hr=>?_) fun hr=>?_
    .refine rn tk 6 rfl ?_;obtain ⟨v13,h14,hr⟩:=zaa hr;refine wi tk h14 rfl rfl rfl rfl rfl<|rn tk 7 rfl ?_;obtain ⟨v15,h16,hr⟩:=zaa hr;refine wo (wJa (k:=33) (l:=s9.2) (s:=v13) (lim:=140737488355328) rfl rfl rfl rfl zra zoa.u zxa rfl h16) rfl<|wz cU ([(13:UInt8),(10:UInt8)]:List UInt8) tk rfl rfl (fun _=>rfl) rfl rfl rfl ?_;obtain ⟨v17,h18,hr⟩:=zaa hr;refine wa tk h18 rfl rfl rfl rfl (fun _=>rfl) rfl rfl ?_;exact cx 8 hr
    exact ox 2 hr
   exact cx 7 hr
  exact ox 2 hr
 refine rn tk 3 rfl ?_;obtain ⟨v19,h20,hr⟩:=zaa hr;obtain ⟨v21,h22,hr⟩:=zaa hr;refine mh 0 [(1,.l cU (([(13:UInt8),(10:UInt8)]:List UInt8)))] [(0,fun f s=>((38,.hs 1003 0)::f,s)),(2,fun f s=>((40,.hs 1003 0)::Fr.clrs [1003] f,(Sto.upd (Sto.clr 1003 s) 1003 (.row 5 false 1 (List.map cU v19))))),(5,fun f s=>((43,.hs 1003 0)::Fr.clrs [1003] f,(Sto.upd (Sto.clr 1003 s) 1003 (.row 5 false 1 (List.map cU v21))))),(6,fun f s=>((2,.hs 1003 0)::f,s))] [[],[0],[0,2],[0,2,5],[0,2,5,6]] ?_ mixed;refine .cons (mnq tk [0,1] (.cons (mdtq 1 (hv_g rfl rfl (mqz tk rfl))) (.cons (mpu (yba (F:=cU) (l:=([(13:UInt8),(10:UInt8)]:List UInt8)) zra zxa rfl (fun _=>rfl) rfl rfl)) .nil))) (.cons (mnq tk [1,2] (.cons (mpu (yba (F:=cU) (l:=([(13:UInt8),(10:UInt8)]:List UInt8)) zra zxa rfl (fun _=>rfl) rfl rfl)) (.cons (mdtq 2 (YBa (F:=cU) (l:=b2) (xs:=(([(13:UInt8),(10:UInt8)]:List UInt8))) (lim:=140737488355328) rfl rfl rfl rfl zra zxa rfl rfl (fun _=>rfl) rfl h20)) .nil))) (.cons (mnq tk [5] (.cons (mdtq 3 (YBa (F:=cU) (l:=v19) (xs:=a0.Body) (lim:=140737488355328) rfl rfl rfl rfl zra zxa rfl rfl (fun _=>rfl) rfl h22)) .nil)) (.cons (mnq tk [6] (.cons (mdtq 4 (hv_g rfl rfl (mqz tk rfl))) .nil)) (.cons (mfq tk [] [2] .nil (hA ?_)) .nil))));refine rn tk 1 rfl ?_;refine kTa (d:=2) (F:=cU) (l:=v21) rfl rfl (hC ?_);exact kx 1 hr
theorem kca(a0:zda)(r:zja)(hr:zOa a0=some r):Run prog 17 [.agg [.l zba.pc a0.Fields,.l cU a0.Body]] (.agg [.i r.Code,.i r.Index]):=by
 unfold zOa at hr;refine rfx (fn:=f17) func17 fun g0 hg=>?_
 refine clx 11 hr (vMa _) fun v1 _ hr=>?_
 refine clx 7 hr (zha _) fun v3 _ hr=>?_
 refine ax 2 8 hr (fun hr=>?_) fun hr=>?_
 .exact kx 8 hr
 refine clx 6 hr (Zpa _) fun v6 _ hr=>?_
 refine wn tk rfl rfl rfl ?_;refine ax 3 13 hr (fun hr=>?_) fun hr=>?_
 .refine clx 2 hr (zga _ _) fun v9 _ hr=>?_
  exact kx 5 hr
 refine clx 6 hr (WHa _) fun v11 _ hr=>?_
 exact kx 4 hr
theorem ZXa(a0:List zda)(r:zja)(hr:jsa a0=some r):Run prog 44 [.l zda.pc a0] (.agg [.i r.Code,.i r.Index]):=by
 unfold jsa at hr;refine rfx (fn:=f44) func44 fun g0 hg=>?_
 refine jq 6 hr [0,2] [2] (fun j1=>[(13,.bo j1)]) (fun _=>[]) (fun j1 hr=>?_) (fun j1 hr=>?_)
 .refine rn tk 2 rfl<|wn tk rfl rfl rfl ?_;refine bx 2 9 hr (fun c2 hr=>?_) fun c2 hr=>?_
  .exact jx 5 hr
  refine rn tk 1 rfl<|ug rfl rfl rfl<|wn tk rfl rfl rfl ?_;exact jx 3 hr
 refine ax 0 13 hr (fun hr=>?_) fun hr=>?_
 .refine clx 2 hr (zga _ _) fun v4 _ hr=>?_
  exact kx 5 hr
 refine rn tk 6 rfl<|wn tk rfl rfl rfl ?_;refine aq2 4 hr [2,15,16] [2] (fun s6=>[(17,.i s6)]) (fun _=>[]) (.exit 0) [2] [2] (fun _=>[]) (fun _=>[]) .ret [2] [] (fun _=>[]) (fun b8=>[(2,.cells [.i b8.Code,.i b8.Index])]) (fun s6 x10 hr=>?_) (fun b7 hr=>?_) (fun b8 hr=>?_)
 .unfold Kva at hr;refine ax 6 18 hr (fun hr=>?_) fun hr=>?_
  .refine rn tk 7 rfl ?_;obtain ⟨v12,h13,hr⟩:=zaa hr;refine wi tk h13 rfl rfl rfl rfl rfl ?_;refine clx 9 hr (kca _) fun v14 _ hr=>?_
   refine clx 7 hr (zha _) fun v16 _ hr=>?_
   refine ax 2 25 hr (fun hr=>?_) fun hr=>?_
   .refine clx 5 hr (zga _ _) fun v19 _ hr=>?_
    exact ox 6 hr
   exact cx 7 hr
  exact ox 2 hr
 .refine clx 4 hr zma fun v21 _ hr=>?_
  exact kx 4 hr
 exact kx 2 hr
theorem wya(a0:zda)(r:(List UInt8) × zja)(hr:qDa a0=some r):Run prog 41 [.agg [.l zba.pc a0.Fields,.l cU a0.Body]] (.tup [.l cU r.1,.agg [.i r.2.Code,.i r.2.Index]]):=by
 unfold qDa at hr;refine rfx (fn:=f41) func41 fun g0 hg=>?_
 refine clx 11 hr (kca _) fun v1 _ hr=>?_
 refine clx 7 hr (zha _) fun v3 _ hr=>?_
 refine ax 2 8 hr (fun hr=>?_) fun hr=>?_
 .refine mdq 1 [] [2,3] .nil ?_ mixed;exact kx 3 hr
 refine clx 5 hr (Zpa _) fun v6 _ hr=>?_
 refine clx 0 hr zma fun v8 _ hr=>?_
 exact kx 5 hr
theorem VDa(a0:List zda)(a1:Int)(r:(List Int) × zja)(hr:jQa a0 a1=some r):Run prog 24 [.l zda.pc a0,.i a1] (.tup [.l cI r.1,.agg [.i r.2.Code,.i r.2.Index]]):=by
 unfold jQa at hr;refine rfx (fn:=Tryz.f24) func24 fun g0 hg=>?_
 refine clx 10 hr (ZXa _) fun v1 _ hr=>?_
 refine clx 7 hr (zha _) fun v3 _ hr=>?_
 refine ax 2 17 hr (fun hr=>?_) fun hr=>?_
 .refine dq 1 2 [] [] .nil .nil ?_ mixed;exact kx 5 hr
 refine jq 3 hr [0,1,5] [5] (fun j6=>[(24,.bo j6)]) (fun _=>[]) (fun j6 hr=>?_) (fun j6 hr=>?_)
 .refine bx 4 21 hr (fun c7 hr=>?_) fun c7 hr=>?_
  .exact jx 4 hr
  exact jx 4 hr
 refine ax 0 24 hr (fun hr=>?_) fun hr=>?_
 .refine clx 2 hr (zga _ _) fun v9 _ hr=>?_
  exact kx 6 hr
 refine rn tk 5 rfl ?_;refine qYa 1007 (d:=7) 3 1 rfl rfl rfl (hO ?_);refine rn tk 11 rfl<|wn tk rfl rfl rfl ?_;refine aq1 4 hr [1,5,7,26,27] [5] (fun s11=>[(8,.i s11.1),(28,.i s11.2.1)]) (fun s11=>[(1007,.row 3 true 1 (List.map cI s11.2.2))]) (.exit 0) [5,7] [5] (fun _=>[]) (fun b12=>[(1007,.row 3 true 1 (List.map cI b12))]) (fun s11 x13 hr=>?_) (fun b12 hr=>?_)
 .unfold Zka at hr;refine ax 6 29 hr (fun hr=>?_) fun hr=>?_
  .refine jq 2 hr [1,5,7,26,27,28] [5] (fun j15=>[(8,.i j15.1)]) (fun j15=>[(1007,.row 3 true 1 (List.map cI j15.2))]) (fun j15 hr=>?_) (fun j15 hr=>?_)
   .refine rn tk 3 rfl ?_;obtain ⟨v16,h17,hr⟩:=zaa hr;refine wi tk h17 rfl rfl rfl rfl rfl ?_;refine clx 8 hr (wya _) fun v18 _ hr=>?_
    refine rn tk 12 rfl<|wn tk rfl rfl rfl<|rn tk 8 rfl<|wnh tk rfl rfl rfl rfl ?_;refine jq 4 hr [1,5,7,11,26,27,28] [1007,5] (fun j20=>[(8,.i j20.1),(13,.i j20.2.1),(57,.bo j20.2.2)]) (fun _=>[]) (fun j20 hr=>?_) (fun j20 hr=>?_)
    .refine bx 4 46 hr (fun c21 hr=>?_) fun c21 hr=>?_
     .refine rn tk 2 rfl ?_;obtain ⟨v22,h23,hr⟩:=zaa hr;refine ug rfl rfl rfl<|wih tk h23 rfl rfl rfl rfl rfl ?_;obtain ⟨v24,h25,hr⟩:=zaa hr;refine ug rfl rfl rfl<|wq (v1a (F:=cI) (l:=s11.2.2) (n:=((w64 ((s11.2.2.length:Int) - 1)))) (j:=0) rfl rfl yJa rfl h25 rfl) rfl rfl rfl ?_;refine bx 4 54 hr (fun c26 hr=>?_) fun c26 hr=>?_
      .exact jx 4 hr
      exact jx 4 hr
     exact jx 12 hr
    refine ax 0 57 hr (fun hr=>?_) fun hr=>?_
    .refine rn tk 4 rfl ?_;obtain ⟨v28,h29,hr⟩:=zaa hr;refine wih tk h29 rfl rfl rfl rfl rfl ?_;obtain ⟨v30,h31,hr⟩:=zaa hr;refine wq (v1a (F:=cI) (l:=s11.2.2) (n:=j20.2.1) (j:=0) rfl rfl yJa rfl h31 rfl) rfl rfl rfl<|rn tk 1 rfl ?_;obtain ⟨v32,h33,hr⟩:=zaa hr;refine wih tk h33 rfl rfl rfl rfl rfl ?_;obtain ⟨v34,h35,hr⟩:=zaa hr;refine wo (qZa (F:=cI) (l:=s11.2.2) (n:=j20.2.1) (j:=0) (v:=v34) (v' :=((w64 (v30+1)))) (pcs:=[pI ((w64 (v30+1)))]) rfl rfl rfl yJa rfl h35 rfl rfl) rfl ?_;exact jx 5 hr
    refine rn tk 5 rfl<|wz cI ([1]:List Int) tk rfl rfl (fun _=>rfl) rfl rfl rfl ?_;obtain ⟨v36,h37,hr⟩:=zaa hr;refine wa tk h37 rfl rfl rfl rfl (fun _=>rfl) rfl rfl<|rn tk 5 rfl<|wn tk rfl rfl rfl ?_;exact jx 3 hr
   exact cx 4 hr
  exact ox 2 hr
 refine clx 5 hr zma fun v38 _ hr=>?_
 refine rn tk 4 rfl ?_;refine Zya 1007 rfl (hC ?_);refine kTa (d:=4) (F:=cI) (l:=b12) rfl rfl (hC ?_);exact kx 1 hr
theorem str_argN{g:G}{s:Str}{v:Value}(h:Rel g (.s s) v):v=.string (strB s):=zKa h
theorem pow_tab {g : G} (hg : Gl g) : Lib.TabIs prog g.w "internal/strconv.uint64pow10" .u64 Lib.pow10Tab := by
 obtain ⟨t,fz,h⟩:=hg.2.1 (0,(Lib.pow10Tab.map fun z=>Value.int .u64 z).toArray) (by simp[wGb]);have hn : prog.globalNamed "internal/strconv.uint64pow10" = some 0 := by kernel_rfl
 unfold Lib.TabIs World.var?;rw[hn];simp only[jAc];simp only at h;rw[h]
theorem wvb(g:G)(q:Nat)(os:Array Obj):Old (fun _=>False) g ⟨Go.Sort.grow (g.w.drewN q) os,g.u,g.loc⟩:=by
 have hb:∀k,k < g.w.heap.size->(Go.Sort.grow (g.w.drewN q) os).heap[k]? =g.w.heap[k]? :=by
  intro k hk;show (g.w.heap++os)[k]? =_;rw[jAw hk]
 refine ⟨rfl,rfl,rfl,⟨?_,fun _ _=>jAm _,fun k i hk hi=>?_,fun r hr=>(hb r (zVa hr)).trans hr⟩,fun k hk _=>⟨hb k hk,rfl⟩⟩
 .show g.w.heap.size<=(g.w.heap++os).size;simp
 simp only[World.cell?];rw[hb k hk]
theorem kWa(n:Int)(r:Str)(hr:zJa n=some r):Run prog 20 [.i n] (.s r):=by
 unfold zJa at hr;split at hr
 case isFalse=>cases hr
 rename_i hlen;cases hr;refine ⟨⟨_,_,⟨func20,rfl,by kernel_rfl⟩⟩,fun g vs hw hg ha=>?_⟩;obtain ⟨hsz,hrel⟩:=ha;obtain ⟨l⟩:=vs
 match l,hsz with
 | [x],_=>
  have e2:x=.int .i64 n:=zKa (hrel 0 _ rfl);subst e2;refine callsIn_wide.2 ((Tryz.strconv_Itoa n hlen.1 hlen.2 g.w (pow_tab hg)).mono ?_);rintro e w' ⟨rfl,q,os,rfl⟩;exact ⟨⟨Go.Sort.grow (g.w.drewN q) os,g.u,g.loc⟩,_,rfl,rfl,wvb g q os,fun k hk=>hw k (jAt (wvb g q os).ext.size hk),rfl,.pv (.b rfl)⟩
theorem JAa(a0:Int)(r:Bool)(hr:V3a a0=some r):Run prog 64 [.i a0] (.bo r):=by
 unfold V3a at hr;refine JJa (fn:=f64) ⟨func64,rfl,by kernel_rfl⟩ rfl (fun _=>rfl) fun g0 hg=>?_
 refine qUb ?_;refine VNa ?_;refine z4a rfl (qja (d:=2) rfl rfl Q8a) ?_;refine WXa<|kib ?_;obtain ⟨j1,hx,hy⟩:=zaa hr;refine zrb (fun j1=>[(2,.bo j1)]) (fun j1=>[]) (fun z=>j1=z) ?_ ?_
 .have hr:=hx;clear hx hy;refine VNa ?_;refine z4a rfl (qja (d:=3) rfl rfl VOa) ?_;refine z4a rfl (qja (d:=4) rfl rfl (ev_geq rfl rfl)) ?_;refine z4a rfl (qja (d:=5) rfl rfl VOa)<|kFa (decide ((-68719476736)<=a0)) (fun c2=>?_) (fun c2=>?_)
  .replace hr:=jVa c2 hr
   refine zpb (d:=5) rfl rfl rfl c2 (qja (d:=6) rfl rfl VOa) ?_;refine zpb (d:=5) rfl rfl rfl c2 (qja (d:=7) rfl rfl (ev_leq rfl rfl)) ?_;refine z4a rfl (qja (d:=8) rfl rfl (Z9a rfl c2)) ?_;refine z4a rfl (qja (d:=2) rfl rfl Q8a) ?_;refine WXa ?_;cases hr;exact Woa _ rfl (Z7a rfl Q7a) kXa
  replace hr:=jWa c2 hr
  refine zqb (d:=5) rfl rfl rfl c2 ?_;refine zqb (d:=5) rfl rfl rfl c2 ?_;refine z4a rfl (qja (d:=8) rfl rfl (Q9a rfl c2)) ?_;refine z4a rfl (qja (d:=2) rfl rfl Q8a) ?_;refine WXa ?_;cases hr;exact Woa _ rfl (Z7a rfl Q7a) kXa
 rintro _ rfl;have hr:=hy;clear hx hy;refine yMb ?_;cases hr;exact kret' rfl (.cons (yTb rfl) .nil) rfl
theorem ZYa(a0:Int)(r:Int)(hr:jqa a0=some r):Run prog 104 [.i a0] (.i r):=by
 unfold jqa at hr;refine rfx (fn:=Tryz.f104) func104 fun g0 hg=>?_
 refine rn tk 17 rfl<|wq (k5a rfl rfl rfl) rfl rfl rfl<|rn tk 2 rfl<|wq (k5a rfl rfl rfl) rfl rfl rfl<|rn tk 2 rfl<|wq (k5a rfl rfl rfl) rfl rfl rfl ?_;exact kx 5 hr
theorem JBa(a0:Int)(r:Bool)(hr:V6a a0=some r):Run prog 149 [.i a0] (.bo r):=by
 unfold V6a at hr;refine rfx (fn:=f149) func149 fun g0 hg=>?_
 refine rn tk 5 rfl<|jb hr (fun j1=>[(2,.bo j1)]) (fun j1=>[]) (fun j1 hr=>?_) (fun j1 hr=>?_)
 .refine rn tk 2 rfl<|wq (qka rfl rfl rfl) rfl rfl rfl ?_;refine bx 2 6 hr (fun c2 hr=>?_) fun c2 hr=>?_
  .refine rn tk 1 rfl<|ug rfl rfl rfl<|wq (qka rfl rfl rfl) rfl rfl rfl ?_;refine bx 2 10 hr (fun c3 hr=>?_) fun c3 hr=>?_
   .exact jx 7 hr
   refine rn tk 1 rfl<|ug rfl rfl rfl<|wq (qka rfl rfl rfl) rfl rfl rfl ?_;exact jx 5 hr
  exact jx 11 hr
 exact kx 1 hr
theorem ZZa(a0:Int)(a1:Int)(r:Int)(hr:jra a0 a1=some r):Run prog 105 [.i a0,.i a1] (.i r):=by
 unfold jra at hr;refine rfx (fn:=Tryz.f105) func105 fun g0 hg=>?_
 refine rn tk 7 rfl<|wq (Yya (cs:=[.i 31,.i 28,.i 31,.i 30,.i 31,.i 30,.i 31,.i 31,.i 30,.i 31,.i 30,.i 31]) V1a yJa (.inr ⟨rfl,rfl⟩) (by kernel_rfl)) rfl rfl rfl<|rn tk 2 rfl ?_;obtain ⟨v1,h2,hr⟩:=zaa hr;refine wq (vjb (f:=cI) (L:=([31,28,31,30,31,30,31,31,30,31,30,31]:List Int)) rfl rfl V1a yJa rfl rfl (fun _=>rfl) h2 rfl) rfl rfl rfl<|rn tk 3 rfl<|jb hr (fun j3=>[(5,.i j3)]) (fun j3=>[]) (fun j3 hr=>?_) (fun j3 hr=>?_)
 .refine jb hr (fun j4=>[(5,.i v1),(15,.bo j4)]) (fun j4=>[]) (fun j4 hr=>?_) (fun j4 hr=>?_)
  .refine bx 4 12 hr (fun c5 hr=>?_) fun c5 hr=>?_
   .refine rn tk 1 rfl ?_;obtain ⟨v6,h7,hr⟩:=zaa hr;refine ug rfl rfl rfl<|cl (JBa _ _ h7) rfl rfl ?_;exact jx 2 hr
   exact jx 4 hr
  refine ax 0 15 hr (fun hr=>?_) fun hr=>?_
  .exact jx 5 hr
  exact jx 1 hr
 exact kx 7 hr
theorem vga(a0:Int)(a1:Int)(a2:Int)(r:Int)(hr:wVa a0 a1 a2=some r):Run prog 67 [.i a0,.i a1,.i a2] (.i r):=by
 unfold wVa at hr;refine rfx (fn:=f67) func67 fun g0 hg=>?_
 refine clx 8 hr (ZYa _) fun v1 _ hr=>?_
 refine clx 0 hr (ZYa _) fun v3 _ hr=>?_
 refine rn tk 14 rfl<|al1 hr (fun s5=>[(0,.i a0),(1,.i a1),(7,.i s5.1),(8,.i s5.2)]) (fun s5=>[]) (.exit 0) (fun b6=>[(7,.i b6)]) (fun b6=>[]) rfl rfl (fun s5 x7 hr=>?_) (fun b6 hr=>?_)
 .unfold Wya at hr;refine ax 8 18 hr (fun hr=>?_) fun hr=>?_
  .refine clx 8 hr (ZZa _ _) fun v9 _ hr=>?_
   exact cx 10 hr
  exact ox 2 hr
 exact kx 9 hr
theorem KCa(a0:Int)(a1:Int)(r:Int × Int)(hr:ZDa a0 a1=some r):Run prog 66 [.i a0,.i a1] (.tup [.i r.1,.i r.2]):=by
 unfold ZDa at hr;refine rfx (fn:=f66) func66 fun g0 hg=>?_
 refine rn tk 10 rfl ?_;obtain ⟨v1,h2,hr⟩:=zaa hr;refine wq (qka rfl rfl (vbb h2)) rfl rfl rfl<|rn tk 3 rfl ?_;obtain ⟨v3,h4,hr⟩:=zaa hr;refine wq (qka rfl rfl (vbb h4)) rfl rfl rfl<|rn tk 9 rfl ?_;obtain ⟨v5,h6,hr⟩:=zaa hr;refine wq (k5a rfl rfl (vbb h6)) rfl rfl rfl ?_;exact kx 6 hr
theorem zIa(a0:Int)(a1:Int)(a2:Int)(r:Bool)(hr:kDa a0 a1 a2=some r):Run prog 65 [.i a0,.i a1,.i a2] (.bo r):=by
 unfold kDa at hr;refine rfx (fn:=f65) func65 fun g0 hg=>?_
 refine rn tk 5 rfl<|jb hr (fun j1=>[(6,.bo j1)]) (fun j1=>[]) (fun j1 hr=>?_) (fun j1 hr=>?_)
 .refine bx 5 10 hr (fun c2 hr=>?_) fun c2 hr=>?_
  .exact jx 6 hr
  exact jx 6 hr
 exact kx 1 hr
theorem YZa(a0:Int)(a1:Int)(r:j0a × zja)(hr:QTa a0 a1=some r):Run prog 45 [.i a0,.i a1] (.tup [.agg (zN0 r.1),.agg [.i r.2.Code,.i r.2.Index]]):=by
 unfold QTa at hr;refine rfx (fn:=f45) func45 fun g0 hg=>?_
 refine clx 10 hr (JAa _) fun v1 _ hr=>?_
 refine ax 3 13 hr (fun hr=>?_) fun hr=>?_
 .refine clx 3 hr (zga _ _) fun v4 _ hr=>?_
  exact kx 6 hr
 refine clx 6 hr (zIa _ _ _) fun v6 _ hr=>?_
 refine ax 3 18 hr (fun hr=>?_) fun hr=>?_
 .refine clx 3 hr (zga _ _) fun v9 _ hr=>?_
  exact kx 6 hr
 refine clx 8 hr (KCa _ _) fun v11 _ hr=>?_
 refine rn tk 8 rfl<|jb hr (fun j13=>[(1,.i a1),(4,.ptr 4 0),(5,.ptr 5 0),(6,.i v11.1),(7,.i v11.2),(36,.bo j13)]) (fun j13=>[(5,.cells [.i 0,.i 0]),(4,.cells [.i 0,.i 0,.i 0,.i 0,.i 0,.i 0,.i 0])]) (fun j13 hr=>?_) (fun j13 hr=>?_)
 .refine clx 2 hr (vga _ _ _) fun v14 _ hr=>?_
  refine bx 2 32 hr (fun c16 hr=>?_) fun c16 hr=>?_
  .exact jx 5 hr
  refine rn tk 1 rfl ?_;obtain ⟨v17,h18,hr⟩:=zaa hr;refine ug rfl rfl rfl<|cl (vga _ _ _ _ h18) rfl rfl ?_;exact jx 3 hr
 refine ax 0 36 hr (fun hr=>?_) fun hr=>?_
 .refine clx 3 hr (zga _ _) fun v20 _ hr=>?_
  exact kx 6 hr
 refine rn tk 14 rfl<|al1 hr (fun s22=>[(1,.i a1),(4,.ptr 4 0),(5,.ptr 5 0),(6,.i v11.1),(7,.i v11.2),(8,.i s22.1),(9,.i s22.2)]) (fun s22=>[(5,.cells [.i 0,.i 0]),(4,.cells [.i 0,.i 0,.i 0,.i 0,.i 0,.i 0,.i 0])]) (.exit 0) (fun b23=>[(1,.i a1),(4,.ptr 4 0),(5,.ptr 5 0),(6,.i v11.1),(7,.i v11.2),(8,.i b23)]) (fun b23=>[(5,.cells [.i 0,.i 0]),(4,.cells [.i 0,.i 0,.i 0,.i 0,.i 0,.i 0,.i 0])]) rfl rfl (fun s22 x24 hr=>?_) (fun b23 hr=>?_)
 .unfold QEa at hr;refine ax 7 40 hr (fun hr=>?_) fun hr=>?_
  .refine rn tk 2 rfl<|jb hr (fun j26=>[(1,.i a1),(4,.ptr 4 0),(5,.ptr 5 0),(6,.i v11.1),(7,.i v11.2),(8,.i j26),(9,.i s22.2)]) (fun j26=>[(5,.cells [.i 0,.i 0]),(4,.cells [.i 0,.i 0,.i 0,.i 0,.i 0,.i 0,.i 0])]) (fun j26 hr=>?_) (fun j26 hr=>?_)
   .refine rn tk 1 rfl<|jb hr (fun j27=>[(1,.i a1),(4,.ptr 4 0),(5,.ptr 5 0),(6,.i v11.1),(7,.i v11.2),(8,.i s22.1),(9,.i s22.2),(54,.bo j27)]) (fun j27=>[(5,.cells [.i 0,.i 0]),(4,.cells [.i 0,.i 0,.i 0,.i 0,.i 0,.i 0,.i 0])]) (fun j27 hr=>?_) (fun j27 hr=>?_)
    .refine bx 6 47 hr (fun c28 hr=>?_) fun c28 hr=>?_
     .refine rn tk 3 rfl ?_;obtain ⟨v29,h30,hr⟩:=zaa hr;refine ug rfl rfl rfl<|cl (vga _ _ _ _ h30) rfl rfl ?_;exact jx 4 hr
     exact jx 8 hr
    refine ax 0 54 hr (fun hr=>?_) fun hr=>?_
    .exact jx 7 hr
    exact jx 2 hr
   refine rn tk 2 rfl<|wq (k5a rfl rfl rfl) rfl rfl rfl ?_;exact cx 2 hr
  exact ox 2 hr
 refine rn tk 9 rfl<|al1 hr (fun s32=>[(1,.i a1),(4,.ptr 4 0),(5,.ptr 5 0),(6,.i v11.1),(7,.i v11.2),(8,.i b23),(10,.i s32)]) (fun s32=>[(5,.cells [.i 0,.i 0]),(4,.cells [.i 0,.i 0,.i 0,.i 0,.i 0,.i 0,.i 0])]) (.exit 2) (fun b33=>[(1,.i a1),(4,.ptr 4 0),(5,.ptr 5 0),(6,.i v11.1),(7,.i v11.2),(8,.i b23),(10,.i b33)]) (fun b33=>[(5,.cells [.i 0,.i 0]),(4,.cells [.i 0,.i 0,.i 0,.i 0,.i 0,.i 0,.i 0])]) rfl rfl (fun s32 x34 hr=>?_) (fun b33 hr=>?_)
 .unfold QFa at hr;refine clx 5 hr (vga _ _ _) fun v35 _ hr=>?_
  refine ax 4 62 hr (fun hr=>?_) fun hr=>?_
  .exact cx 9 hr
  exact ox 2 hr
 refine clx 9 hr (vga _ _ _) fun v38 _ hr=>?_
 refine rn tk 3 rfl<|wq (k5a rfl rfl rfl) rfl rfl rfl<|rn tk 1 rfl<|wq (k5a rfl rfl rfl) rfl rfl rfl<|wq (qka rfl rfl rfl) rfl rfl rfl<|rn tk 1 rfl<|wq (qka rfl rfl rfl) rfl rfl rfl ?_;refine clx 2 hr zma fun v40 _ hr=>?_
 exact kx 5 hr
theorem Zpb{g:G}{w' :World}(h:Below g.w.heap.size g.w w'):Old (fun _=>False) g ⟨w',g.u,g.loc⟩:=
 ⟨h.os,h.tape,h.output,⟨h.size,fun _ _=>jAm _,fun k i hk _=>by simp only[World.cell?];rw[h.block k hk],fun r hr=>(h.block r (zVa hr)).trans hr⟩,fun k hk _=>⟨h.block k hk,rfl⟩⟩
theorem str_argJ{g:G}{s:Str}{v:Value}(h:Rel g (.s s) v):v=.string (strB s):=zKa h
theorem Zqb{g:G}{l:List Str}{v:Value}(h:Rel g (.l cS l) v):∃ad cap,v=.slice ad l.length cap/\l.length<=cap/\(l≠ []->∃b off,ad=some ⟨b,off,none⟩/\b < g.w.heap.size/\∀(i:Nat) s,l[i]? =some s->g.w.cell? ⟨b,off+i,none⟩=some (.string (strB s))):=by
 cases h with
 | pv h=>
  generalize hE:l.map cS=elems at h;have hEl:elems.length=l.length:=by rw[<-hE];simp
  unfold pL at h;rw[hE]at h;cases h with
  | @sl _ _ a cap size b off val hn h0 hc hz ha hu hcell h=>
   refine ⟨a,cap,by rw[hEl],by omega,fun hne=>?_⟩;have hne' :elems≠ []:=by rw[<-hE];simpa using hne
   refine ⟨b,off,ha hne',(hu hne').2,fun i s hi=>?_⟩;have hget:elems[i]? =some (cS s):=by rw[<-hE];simp[hi]
   have hs1:size=1:=by
    have:=hz _ (jAi hget);simpa[cS]using this.symm
   subst hs1;have hlt:i < elems.length:=(jAd.1 hget).1;rw[hcell i (by omega)];have:=h i 0 _ (.b (.string (strB s))) hget rfl;simp only[jCz,jBy]at this;have e:=zKa (g:=g) (.pv this);rw[e]
theorem WIa(l:List Str)(s:Str)(r:Str)(hr:vPa l s=some r):Run prog 70 [.l cS l,.s s] (.s r):=by
 unfold vPa at hr;split at hr
 case isFalse=>cases hr
 rename_i hlen;cases hr;refine ⟨⟨_,_,⟨func70,rfl,by kernel_rfl⟩⟩,fun g vs hw hg ha=>?_⟩;obtain ⟨hsz,hrel⟩:=ha;obtain ⟨vl⟩:=vs
 match vl,hsz with
 | [x,y],_=>
  have h0:Rel g (.l cS l) x:=hrel 0 _ rfl;obtain rfl:=str_argJ (hrel 1 _ rfl);obtain ⟨ad,cap,rfl,hcap,hcell⟩:=Zqb h0;refine callsIn_wide.2 ?_
  suffices hs:Calls prog 70 #[.slice ad l.length cap,.string (strB s)] g.w fun e w' =>e=.returned (.string (strB (Lib.join l s)))/\Below g.w.heap.size g.w w' by
   refine hs.mono ?_;rintro e w' ⟨rfl,hb⟩;exact ⟨⟨w',g.u,g.loc⟩,_,rfl,rfl,Zpb hb,fun k hk=>hw k (jAt hb.size hk),rfl,.pv (.b rfl)⟩
  cases l with
  | nil=>exact (Tryz.strings_Join_none ad cap (strB s) g.w).mono fun e w' ⟨he,hw⟩=>⟨he,hw▸Below.refl _ _⟩
  | cons a l=>
   obtain ⟨b,off,rfl,hb,hc⟩:=hcell (by simp);have e1:((a::l).map strB).map (·.data.toList)=a::l:=by
    rw[List.map_map]
    conv=>rhs;rw[<-List.map_id (a::l)]
    exact List.map_congr_left fun x _=>rfl
   have:=Tryz.strings_Join b off cap ((a::l).map strB) (strB s) g.w (fun j x hx=>by
    simp only[jAk,jAh]at hx;obtain ⟨y,hy,rfl⟩:=hx;exact hc j y hy) hb (by rw[jAx];exact hlen.1) (by rw[jAx];exact hcap) (by rw[e1];exact hlen.2)
   rw[e1,jAx]at this;exact this
theorem VEa(a0:j0a)(r:zja)(hr:jHa a0=some r):Run prog 106 [.agg (zN0 a0)] (.agg [.i r.Code,.i r.Index]):=by
 unfold jHa at hr;refine rfx (fn:=f106) func106 fun g0 hg=>?_
 refine rn tk 6 rfl<|jb hr (fun j1=>[(2,.ptr 2 0),(3,.bo j1)]) (fun j1=>[(2,.cells [.i 0,.i 0])]) (fun j1 hr=>?_) (fun j1 hr=>?_)
 .obtain ⟨v2,h3,hr⟩:=zaa hr;refine kFa v2 (fun c4=>?_) (fun c4=>?_)
  .replace hr:=jVa c4 hr
   obtain ⟨v5,h6,hr⟩:=zaa hr;refine kFa v5 (fun c7=>?_) (fun c7=>?_)
   .replace hr:=jVa c7 hr
    obtain ⟨v8,h9,hr⟩:=zaa hr;refine dr 18 [(21,.i v8),(20,.i ((min ((max a0.Month 1)) 12))),(19,.i ((max a0.Month 1))),(18,.i a0.Month),(17,.ptr 1 1),(16,.i a0.Year),(15,.ptr 1 0),(14,.i a0.Day),(13,.ptr 1 2),(12,.bo v5),(11,.bo v5),(10,.bo v5),(9,.i a0.Month),(8,.ptr 1 1),(7,.bo v2),(6,.bo v2),(5,.i a0.Year),(4,.ptr 1 0)] mixed (by kernel_rfl) rfl rfl (pq tk rfl (.plain rfl) (pq tk rfl (.plain rfl) (.run (.plain rfl) (zua (zIa a0.Year 1 4000 v2 h3) rfl) (pq tk rfl (.plain rfl) (pq tk rfl (.yes (d:=7) rfl rfl rfl c4) (pq tk rfl (.yes (d:=7) rfl rfl rfl c4) (.run (.yes (d:=7) rfl rfl rfl c4) (zua (zIa a0.Month 1 12 v5 h6) rfl) (.run (.plain rfl) (zGa (Z9a rfl c4)) (pq tk rfl (.plain rfl) (pq tk rfl (.yes (d:=12) rfl rfl rfl c7) (pq tk rfl (.yes (d:=12) rfl rfl rfl c7) (pq tk rfl (.yes (d:=12) rfl rfl rfl c7) (pq tk rfl (.yes (d:=12) rfl rfl rfl c7) (pq tk rfl (.yes (d:=12) rfl rfl rfl c7) (pq tk rfl (.yes (d:=12) rfl rfl rfl c7) (.run (.yes (d:=12) rfl rfl rfl c7) (zGa (v6b rfl rfl)) (.run (.yes (d:=12) rfl rfl rfl c7) (zGa (ev_min rfl rfl)) (.run (.yes (d:=12) rfl rfl rfl c7) (zua (ZZa a0.Year ((min ((max a0.Month 1)) 12)) v8 h9) rfl) .nil)))))))))))))))))) rfl<|kn 12 c7 rfl ?_;obtain ⟨v10,h11,hr⟩:=zaa hr;refine ug rfl rfl rfl<|cl (zIa _ _ _ _ h11) rfl rfl ?_;refine bx 2 24 hr (fun c12 hr=>?_) fun c12 hr=>?_
    .refine rn tk 2 rfl ?_;obtain ⟨v13,h14,hr⟩:=zaa hr;refine ug rfl rfl rfl<|cl (zIa _ _ _ _ h14) rfl rfl ?_;refine bx 2 29 hr (fun c15 hr=>?_) fun c15 hr=>?_
     .refine rn tk 2 rfl ?_;obtain ⟨v16,h17,hr⟩:=zaa hr;refine ug rfl rfl rfl<|cl (zIa _ _ _ _ h17) rfl rfl ?_;refine bx 2 34 hr (fun c18 hr=>?_) fun c18 hr=>?_
      .refine rn tk 2 rfl ?_;obtain ⟨v19,h20,hr⟩:=zaa hr;refine ug rfl rfl rfl<|cl (zIa _ _ _ _ h20) rfl rfl ?_;refine bx 2 39 hr (fun c21 hr=>?_) fun c21 hr=>?_
       .refine rn tk 2 rfl ?_;obtain ⟨v22,h23,hr⟩:=zaa hr;refine ug rfl rfl rfl<|cl (zIa _ _ _ _ h23) rfl rfl ?_;exact jx 3 hr
       exact jx 6 hr
      exact jx 11 hr
     exact jx 16 hr
    exact jx 21 hr
   replace hr:=jWa c7 hr
   refine dr 18 [(21,.tup []),(20,.tup []),(19,.tup []),(18,.tup []),(17,.tup []),(16,.tup []),(15,.tup []),(14,.tup []),(13,.tup []),(12,.bo v5),(11,.bo v5),(10,.bo v5),(9,.i a0.Month),(8,.ptr 1 1),(7,.bo v2),(6,.bo v2),(5,.i a0.Year),(4,.ptr 1 0)] mixed (by kernel_rfl) rfl rfl (pq tk rfl (.plain rfl) (pq tk rfl (.plain rfl) (.run (.plain rfl) (zua (zIa a0.Year 1 4000 v2 h3) rfl) (pq tk rfl (.plain rfl) (pq tk rfl (.yes (d:=7) rfl rfl rfl c4) (pq tk rfl (.yes (d:=7) rfl rfl rfl c4) (.run (.yes (d:=7) rfl rfl rfl c4) (zua (zIa a0.Month 1 12 v5 h6) rfl) (.run (.plain rfl) (zGa (Z9a rfl c4)) (pq tk rfl (.plain rfl) (.skip (.no (d:=12) rfl rfl rfl c7) (.skip (.no (d:=12) rfl rfl rfl c7) (.skip (.no (d:=12) rfl rfl rfl c7) (.skip (.no (d:=12) rfl rfl rfl c7) (.skip (.no (d:=12) rfl rfl rfl c7) (.skip (.no (d:=12) rfl rfl rfl c7) (.skip (.no (d:=12) rfl rfl rfl c7) (.skip (.no (d:=12) rfl rfl rfl c7) (.skip (.no (d:=12) rfl rfl rfl c7) .nil)))))))))))))))))) rfl<|kn 12 c7 rfl ?_;exact jx 24 hr
  replace hr:=jWa c4 hr
  refine dr 18 [(21,.tup []),(20,.tup []),(19,.tup []),(18,.tup []),(17,.tup []),(16,.tup []),(15,.tup []),(14,.tup []),(13,.tup []),(12,.bo false),(11,.bo false),(10,.tup []),(9,.tup []),(8,.tup []),(7,.bo v2),(6,.bo v2),(5,.i a0.Year),(4,.ptr 1 0)] mixed (by kernel_rfl) rfl rfl (pq tk rfl (.plain rfl) (pq tk rfl (.plain rfl) (.run (.plain rfl) (zua (zIa a0.Year 1 4000 v2 h3) rfl) (pq tk rfl (.plain rfl) (.skip (.no (d:=7) rfl rfl rfl c4) (.skip (.no (d:=7) rfl rfl rfl c4) (.skip (.no (d:=7) rfl rfl rfl c4) (.run (.plain rfl) (zGa (Q9a rfl c4)) (pq tk rfl (.plain rfl) (.skip (.no (d:=12) rfl rfl rfl rfl) (.skip (.no (d:=12) rfl rfl rfl rfl) (.skip (.no (d:=12) rfl rfl rfl rfl) (.skip (.no (d:=12) rfl rfl rfl rfl) (.skip (.no (d:=12) rfl rfl rfl rfl) (.skip (.no (d:=12) rfl rfl rfl rfl) (.skip (.no (d:=12) rfl rfl rfl rfl) (.skip (.no (d:=12) rfl rfl rfl rfl) (.skip (.no (d:=12) rfl rfl rfl rfl) .nil)))))))))))))))))) rfl ?_;exact jx 24 hr
 refine ax 7 45 hr (fun hr=>?_) fun hr=>?_
 .refine clx 2 hr (zga _ _) fun v25 _ hr=>?_
  exact kx 5 hr
 refine clx 4 hr zma fun v27 _ hr=>?_
 exact kx 4 hr
theorem Wda(a0:j0a)(r:Int × zja)(hr:ZEa a0=some r):Run prog 68 [.agg (zN0 a0)] (.tup [.i r.1,.agg [.i r.2.Code,.i r.2.Index]]):=by
 unfold ZEa at hr;refine rfx (fn:=f68) func68 fun g0 hg=>?_
 refine clx 11 hr (VEa _) fun v1 _ hr=>?_
 refine clx 7 hr (zha _) fun v3 _ hr=>?_
 refine ax 2 10 hr (fun hr=>?_) fun hr=>?_
 .refine rn tk 1 rfl<|dr 2 [(2,.i 0),(11,.agg [.i v1.Code,.i v1.Index])] mixed (by kernel_rfl) rfl rfl (pq tk rfl (.plain rfl) (pq tk rfl (.plain rfl) .nil)) rfl ?_;exact kx 5 hr
 refine clx 10 hr (vga _ _ _) fun v6 _ hr=>?_
 refine clx 1 hr (KCa _ _) fun v8 _ hr=>?_
 refine clx 10 hr zma fun v10 _ hr=>?_
 exact kx 5 hr
theorem WJa(r:Str × Str × Str × Str × Str × Str × Str × Str × Str × Str × Str × Str)(hr:Ksa=some r):Run prog 72 [] (.agg [.s r.1,.s r.2.1,.s r.2.2.1,.s r.2.2.2.1,.s r.2.2.2.2.1,.s r.2.2.2.2.2.1,.s r.2.2.2.2.2.2.1,.s r.2.2.2.2.2.2.2.1,.s r.2.2.2.2.2.2.2.2.1,.s r.2.2.2.2.2.2.2.2.2.1,.s r.2.2.2.2.2.2.2.2.2.2.1,.s r.2.2.2.2.2.2.2.2.2.2.2]):=by
 unfold Ksa at hr;refine rfx (fn:=f72) func72 fun g0 hg=>?_
 refine rn tk 7 rfl<|wq (Yya (cs:=[.s (([74,97,110]:Str)),.s (([70,101,98]:Str)),.s (([77,97,114]:Str)),.s (([65,112,114]:Str)),.s (([77,97,121]:Str)),.s (([74,117,110]:Str)),.s (([74,117,108]:Str)),.s (([65,117,103]:Str)),.s (([83,101,112]:Str)),.s (([79,99,116]:Str)),.s (([78,111,118]:Str)),.s (([68,101,99]:Str))]) ZBa zoa (.inr ⟨rfl,rfl⟩) (by kernel_rfl)) rfl rfl rfl ?_;exact kx 4 hr
theorem yvb{g:G}{w' :World}(h:Below g.w.heap.size g.w w'):Old (fun _=>False) g ⟨w',g.u,g.loc⟩:=
 ⟨h.os,h.tape,h.output,⟨h.size,fun _ _=>jAm _,fun k i hk _=>by simp only[World.cell?];rw[h.block k hk],fun r hr=>(h.block r (zVa hr)).trans hr⟩,fun k hk _=>⟨h.block k hk,rfl⟩⟩
theorem str_argP{g:G}{s:Str}{v:Value}(h:Rel g (.s s) v):v=.string (strB s):=zKa h
theorem VFa(s:Str)(n:Int)(r:Str)(hr:qRa s n=some r):Run prog 107 [.s s,.i n] (.s r):=by
 unfold qRa at hr;split at hr
 case isFalse=>cases hr
 rename_i hlen;cases hr;refine ⟨⟨_,_,⟨func107,rfl,by kernel_rfl⟩⟩,fun g vs hw hg ha=>?_⟩;obtain ⟨hsz,hrel⟩:=ha;obtain ⟨vl⟩:=vs
 match vl,hsz with
 | [x,y],_=>
  obtain rfl:=str_argP (hrel 0 _ rfl);have e2:y=.int .i64 n:=zKa (hrel 1 _ rfl);subst e2;have e3:((n.toNat:Nat):Int)=n:=by omega
  have h:=Tryz.strings_Repeat (strB s) n.toNat g.w (by omega) (by rw[zta];exact hlen.2.2);rw[e3]at h;refine callsIn_wide.2 (h.mono ?_);rintro e w' ⟨rfl,hb⟩;exact ⟨⟨w',g.u,g.loc⟩,_,rfl,rfl,yvb hb,fun k hk=>hw k (jAt hb.size hk),rfl,.pv (.b rfl)⟩
theorem qGa(a0:Int)(a1:Int)(r:Str)(hr:v7a a0 a1=some r):Run prog 69 [.i a0,.i a1] (.s r):=by
 unfold v7a at hr;refine rfx (fn:=f69) func69 fun g0 hg=>?_
 refine clx 8 hr (kWa _) fun v1 _ hr=>?_
 refine rn tk 9 rfl<|wq (v6b rfl rfl) rfl rfl rfl ?_;refine clx 0 hr (VFa _ _) fun v3 _ hr=>?_
 refine rn tk 1 rfl ?_;obtain ⟨v5,h6,hr⟩:=zaa hr;refine wc h6 rfl rfl rfl ?_;exact kx 4 hr
theorem VGa(r:Str × Str × Str × Str × Str × Str × Str)(hr:jIa=some r):Run prog 71 [] (.agg [.s r.1,.s r.2.1,.s r.2.2.1,.s r.2.2.2.1,.s r.2.2.2.2.1,.s r.2.2.2.2.2.1,.s r.2.2.2.2.2.2]):=by
 unfold jIa at hr;refine rfx (fn:=f71) func71 fun g0 hg=>?_
 refine rn tk 7 rfl<|wq (Yya (cs:=[.s (([83,117,110]:Str)),.s (([77,111,110]:Str)),.s (([84,117,101]:Str)),.s (([87,101,100]:Str)),.s (([84,104,117]:Str)),.s (([70,114,105]:Str)),.s (([83,97,116]:Str))]) Kka zoa (.inr ⟨rfl,rfl⟩) (by kernel_rfl)) rfl rfl rfl ?_;exact kx 4 hr
theorem Y0a(a0:j0a)(r:Str × zja)(hr:QUa a0=some r):Run prog 46 [.agg (zN0 a0)] (.tup [.s r.1,.agg [.i r.2.Code,.i r.2.Index]]):=by
 unfold QUa at hr;refine rfx (fn:=Tryz.f46) func46 fun g0 hg=>?_
 refine clx 10 hr (Wda _) fun v1 _ hr=>?_
 refine clx 12 hr (zha _) fun v3 _ hr=>?_
 refine ax 2 15 hr (fun hr=>?_) fun hr=>?_
 .refine rn tk 1 rfl<|dr 2 [(2,.s (([]:Str))),(16,.agg [.i v1.2.Code,.i v1.2.Index])] mixed (by kernel_rfl) rfl rfl (pq tk rfl (.plain rfl) (pq tk rfl (.plain rfl) .nil)) rfl ?_;exact kx 5 hr
 refine rn tk 3 rfl<|dr 3 [(6,.s (([43]:Str))),(18,.i a0.Zone),(17,.ptr 1 6)] mixed (by kernel_rfl) rfl rfl (pq tk rfl (.plain rfl) (pq tk rfl (.plain rfl) (pq tk rfl (.plain rfl) .nil))) rfl<|rn tk 3 rfl<|jb hr (fun j6=>[(1,.ptr 1 0),(3,.ptr 3 0),(4,.i v1.1),(6,.s j6.1),(7,.i j6.2)]) (fun j6=>[(3,.cells [.i 0,.i 0]),(1,.cells (zN0 a0))]) (fun j6 hr=>?_) (fun j6 hr=>?_)
 .refine ax 7 21 hr (fun hr=>?_) fun hr=>?_
  .refine dr 4 [(6,.s (([45]:Str))),(24,.i ((w64 (0 - a0.Zone)))),(23,.i a0.Zone),(22,.ptr 1 6)] mixed (by kernel_rfl) rfl rfl (pq tk rfl (.plain rfl) (pq tk rfl (.plain rfl) (.run (.plain rfl) (zGa (ev_ineg rfl)) (pq tk rfl (.plain rfl) .nil)))) rfl ?_;exact jx 2 hr
  exact jx 1 hr
 refine rn tk 4 rfl<|wq (k5a rfl rfl rfl) rfl rfl rfl ?_;refine clx 0 hr (qGa _ _) fun v8 _ hr=>?_
 refine rn tk 1 rfl<|wq (qka rfl rfl rfl) rfl rfl rfl ?_;refine clx 0 hr (qGa _ _) fun v10 _ hr=>?_
 obtain ⟨v12,h13,hr⟩:=zaa hr;refine wc h13 rfl rfl rfl ?_;obtain ⟨v14,h15,hr⟩:=zaa hr;refine wc h15 rfl rfl rfl<|rn tk 4 rfl ?_;obtain ⟨v16,h17,hr⟩:=zaa hr;obtain ⟨v18,h19,hr⟩:=zaa hr;obtain ⟨v20,h21,hr⟩:=zaa hr;obtain ⟨v22,h23,hr⟩:=zaa hr;obtain ⟨v24,h25,hr⟩:=zaa hr;obtain ⟨v26,h27,hr⟩:=zaa hr;refine dr 12 [(45,.s v26),(44,.i a0.Second),(43,.ptr 1 5),(42,.s v24),(41,.s v22),(40,.s v20),(39,.i a0.Minute),(38,.ptr 1 4),(37,.s v18),(36,.s v16),(35,.i a0.Hour),(34,.ptr 1 3)] mixed (by kernel_rfl) rfl rfl (pq tk rfl (.plain rfl) (pq tk rfl (.plain rfl) (.run (.plain rfl) (zua (qGa a0.Hour 2 v16 h17) rfl) (.run (.plain rfl) (zGa (vWa rfl rfl h19)) (pq tk rfl (.plain rfl) (pq tk rfl (.plain rfl) (.run (.plain rfl) (zua (qGa a0.Minute 2 v20 h21) rfl) (.run (.plain rfl) (zGa (vWa rfl rfl h23)) (.run (.plain rfl) (zGa (vWa rfl rfl h25)) (pq tk rfl (.plain rfl) (pq tk rfl (.plain rfl) (.run (.plain rfl) (zua (qGa a0.Second 2 v26 h27) rfl) .nil)))))))))))) rfl ?_;obtain ⟨v28,h29,hr⟩:=zaa hr;refine wc h29 rfl rfl rfl<|rn tk 4 rfl ?_;obtain ⟨v30,h31,hr⟩:=zaa hr;obtain ⟨v32,h33,hr⟩:=zaa hr;obtain ⟨v34,h35,hr⟩:=zaa hr;obtain ⟨v36,h37,hr⟩:=zaa hr;obtain ⟨v38,h39,hr⟩:=zaa hr;obtain ⟨v40,h41,hr⟩:=zaa hr;obtain ⟨v42,h43,hr⟩:=zaa hr;refine dr 17 [(63,.s v14),(62,.s v28),(61,.s v42),(60,.i a0.Year),(59,.ptr 1 0),(58,.s v40),(57,.i ((w64 (a0.Month - 1)))),(56,.i a0.Month),(55,.ptr 1 1),(54,.agg [.s v38.1,.s v38.2.1,.s v38.2.2.1,.s v38.2.2.2.1,.s v38.2.2.2.2.1,.s v38.2.2.2.2.2.1,.s v38.2.2.2.2.2.2.1,.s v38.2.2.2.2.2.2.2.1,.s v38.2.2.2.2.2.2.2.2.1,.s v38.2.2.2.2.2.2.2.2.2.1,.s v38.2.2.2.2.2.2.2.2.2.2.1,.s v38.2.2.2.2.2.2.2.2.2.2.2]),(53,.s v36),(52,.i a0.Day),(51,.ptr 1 2),(50,.s v34),(49,.s v32),(48,.i v1.1),(47,.agg [.s v30.1,.s v30.2.1,.s v30.2.2.1,.s v30.2.2.2.1,.s v30.2.2.2.2.1,.s v30.2.2.2.2.2.1,.s v30.2.2.2.2.2.2])] mixed (by kernel_rfl) rfl rfl (.run (.plain rfl) (zua (VGa v30 h31) rfl) (pq tk rfl (.plain rfl) (.run (.plain rfl) (zGa (vjb (f:=cS) (L:=([v30.1,v30.2.1,v30.2.2.1,v30.2.2.2.1,v30.2.2.2.2.1,v30.2.2.2.2.2.1,v30.2.2.2.2.2.2]:List Str)) rfl rfl Kka zoa rfl rfl (fun _=>rfl) h33 rfl)) (.run (.plain rfl) (zGa (vWa rfl rfl h35)) (pq tk rfl (.plain rfl) (pq tk rfl (.plain rfl) (.run (.plain rfl) (zua (qGa a0.Day 2 v36 h37) rfl) (.run (.plain rfl) (zua (WJa v38 h39) rfl) (pq tk rfl (.plain rfl) (pq tk rfl (.plain rfl) (pq tk rfl (.plain rfl) (.run (.plain rfl) (zGa (vjb (f:=cS) (L:=([v38.1,v38.2.1,v38.2.2.1,v38.2.2.2.1,v38.2.2.2.2.1,v38.2.2.2.2.2.1,v38.2.2.2.2.2.2.1,v38.2.2.2.2.2.2.2.1,v38.2.2.2.2.2.2.2.2.1,v38.2.2.2.2.2.2.2.2.2.1,v38.2.2.2.2.2.2.2.2.2.2.1,v38.2.2.2.2.2.2.2.2.2.2.2]:List Str)) rfl rfl ZBa zoa rfl rfl (fun _=>rfl) h41 rfl)) (pq tk rfl (.plain rfl) (pq tk rfl (.plain rfl) (.run (.plain rfl) (zua (qGa a0.Year 4 v42 h43) rfl) (pq tk rfl (.plain rfl) (pq tk rfl (.plain rfl) .nil))))))))))))))))) rfl<|wz cS ([v34,v36,v40,v42,v28,v14]:List Str) tk rfl rfl (fun _=>rfl) rfl rfl rfl ?_;refine clx 0 hr (WIa _ _) fun v44 _ hr=>?_
 refine clx 0 hr zma fun v46 _ hr=>?_
 exact kx 5 hr
theorem y8a(s t:Str)(r:Str × Str × Bool)(hr:k8a s t=some r):Run prog 98 [.s s,.s t] (.tup [.s r.1,.s r.2.1,.bo r.2.2]):=by
 unfold k8a at hr;split at hr
 case isFalse=>cases hr
 rename_i hlen;cases hr;refine ⟨⟨_,_,⟨func98,rfl,by kernel_rfl⟩⟩,fun g vs hw hg ha=>?_⟩;obtain ⟨hsz,hrel⟩:=ha;obtain ⟨l⟩:=vs
 match l,hsz with
 | [x,y],_=>
  obtain rfl:=jRa (hrel 0 _ rfl);obtain rfl:=jRa (hrel 1 _ rfl);obtain ⟨_,_,m,hm⟩:=hg.1 (1,0) (by simp[yKb]);refine callsIn_wide.2 ((Tryz.strings_Cut (strB s) (strB t) m g.w (by rw[zta];exact hlen) hm).mono ?_);rintro e w' ⟨rfl,q,rfl⟩;refine ⟨⟨g.w.drewN q,g.u,g.loc⟩,_,rfl,rfl,qub g q,hw,rfl,.tup rfl fun i c hi=>?_⟩
  match i,hi with
  | 0,rfl=>exact .pv (.b rfl)
  | 1,rfl=>exact .pv (.b rfl)
  | 2,rfl=>exact .pv (.b rfl)
theorem WKa(a0:UInt8)(r:Bool)(hr:Kna a0=some r):Run prog 100 [.u8 a0] (.bo r):=by
 unfold Kna at hr;refine rfx (fn:=Tryz.f100) func100 fun g0 hg=>?_
 refine jq 5 hr [] [] (fun j1=>[(2,.bo j1)]) (fun _=>[]) (fun j1 hr=>?_) (fun j1 hr=>?_)
 .refine bx 4 5 hr (fun c2 hr=>?_) fun c2 hr=>?_
  .refine bx 4 9 hr (fun c3 hr=>?_) fun c3 hr=>?_
   .exact jx 17 hr
   refine bx 3 12 hr (fun c4 hr=>?_) fun c4 hr=>?_
   .refine bx 5 17 hr (fun c5 hr=>?_) fun c5 hr=>?_
    .exact jx 9 hr
    refine bx 3 20 hr (fun c6 hr=>?_) fun c6 hr=>?_
    .exact jx 6 hr
    exact jx 6 hr
   refine bx 8 20 hr (fun c7 hr=>?_) fun c7 hr=>?_
   .exact jx 6 hr
   exact jx 6 hr
  refine bx 7 12 hr (fun c8 hr=>?_) fun c8 hr=>?_
  .refine bx 5 17 hr (fun c9 hr=>?_) fun c9 hr=>?_
   .exact jx 9 hr
   refine bx 3 20 hr (fun c10 hr=>?_) fun c10 hr=>?_
   .exact jx 6 hr
   exact jx 6 hr
  refine bx 8 20 hr (fun c11 hr=>?_) fun c11 hr=>?_
  .exact jx 6 hr
  exact jx 6 hr
 exact kx 1 hr
theorem Qoa(s t:Str)(r:Bool)(hr:kUa s t=some r):Run prog 148 [.s s,.s t] (.bo r):=by
 unfold kUa at hr;split at hr
 case isFalse=>cases hr
 rename_i hlen;cases hr;refine ⟨⟨_,_,⟨func148,rfl,by kernel_rfl⟩⟩,fun g vs hw hg ha=>?_⟩;obtain ⟨hsz,hrel⟩:=ha;obtain ⟨l⟩:=vs
 match l,hsz with
 | [x,y],_=>
  obtain rfl:=jRa (hrel 0 _ rfl);obtain rfl:=jRa (hrel 1 _ rfl);obtain ⟨_,_,m,hm⟩:=hg.1 (1,0) (by simp[yKb]);refine callsIn_wide.2 ((Tryz.strings_Contains (strB s) (strB t) m g.w (by rw[zta];exact hlen) hm).mono ?_);rintro e w' ⟨rfl,rfl⟩;exact ⟨g,_,rfl,rfl,Old.refl _ g,hw,rfl,.pv (.b rfl)⟩
theorem vSa(a0:Str)(a1:Str)(r:Bool)(hr:kqa a0 a1=some r):Run prog 180 [.s a0,.s a1] (.bo r):=by
 unfold kqa at hr;refine rfx (fn:=f180) func180 fun g0 hg=>?_
 refine jq 5 hr [] [] (fun j1=>[(4,.bo j1)]) (fun _=>[]) (fun j1 hr=>?_) (fun j1 hr=>?_)
 .refine bx 7 10 hr (fun c2 hr=>?_) fun c2 hr=>?_
  .refine rn tk 3 rfl ?_;obtain ⟨v3,h4,hr⟩:=zaa hr;refine ug rfl rfl rfl<|wscH tk h4 rfl rfl rfl rfl ?_;exact jx 5 hr
  exact jx 9 hr
 exact kx 1 hr
theorem w5a(a0:Str)(a1:Str)(r:Bool)(hr:kGa a0 a1=some r):Run prog 147 [.s a0,.s a1] (.bo r):=by
 unfold kGa at hr;refine rfx (fn:=f147) func147 fun g0 hg=>?_
 refine clx 9 hr (vSa _ _) fun v1 _ hr=>?_
 exact kx 4 hr
theorem vTa(a0:Str)(a1:Str)(r:Bool)(hr:zSa a0 a1=some r):Run prog 156 [.s a0,.s a1] (.bo r):=by
 unfold zSa at hr;refine rfx (fn:=Tryz.f156) func156 fun g0 hg=>?_
 refine jq 5 hr [] [] (fun j1=>[(4,.bo j1)]) (fun _=>[]) (fun j1 hr=>?_) (fun j1 hr=>?_)
 .refine bx 7 10 hr (fun c2 hr=>?_) fun c2 hr=>?_
  .refine rn tk 6 rfl ?_;obtain ⟨v3,h4,hr⟩:=zaa hr;refine ug rfl rfl rfl<|wscL tk h4 rfl rfl rfl rfl ?_;exact jx 5 hr
  exact jx 12 hr
 exact kx 1 hr
theorem w6a(a0:Str)(a1:Str)(r:Bool)(hr:zPa a0 a1=some r):Run prog 118 [.s a0,.s a1] (.bo r):=by
 unfold zPa at hr;refine rfx (fn:=f118) func118 fun g0 hg=>?_
 refine clx 9 hr (vTa _ _) fun v1 _ hr=>?_
 exact kx 4 hr
theorem QZa(a0:Str)(r:Bool)(hr:yLa a0=some r):Run prog 103 [.s a0] (.bo r):=by
 unfold yLa at hr;refine rfx (fn:=f103) func103 fun g0 hg=>?_
 refine jq 10 hr [] [] (fun j1=>[(2,.bo j1)]) (fun _=>[]) (fun j1 hr=>?_) (fun j1 hr=>?_)
 .refine bx 4 6 hr (fun c2 hr=>?_) fun c2 hr=>?_
  .refine bx 5 11 hr (fun c3 hr=>?_) fun c3 hr=>?_
   .refine rn tk 2 rfl<|ug rfl rfl rfl ?_;refine ctq 0 hr [0,11] [] (fun j4=>[(14,.bo j4)]) (fun _=>[]) (fun j4 hr jump4=>?_) (fun j4 hr=>?_)
    .refine iq 0 400000 [0,11] (fn:=f102) ⟨func102,rfl,by kernel_rfl⟩ fun T4 ds4=>?_
     refine aq2 14 hr [0,1,7] [499999,400000,400011] (fun s5=>[(8,.i s5)]) (fun _=>[]) (.exit 0) [] [499999,400000,400011] (fun _=>[]) (fun _=>[]) .ret [4] [499999,400000,400011] (fun _=>[]) (fun _=>[]) (fun s5 x9 hr=>?_) (fun b6 hr=>?_) (fun b7 hr=>?_)
     .unfold jna at hr;refine ax 6 9 hr (fun hr=>?_) fun hr=>?_
      .refine rn tk 15 rfl ?_;obtain ⟨v11,h12,hr⟩:=zaa hr;refine ws tk h12 rfl rfl rfl rfl ?_;refine iq 0 600000 [0,1,7,8] (fn:=f146) ⟨func146,rfl,by kernel_rfl⟩ fun T6 ds6=>?_
       refine jq 5 hr [] [699999,600000,600001,600007,600008,499999,400000,400011] (fun j13=>[(2,.bo j13)]) (fun _=>[]) (fun j13 hr=>?_) (fun j13 hr=>?_)
       .refine bx 4 5 hr (fun c14 hr=>?_) fun c14 hr=>?_
        .refine bx 4 9 hr (fun c15 hr=>?_) fun c15 hr=>?_
         .exact jx 17 hr
         refine bx 3 12 hr (fun c16 hr=>?_) fun c16 hr=>?_
         .refine bx 5 17 hr (fun c17 hr=>?_) fun c17 hr=>?_
          .exact jx 9 hr
          refine bx 4 21 hr (fun c18 hr=>?_) fun c18 hr=>?_
          .exact jx 5 hr
          exact jx 5 hr
         refine bx 9 21 hr (fun c19 hr=>?_) fun c19 hr=>?_
         .exact jx 5 hr
         exact jx 5 hr
        refine bx 7 12 hr (fun c20 hr=>?_) fun c20 hr=>?_
        .refine bx 5 17 hr (fun c21 hr=>?_) fun c21 hr=>?_
         .exact jx 9 hr
         refine bx 4 21 hr (fun c22 hr=>?_) fun c22 hr=>?_
         .exact jx 5 hr
         exact jx 5 hr
        refine bx 9 21 hr (fun c23 hr=>?_) fun c23 hr=>?_
        .exact jx 5 hr
        exact jx 5 hr
       refine ieq 1 (hO ?_);refine ax 3 16 hr (fun hr=>?_) fun hr=>?_
       .exact ox 8 hr
       exact cx 7 hr
      exact ox 2 hr
     .refine ieq 8 ?_;cases hr;exact jump4 _ _ rfl rfl
     refine ieq 2 ?_;cases hr;exact jump4 _ _ rfl rfl
    refine bx 2 16 hr (fun c25 hr=>?_) fun c25 hr=>?_
    .refine rn tk 1 rfl ?_;obtain ⟨v26,h27,hr⟩:=zaa hr;refine ug rfl rfl rfl<|cl (w5a _ _ _ h27) rfl rfl ?_;refine bx 3 21 hr (fun c28 hr=>?_) fun c28 hr=>?_
     .refine rn tk 1 rfl ?_;obtain ⟨v29,h30,hr⟩:=zaa hr;refine ug rfl rfl rfl<|cl (w6a _ _ _ h30) rfl rfl ?_;refine bx 3 26 hr (fun c31 hr=>?_) fun c31 hr=>?_
      .refine rn tk 1 rfl ?_;obtain ⟨v32,h33,hr⟩:=zaa hr;refine ug rfl rfl rfl<|cl (Qoa _ _ _ h33) rfl rfl ?_;exact jx 4 hr
      exact jx 6 hr
     exact jx 11 hr
    exact jx 16 hr
   exact jx 21 hr
  exact jx 26 hr
 exact kx 1 hr
theorem VHa(a0:Str)(r:Str × Str × Bool)(hr:jEa a0=some r):Run prog 63 [.s a0] (.tup [.s r.1,.s r.2.1,.bo r.2.2]):=by
 unfold jEa at hr;refine rfx (fn:=f63) func63 fun g0 hg=>?_
 refine clx 10 hr (y8a _ _) fun v1 _ hr=>?_
 refine jq 14 hr [2,3] [] (fun j3=>[(4,.bo j3)]) (fun _=>[]) (fun j3 hr=>?_) (fun j3 hr=>?_)
 .refine bx 5 15 hr (fun c4 hr=>?_) fun c4 hr=>?_
  .refine bx 4 19 hr (fun c5 hr=>?_) fun c5 hr=>?_
   .refine bx 5 24 hr (fun c6 hr=>?_) fun c6 hr=>?_
    .refine rn tk 2 rfl<|ug rfl rfl rfl ?_;refine ctq 0 hr [3,12,13,24] [] (fun j7=>[(27,.bo j7)]) (fun _=>[]) (fun j7 hr jump4=>?_) (fun j7 hr=>?_)
     .refine iq 0 400000 [3,12,13,24] (fn:=f102) ⟨func102,rfl,by kernel_rfl⟩ fun T4 ds4=>?_
      refine aq2 14 hr [0,1,7] [499999,400003,400012,400013,400024] (fun s8=>[(8,.i s8)]) (fun _=>[]) (.exit 0) [] [499999,400003,400012,400013,400024] (fun _=>[]) (fun _=>[]) .ret [4] [499999,400003,400012,400013,400024] (fun _=>[]) (fun _=>[]) (fun s8 x12 hr=>?_) (fun b9 hr=>?_) (fun b10 hr=>?_)
      .unfold j2a at hr;refine ax 6 9 hr (fun hr=>?_) fun hr=>?_
       .refine rn tk 15 rfl ?_;obtain ⟨v14,h15,hr⟩:=zaa hr;refine ws tk h15 rfl rfl rfl rfl ?_;refine iq 0 600000 [0,1,7,8] (fn:=Tryz.f99) ⟨func99,rfl,by kernel_rfl⟩ fun T6 ds6=>?_
        refine jq 5 hr [] [699999,600000,600001,600007,600008,499999,400003,400012,400013,400024] (fun j16=>[(2,.bo j16)]) (fun _=>[]) (fun j16 hr=>?_) (fun j16 hr=>?_)
        .refine clx 2 hr (WKa _) fun v17 _ hr=>?_
         refine bx 1 5 hr (fun c19 hr=>?_) fun c19 hr=>?_
         .exact jx 6 hr
         refine rn tk 1 rfl ?_;obtain ⟨v20,h21,hr⟩:=zaa hr;refine ug rfl rfl rfl<|cl (zNa _ _ _ h21) rfl rfl ?_;exact jx 4 hr
        refine ieq 1 (hO ?_);refine ax 3 16 hr (fun hr=>?_) fun hr=>?_
        .exact ox 8 hr
        exact cx 7 hr
       exact ox 2 hr
      .refine ieq 8 ?_;cases hr;exact jump4 _ _ rfl rfl
      refine ieq 2 ?_;cases hr;exact jump4 _ _ rfl rfl
     refine bx 2 29 hr (fun c23 hr=>?_) fun c23 hr=>?_
     .refine rn tk 1 rfl ?_;obtain ⟨v24,h25,hr⟩:=zaa hr;refine ug rfl rfl rfl<|cl (QZa _ _ h25) rfl rfl ?_;exact jx 5 hr
     exact jx 7 hr
    exact jx 12 hr
   exact jx 17 hr
  exact jx 21 hr
 exact kx 1 hr
theorem Qpa(a0:Str)(r:Bool)(hr:yea a0=some r):Run prog 43 [.s a0] (.bo r):=by
 unfold yea at hr;refine rfx (fn:=f43) func43 fun g0 hg=>?_
 refine clx 8 hr (VHa _) fun v1 _ hr=>?_
 exact kx 16 hr
section
def GS.stop:GS->Bool
 | .code (.cond _ _ _) _ _ _=>true
 | .ops _ (x::_) fr _ _=>(match x.guard with | some _=>true | none=>false)
 | _=>false
def GS.go(T:Tab)(N:Nat):Nat->GS->Option GS
 | 0,g=>some g
 | n+1,g=>match GS.stop g with
  | true=>some g
  | false=>(match GS.step T N g with
   | some g' =>GS.go T N n g'
   | none=>some g)
section
variable {E:Env} {T:Tab} {fr:Fr} {σ:Sto} {k:KS} {ops:Array Oper} {l:List Oper} {V R:Type} {r:R} {A B:Option R} {t:Bool} {g:GS}
end
theorem op_mono2{F:Fence}{n:Nat}{P:Program}{Q Q' :Exit->Act->World->Prop}{o:Oper}{a:Act}{w:World}{K K' :Act->World->Prop}(h:∀a w,K a w->K' a w)(hQ:∀e a w,e≠ .normal->Q e a w->Q' e a w)
 (hh:o.wpIn F n P a w K Q):o.wpIn F n P a w K' Q' :=by
 unfold Oper.wpIn at *;refine ⟨hh.1,?_⟩;have hh:=hh.2;generalize (o.semAt F.round a.eval).run P w=r at *;cases r with
 | ok x w' =>
  cases x <;> simp only[Oper.uponIn]at hh ⊢ <;>
   first
    | exact h _ _ hh
    | exact ⟨hh.1,CallsIn.mono hh.2 (fun e w'' he=>by cases e <;> first | exact h _ _ he | exact hQ _ _ _ (by simp) he | exact he.imp fun _=>Exists.imp fun _=>hQ _ _ _ (by simp))⟩
    | exact ⟨hh.1,RowsIn.mono hh.2 (fun _ _ he=>h _ _ he)⟩
    | exact ⟨hh.1,RoundIn.mono hh.2 (fun e w'' he=>by cases e <;> first | exact h _ _ he | exact hQ _ _ _ (by simp) he | exact he.imp fun _=>Exists.imp fun _=>hQ _ _ _ (by simp))⟩
 | halt x w' =>cases x <;> simp only[Oper.uponIn]at hh ⊢ <;> first | exact hh | exact hQ _ _ _ (by simp) hh
theorem Zrb{F:Fence}{n:Nat}{P:Program}{ops:Array Oper}{Q Q' :Exit->Act->World->Prop}{b:List Oper}(hn:∀a w,Q .normal a w->wpListIn F n P ops Q' b a w)(hQ:∀e a w,e≠ .normal->Q e a w->Q' e a w):∀(l:List Oper) {a:Act} {w:World},wpListIn F n P ops Q l a w->wpListIn F n P ops Q' (l++b) a w
 | [],a,w,h=>hn _ _ h
 | o::l,a,w,h=>by
  rw[List.cons_append];unfold wpListIn at h ⊢;split
  .rw[if_pos ‹_›]at h;exact op_mono2 (fun _ _ h=>Zrb hn hQ l h) hQ h
  rw[if_neg ‹_›]at h;exact ⟨h.1,Zrb hn hQ l h.2⟩
section
variable {E:Env} {T:Tab} {fr:Fr} {σ:Sto} {k:KS} {ops:Array Oper} {l:List Oper} {V R:Type} {r:R}
def PostL(E:Env)(ops:Array Oper)(b:List Oper)(K:Post):Post:=fun e fr σ=>match e with
 | .normal=>AWPL E ops b fr σ K
 | e=>K e fr σ
theorem ywb{b:List Oper}:Mono (PostL E ops b (k.post E)):=fun e fr σ fr' σ' hf hs hk=>by
 cases e <;> first | exact zAb hf hs hk | exact k.mono E _ _ _ _ _ hf hs hk
def spl:List Oper->Option (List Oper × Nat × List Oper)
 | []=>none
 | x::r=>match x.op,x.guard,x.dst with
  | .pick _ _ _,none,some d=>some ([x],d,r)
  | _,_,_=>(match spl r with | some (a,d,b)=>some (x::a,d,b) | none=>none)
theorem spl_eq:∀{l a b:List Oper} {d:Nat},spl l=some (a,d,b)->a++b=l
 | [],a,b,d,h=>by cases h
 | x::r,a,b,d,h=>by
  unfold spl at h;split at h
  .cases h;rfl
  split at h
  .cases h;rw[List.cons_append,spl_eq ‹_›]
  cases h
def gds(ops:Array Oper)(l:List Oper):List Nat:=l.filterMap fun x=>(match x.guard with | some (j,_)=>(ops[j]?).bind (·.dst) | none=>none)
def Fr.less:List Nat->Fr->Fr
 | _,[]=>[]
 | ds,p::r=>match ds.any (Nat.beq p.1) with
  | true=>Fr.less ds r
  | false=>p::Fr.less (p.1::ds) r
theorem jg{X:Option Bool}{f:Bool->Option R}{a b:List Oper}{d:Nat}(hr:X.bind f=some r)(hs:spl l=some (a,d,b))
 (hx:∀j,X=some j->(GS.ops ops a fr σ (.jo (fun j=>(d,.bo j)::fr.less (gds ops a)) (fun _=>σ) (fun z=>j=z) (.base (PostL E ops b (k.post E)) ywb))).holds E) (hy:∀j,f j=some r->(GS.ops ops b ((d,.bo j)::fr.less (gds ops a)) σ k).holds E):(GS.ops ops l fr σ k).holds E:=by
 obtain ⟨j,h1,h2⟩:=zaa hr;rw[<-spl_eq hs];refine ⟨fun g ac hst=>Zrb ?_ ?_ a ((hx j h1).go g ac hst)⟩
 .rintro a w ⟨g',fr',σ',rfl,q2,z,rfl,p1,p2⟩;exact (zAb p1 p2 (hy _ h2)).go g' a q2
 rintro e a w he ⟨g',fr',σ',rfl,q2,q3⟩;refine ⟨g',fr',σ',rfl,q2,?_⟩;cases e <;> first | exact absurd rfl he | exact q3
end
end
section
section
variable {E E' :Env} {T:Tab} {fr:Fr} {σ:Sto} {g:GS} {K:Post} {ops:Array Oper} {rest:List Oper}
theorem rnq(n:Nat){k base2 lid b:Nat}{L L' :Loop}{t:Bool}{T2:Array Value}{ds2:List Deferred}{e:Exit}{fr2:Fr}{σ2:Sto}{hm:Mono (RndK E ops rest k base2 (base2+99999) lid b L T2 ds2 K)}(hr:Qaa L e L' t)
 (h:AWPL E ops rest ((k,.pv (.b (.bool t)))::fr2) σ2 K) (hT:zDa E'.P T:=by exact tk) (hg:GS.run T E'.N n g=some (.at e fr σ (.base (RndK E ops rest k base2 (base2+99999) lid b L T2 ds2 K) hm)):=by exact rfl)
 (hl:σ.get lid=some (.lp b (busy L)):=by exact rfl) (h1:σ.held base2=some fr2:=by exact rfl) (h2:(σ.upd lid (.lp b L')).less base2=some σ2:=by exact rfl)
 (hh:fr2.map (fun p=>σ.get (base2+p.1))=fr2.map (fun p=>some (.hold p.2 (T2.getD p.1 undef))):=by exact rfl) (hsu:σ.get (base2+99999)=some (.sus E.g0.w.heap.size ds2):=by exact rfl)
 (hle:σ2.map (σ.upd lid (.lp b L')).sel=σ2.map (fun p=>some p.2):=by exact rfl):g.holds E' :=
 rn hT n hg (show RndK E ops rest k base2 (base2+99999) lid b L T2 ds2 K e fr σ from rndK hr qia hl (hdw hh) hsu (stw hle) h)
end
end
section
def AV.okV(ks:List Nat):AV->Bool
 | .pv _=>true
 | .ptr o _=>ks.contains o
 | .fn _ first cap=>first.isEmpty && cap.all fun c=>match c with | .ptr o _=>ks.contains o | _=>false
 | _=>false
theorem AV.okV_has{ks:List Nat}{c:AV}{k:Nat}(h:c.okV ks=true)(hk:c.has k=true):k∈ks:=by
 unfold AV.okV at h;split at h
 .simp[AV.has]at hk
 .have:=jAl hk
  simp_all
 .rename_i f first cap;simp only[jAn]at h;obtain ⟨h1,h2⟩:=h;obtain rfl:first=[]:=by simpa using h1
  have hk:AV.hasL k cap=true:=by simpa[AV.has,AV.hasL]using hk
  obtain ⟨c,hc,hck⟩:=AV.hasL_mem hk;have h3:=jAp.1 h2 c hc;split at h3
  .have:=jAl hck
   simp_all
  cases h3
 cases h
def AO.okV(ks:List Nat)(o:Nat):AO->Bool
 | .cells cs=>ks.contains o && cs.all (AV.okV ks)
 | .hold c _=>c.okV ks
 | .lp _ _=>true
 | _=>false
def AO.isC:AO->Bool
 | .cells _=>true
 | _=>false
def AO.lpb:AO->Option Nat
 | .lp b _=>some b
 | _=>none
def hps(pv:Nat->Value)(ks:List Nat):Sto:=ks.map fun k=>(k+70000000,.hold (.ptr k 0) (pv k))
theorem vLb{pv:Nat->Value}{o:Nat}{ob:AO}:∀{ks:List Nat},Sto.get (hps pv ks) o=some ob->∃k∈ks,o=k+70000000/\ob=.hold (.ptr k 0) (pv k)
 | [],h=>by cases h
 | k::ks,h=>by
  simp only[hps,jDm,Sto.get_cons]at h;split at h
  .rename_i e;cases h;exact ⟨k,List.mem_cons_self ..,e.symm,rfl⟩
  obtain ⟨k',h1,h2⟩:=vLb h;exact ⟨k',List.mem_cons_of_mem _ h1,h2⟩
theorem Zsb{pv:Nat->Value}{k:Nat}:∀{ks:List Nat},k∈ks->Sto.get (hps pv ks) (k+70000000)=some (.hold (.ptr k 0) (pv k))
 | k' ::ks,h=>by
  simp only[hps,jDm,Sto.get_cons];by_cases e:k' =k
  .subst e;simp
  rw[if_neg (by omega)];exact Zsb (by simp_all [Ne.symm])
structure RunN {β:Type} (P:Program) (f:FuncId) (args:List AV) (σ0:Sto) (Φ:β->Prop) (r:β->AV) (σ1:β->Sto):Prop where
 ok:∃fn c,FnOk P f fn c
 cover:∀x o ob,σ0.get o=some ob->∃ob',(σ1 x).get o=some ob'
 same:∀x o ob,(σ1 x).get o=some ob->∃ob0,σ0.get o=some ob0/\∀l b,ob.own l b->ob0.own l b
 run:∀g vs,Wf g->Gl g->Own g σ0->wma g args vs->CallsIn (fen none) 0 P f vs g.w fun e w' =>∃(x:β) (g' :G) (v:Value),Φ x/\g'.w=w' /\g'.loc=g.loc/\Old (SB g σ0) g g' /\Wf g' /\e=.returned v/\Rel g' (r x) v/\
  ∀o ob,(σ1 x).get o=some ob->RelO g' o ob
abbrev RunV(P:Program)(f:FuncId)(args:List AV)(σ0:Sto)(r:AV)(σ1:Sto):Prop:=RunN (β:=Unit) P f args σ0 (fun _=>True) (fun _=>r) (fun _=>σ1)
variable {P:Program} {σ:Sto} {ty:TypeId} {pos:String} {af:Array Edge} {gu:Option (Nat × Bool)} {E:Env} {fr:Fr} {K:Post}
structure OpToN (E:Env) (o:Oper) (fr:Fr) (σ:Sto) (R:Fr->Sto->Prop):Prop where
 go:∀g a (K:Act->World->Prop) (Q:Exit->Act->World->Prop),St E g a fr σ->(∀g' a' fr' σ',R fr' σ' ->St E g' a' fr' σ' ->K a' g'.w)->o.wpIn (fen E.rd) 0 E.P a g.w K Q
theorem awpl_opN{ops:Array Oper}{o:Oper}{rest:List Oper}{R:Fr->Sto->Prop}(hg:o.guard=none)(ho:OpToN E o fr σ R)(h:∀fr' σ',R fr' σ' ->AWPL E ops rest fr' σ' K):AWPL E ops (o::rest) fr σ K:=
 ⟨fun g a hs=>by
  have hw:Region.wanted o (yielded ops a.tmps)=true:=by simp[Region.wanted,hg]
  simp only[wpListIn,hw,if_true];exact ho.go g a _ _ hs fun g' a' fr' σ' hR hst=>(h fr' σ' hR).go g' a' hst⟩
theorem yxb{β:Type}{Φ:β->Prop}{f:FuncId}{k:Nat}{fx:Operand}{xs:List Operand}{ats:Array TypeId}{first cap args:List AV}{r:β->AV}{σ0:Sto}{σ1:β->Sto}(hr:RunN E.P f args σ0 Φ r σ1)(hN:Nat.ble (k+1) E.N=true)(hf:fr.ev fx=.fn (.func f) first cap)(ha:first++xs.map (fun x=>(fr.ev x).weak)++cap=args)(hle:zTa σ σ0):
 OpToN E ⟨some k,.call ⟨.value fx,xs.toArray,ats⟩,ty,pos,af,gu⟩ fr σ (fun fr' σ' =>∃x,Φ x/\fr' =(k,r x)::fr/\σ' =σ1 x++σ.dels ((σ1 x).map (·.1))):=
 ⟨fun g a K Q hst hK=>by
  obtain ⟨fn,c,hok⟩:=hr.ok;refine ⟨fun _ _=>trivial,?_⟩;have hfv:=hst.ev fx;rw[hf]at hfv;generalize hev:a.eval fx=fv at hfv;cases hfv with
  | @fn _ _ _ firstV capV l1 l2 r1 r2=>
   rw[jAz _ _ _ (fun c=>by simp),vFa hok hev,jDd];refine ⟨fun h=>by simp[fen]at h,?_⟩;have hargs:wma g args (firstV++xs.toArray.map a.eval++capV):=by
    subst ha;refine ⟨by simp_all,fun i c' hi=>?_⟩;rw[jAg];rcases jAu i (first.length+xs.length) with hlt | hge
    .rw[jAw (by simp_all)];rw[jAy (by grind)]at hi;rcases jAu i first.length with hlt2 | hge2
     .rw[jAw (by omega),<-jAg]
      grind
     rw[jCs (by omega),l1];rw[jAq hge2]at hi;simp only[jAk,jAh]at hi;obtain ⟨x,hx,rfl⟩:=hi;have:=qUa (hst.ev x)
     simp_all
    rw[jCs (by simp_all)];rw[jAq (by grind)]at hi
    simp_all
   have hsb:∀b,SB g σ0 b->b < g.w.heap.size/\(E.g0.w.heap.size<=b∨E.S b):=by
    rintro b ⟨o,ob,h1,h2⟩;obtain ⟨ob',h3,h4⟩:=hle.some h1;rw[<-h4]at h2;exact ⟨(hst.so.obj o ob' h3).block_lt h2,hst.so.mine o ob' b h3 h2⟩
   have hown:Own g σ0:=⟨hle.obj hst.so.obj,fun o o' ob ob' b h1 h2 h3 h4=>by
    obtain ⟨_,p1,e1⟩:=hle.some h1;obtain ⟨_,p2,e2⟩:=hle.some h2;rw[<-e1]at h3;rw[<-e2]at h4;exact hst.so.apart o o' _ _ b p1 p2 h3 h4,fun o ob b h1 h2 hb=>by
    rcases (hsb b ⟨o,ob,h1,h2⟩).2 with h3 | h3
    .have:=gl_lt E.gl hb;omega
    exact E.sg b hb h3⟩
   refine (vEa (hr.run g _ hst.so.wf (E.glOf hst.so) hown hargs)).mono ?_;rintro e w' ⟨z,g',v,hz,rfl,hl,ho,hw,rfl,hv,hobj⟩;have hget:∀o ob,Sto.get (σ1 z++σ.dels ((σ1 z).map (·.1))) o=some ob->(σ1 z).get o=some ob∨((σ1 z).get o=none/\σ.get o=some ob):=by
    intro o ob hg;rw[Sto.get_append]at hg;cases h1:(σ1 z).get o with
    | some x=>simp_all
    | none=>
     rw[h1,Option.none_or,Sto.get_dels]at hg;split at hg
     .cases hg
     exact .inr ⟨rfl,hg⟩
   have hbefore:∀o ob b,Sto.get (σ1 z++σ.dels ((σ1 z).map (·.1))) o=some ob->ob.own (g'.loc o) b->∃ob1,σ.get o=some ob1/\ob1.own (g.loc o) b:=by
    intro o ob b h1 h2;rw[hl]at h2;rcases hget o ob h1 with h1 | ⟨_,h1⟩
    .obtain ⟨ob0,h3,h4⟩:=hr.same z o ob h1;obtain ⟨ob',h5,h6⟩:=hle.some h3;exact ⟨ob',h5,(h6 _)▸h4 _ _ h2⟩
    exact ⟨ob,h1,h2⟩
   have hst' :St E g' a fr (σ1 z++σ.dels ((σ1 z).map (·.1))):=by
    refine ⟨fun d=>(hst.fr d).mono ho.ext fun k _=>by rw[hl],hst.n,hst.df.mono ho.ext,⟨?_,?_,?_,?_,hw⟩⟩
    .intro o ob hg;rcases hget o ob hg with h1 | ⟨hno,ho1⟩
     .exact hobj o ob h1
     have hro:=hst.so.obj o ob ho1;refine hro.mono ho.ext (by rw[hl]) (fun _ _=>by rw[hl]) fun b hb=>ho.block b (hro.block_lt hb) ?_
     rintro ⟨o2,ob2,h2,hb2⟩;obtain ⟨ob3,h3,e3⟩:=hle.some h2;rw[<-e3]at hb2;obtain rfl:=hst.so.apart o o2 _ _ b ho1 h3 hb hb2;obtain ⟨x,hx⟩:=hr.cover z _ _ h2
     simp_all
    .intro o o' ob ob' b h1 h2 h3 h4;obtain ⟨ob1,p1,p2⟩:=hbefore o ob b h1 h3;obtain ⟨ob2,p3,p4⟩:=hbefore o' ob' b h2 h4;exact hst.so.apart o o' _ _ b p1 p3 p2 p4
    .intro o ob b h1 h2;obtain ⟨ob1,p1,p2⟩:=hbefore o ob b h1 h2;exact hst.so.mine o ob1 b p1 p2
    refine hst.so.old.trans (ho.mono fun b _ hb=>?_)
    grind
   exact hK g' _ _ _ ⟨z,hz,rfl,rfl⟩ (hst'.put (jAf hN) hv)⟩
theorem cvN{β:Type}{Φ:β->Prop}{f:FuncId}{k:Nat}{fx:Operand}{xs:List Operand}{ats:Array TypeId}{first cap args:List AV}{r:β->AV}{σ0:Sto}{σ1:β->Sto}{ops:Array Oper}{rest:List Oper}{kk:KS}(hr:RunN E.P f args σ0 Φ r σ1)(hN:Nat.ble (k+1) E.N=true)(hf:fr.ev fx=.fn (.func f) first cap)(ha:first++xs.map (fun x=>(fr.ev x).weak)++cap=args)(hle:zTa σ σ0)
 (h:∀x,Φ x->(GS.ops ops rest ((k,r x)::fr) (σ1 x++σ.dels ((σ1 x).map (·.1))) kk).holds E):(GS.ops ops (⟨some k,.call ⟨.value fx,xs.toArray,ats⟩,ty,pos,af,none⟩::rest) fr σ kk).holds E:=
 awpl_opN rfl (yxb hr hN hf ha hle) (by rintro _ _ ⟨x,hx,rfl,rfl⟩;exact h x hx)
def yyb(P:Program)(fn:Func)(r:AV)(pv:Nat->Value)(ks:List Nat)(σ1:Sto):Post:=fun e fr σ=>(e=.ret∨e=.normal)/\(∃cs,ResL P fr σ fn.results.toList cs/\Vaa cs=r)/\zTa σ (hps pv ks++σ1)
theorem yzb{fn:Func}{r:AV}{pv:Nat->Value}{ks:List Nat}{σ1:Sto}:Mono (yyb P fn r pv ks σ1):=fun x fr σ fr' σ' hf hs ⟨h1,⟨cs,h2,h2'⟩,h3⟩=>⟨h1,⟨cs,h2.le hf hs,h2'⟩,kKa hs h3⟩
theorem vMb{f:FuncId}{fn:Func}{c:Code}(hok:FnOk P f fn c){args:List AV}{r:AV}{σ0 σ1:Sto}(ks:List Nat)(hN:Nat.ble args.length fn.ntmps=true)(hr:∀k,r.has k=false)
 (hc:ks.map (fun k=>(σ0.get k).map AO.isC)=ks.map (fun _=>some true)) (h0:σ0.all (fun p=>Nat.ble (p.1+1) 70000000)=true) (h1k:σ1.all (fun p=>Nat.ble (p.1+1) 70000000)=true) (h1:σ1.all (fun p=>p.2.okV ks p.1)=true)
 (hcov:σ0.map (fun p=>(σ1.get p.1).isSome)=σ0.map (fun _=>true)) (hlp:σ1.map (fun p=>(σ0.get p.1).map AO.lpb)=σ1.map (fun p=>some p.2.lpb))
 (h:∀g0 (hg:Gl g0) (S:Nat->Prop) (sg:∀k,GlB k->¬S k) (pv:Nat->Value),AWP ⟨P,none,g0,fn.ntmps,false,hg,S,sg⟩ c (z0a 0 args) (hps pv ks++σ0) (yyb P fn r pv ks σ1)):RunV P f args σ0 r σ1:=by
 have cov:∀o ob,σ0.get o=some ob->∃ob',σ1.get o=some ob' :=fun o ob ho=>by
  have:=jCx.1 hcov _ (Sto.get_mem ho);exact Option.isSome_iff_exists.1 this
 have lps:∀o ob,σ1.get o=some ob->∃ob0,σ0.get o=some ob0/\ob0.lpb=ob.lpb:=fun o ob ho=>by
  have:=jCx.1 hlp _ (Sto.get_mem ho);simpa[jAh]using this
 have oks:∀o ob,σ1.get o=some ob->ob.okV ks o=true/\o+1<=70000000:=fun o ob ho=>⟨jAp.1 h1 _ (Sto.get_mem ho),jAf (jAp.1 h1k _ (Sto.get_mem ho))⟩
 have cel:∀k∈ks,∃cs,σ0.get k=some (.cells cs):=fun k hk=>by
  have:=jCx.1 hc _ hk;cases hg:σ0.get k with
  | none=>simp[hg]at this
  | some ob=>cases ob <;> simp_all [AO.isC]
 have same:∀o ob,σ1.get o=some ob->∃ob0,σ0.get o=some ob0/\∀l b,ob.own l b->ob0.own l b:=fun o ob ho=>by
  obtain ⟨ob0,p1,p2⟩:=lps o ob ho;refine ⟨ob0,p1,fun l b hb=>?_⟩;have hk:=(oks o ob ho).1;cases ob with
  | cells cs=>
   simp only[AO.okV,jAn]at hk;obtain ⟨cs0,e⟩:=cel o (wbb hk.1);rw[p1]at e;cases e;exact hb
  | hold=>cases hb
  | lp b' L=>
   cases ob0 <;> simp[AO.lpb]at p2
   exact hb
  | _=>cases hk
 refine ⟨⟨fn,c,hok⟩,fun _=>cov,fun _=>same,fun g vs hw hgl hown ⟨hsz,ha⟩=>?_⟩;have hN:=jAf hN;let pv:Nat->Value:=fun k=>match g.loc k with | .blk b=>.pointer (some ⟨b,0,none⟩) | _=>undef
 have hpv:∀k∈ks,Rel g (.ptr k 0) (pv k):=fun k hk=>by
  obtain ⟨cs,hcs⟩:=cel k hk;cases hown.obj k _ hcs with
  | cells q1=>show Rel g _ (match g.loc k with | .blk b=>_ | _=>_);rw[q1];exact .ptr q1
 have hget0:∀o ob,Sto.get (hps pv ks++σ0) o=some ob->(∃k∈ks,o=k+70000000/\ob=.hold (.ptr k 0) (pv k))∨σ0.get o=some ob:=by
  intro o ob ho;rw[Sto.get_append]at ho;cases h2:Sto.get (hps pv ks) o with
  | none=>rw[h2,Option.none_or]at ho;exact .inr ho
  | some x=>rw[h2,Option.some_or]at ho;cases ho;exact .inl (vLb h2)
 refine callsIn_of_wp_marks hok.f hok.b trivial<|wpIn_mono ((h g hgl (SB g σ0) (fun k hk ⟨o,ob,h1,h2⟩=>hown.low o ob k h1 h2 hk) pv).go g _ ⟨fun d=>?_,by grind,⟨Dok.nil _ _,fun _=>rfl⟩,⟨?_,?_,?_,Old.refl _ g,hw⟩⟩) ?_
 .rw[q9a];simp only[jBi,if_true,jDp];cases hc:args[d]? with
  | none=>exact .any _
  | some c=>
   have hlt:d < vs.size:=by rw[hsz];exact (jAd.1 hc).1
   have:=ha d c hc;rw[jAg,jAw hlt,<-jAg]
   grind
 .intro o ob ho;rcases hget0 o ob ho with ⟨k,hk,rfl,rfl⟩ | ho
  .exact .hold (hpv k hk)
  exact hown.obj o ob ho
 .intro o o' ob ob' b h1 h2 h3 h4;rcases hget0 o ob h1 with ⟨k,hk,rfl,rfl⟩ | h1
  .cases h3
  rcases hget0 o' ob' h2 with ⟨k,hk,rfl,rfl⟩ | h2
  .cases h4
  exact hown.apart o o' ob ob' b h1 h2 h3 h4
 .intro o ob b h1 h2;rcases hget0 o ob h1 with ⟨k,hk,rfl,rfl⟩ | h1
  .cases h2
  exact .inr ⟨o,ob,h1,h2⟩
 rintro e a w' ⟨g',fr',σ',rfl,hst,he,⟨cs,hres,rfl⟩,hle⟩;obtain ⟨bs,hds,hnd,hbs⟩:=hst.df.ok;have hg1:∀o ob,σ1.get o=some ob->Sto.get (hps pv ks++σ1) o=some ob:=by
  intro o ob ho;rw[Sto.get_append];cases h2:Sto.get (hps pv ks) o with
  | none=>simpa using ho
  | some x=>
   obtain ⟨k,_,e,_⟩:=vLb h2;have:=(oks o ob ho).2;omega
 have hro:∀o ob,σ1.get o=some ob->RelO g' o ob:=fun o ob ho=>hle.obj hst.so.obj o ob (hg1 o ob ho)
 have hloc:∀k∈ks,g'.loc k=g.loc k:=by
  intro k hk;have hh:=hle (k+70000000) (.hold (.ptr k 0) (pv k)) (by rw[Sto.get_append,Zsb hk];rfl);have hh:σ'.get (k+70000000)=some (.hold (.ptr k 0) (pv k)):=by
   rcases hh with hh | ⟨cs,_,hh⟩
   .exact hh
   cases hh
  have h1:=hst.so.obj _ _ hh;have h2:=hpv k hk;generalize pv k=v at h1 h2;cases h1 with
  | hold h1=>
   cases h1 with
   | ptr q1=>cases h2 with
    | ptr q2=>rw[q1,q2]
 have key:∀w',Took g'.w bs w' ->∃v,(results fn a.tmps).run P w' =.ok v w' /\∃(z:Unit) (g'' :G) (v' :Value),True/\g''.w=w' /\g''.loc=g.loc/\Old (SB g σ0) g g'' /\Wf g'' /\Ending.returned v=.returned v' /\Rel g'' (Vaa cs) v' /\∀o ob,σ1.get o=some ob->RelO g'' o ob:=by
  intro w' ht;have hkeep:∀(k:Nat) (x:Obj),g'.w.heap[k]? =some x->(∀y,x≠ .deferred y)->w'.heap[k]? =g'.w.heap[k]? :=by
   intro k x hk hx;refine ht.block k fun hxb=>?_
   rw[(hbs k hxb).2]at hk;cases hk;exact hx _ rfl
  have hx0:Ext0 g'.w g'.u w' g'.u:=⟨jBm ht.size.symm,fun _ _=>jAm _,fun k i hk hi=>by
   by_cases hkb:k∈bs
   .simp[World.cell?,(hbs k hkb).2,ht.took k hkb]
   simp only[World.cell?];rw[ht.block k hkb]⟩
  obtain ⟨v,h1,h2⟩:=Zsa (P:=P) (g:=⟨w',g'.u,g'.loc⟩) hres (fun d=>(hst.fr d).mono0 hx0 (fun _ _=>rfl)) (fun k cs' hk=>by
   cases hst.so.obj k _ hk with
   | cells q1 q2 q3 q4 q5 q6=>exact .cells q1 ((hkeep _ _ q2 (by simp)).trans q2) q3 q4 q5 fun i c hi=>(q6 i c hi).mono0 hx0 (fun _ _=>rfl))
  refine ⟨v,h1,(),⟨w',g'.u,g.loc⟩,v,trivial,rfl,rfl,⟨ht.os.trans hst.so.old.os,ht.tape.trans hst.so.old.tape,ht.output.trans hst.so.old.output,⟨by rw[ht.size];exact hst.so.old.ext.size,hst.so.old.ext.pub,fun k i hk hi=>?_,fun r' hr' =>?_⟩,fun k hk hs=>⟨?_,(hst.so.old.block k hk hs).2⟩⟩,fun k hk=>hst.so.wf k (by rw[<-ht.size];exact hk),rfl,
   Rel.mono (g:=⟨w',g'.u,g'.loc⟩) (g' :=⟨w',g'.u,g.loc⟩) (Ext.refl w' g'.u) h2 (fun k hk=>by rw[hr k]at hk;cases hk),?_⟩
  .have hkb:k ∉ bs:=fun hx=>by grind
   simp only[World.cell?];rw[ht.block k hkb];exact hst.so.old.ext.cell k i hk hi
  .have hkb:r' ∉ bs:=fun hx=>by
    have q1:g.w.heap.size<=r' :=(hbs r' hx).1;have q2:=zVa hr';omega
   rw[ht.block r' hkb];exact hst.so.old.ext.df r' hr'
  .have hkb:k ∉ bs:=fun hx=>by grind
   rw[ht.block k hkb];exact (hst.so.old.block k hk hs).1
  intro o ob ho;have h3:=hro o ob ho;have hk:=(oks o ob ho).1;cases h3 with
  | @cells cs b t vs q1 q2 q3 q4 q5 q6=>
   simp only[AO.okV,jAn]at hk;exact .cells (by rw[<-q1];exact (hloc o (wbb hk.1)).symm) ((hkeep _ _ q2 (by simp)).trans q2) q3 q4 q5 fun i c hi=>(q6 i c hi).mono0 hx0 fun k hck=>(hloc k (AV.okV_has (jAp.1 hk.2 c (jAi hi)) hck)).symm
  | hold q1=>exact .hold (q1.mono0 hx0 fun k hck=>(hloc k (AV.okV_has hk hck)).symm)
  | @lp L b q1 q2=>
   obtain ⟨ob0,p1,p2⟩:=lps o _ ho;cases ob0 <;> simp[AO.lpb]at p2
   subst p2;cases hown.obj o _ p1 with
   | lp r1 r2=>exact .lp r1 ((hkeep _ _ q2 (by simp)).trans q2)
  | _=>cases hk
 rcases he with rfl | rfl
 .show LeavesInM _ _ _ _ _ _ _ _ _;rw[hds];exact kZa bs g'.w hnd (fun r' hr' =>(hbs r' hr').2) key
 show LeavesInM _ _ _ _ _ _ _ _ _;rw[hds];exact kZa bs g'.w hnd (fun r' hr' =>(hbs r' hr').2) key
def lbl{α β:Type}:α ⊕ β->Bool
 | .inl _=>true
 | .inr _=>false
theorem rfV{f:FuncId}{fn:Func}{c:Code}(ks:List Nat){args:List AV}{r:AV}{σ0 σ1:Sto}(hok:FnOk P f fn c)(hN:Nat.ble args.length fn.ntmps=true)(hr:∀k,r.has k=false)
 (hc:ks.map (fun k=>(σ0.get k).map AO.isC)=ks.map (fun _=>some true)) (h0:σ0.all (fun p=>Nat.ble (p.1+1) 70000000)=true) (h1k:σ1.all (fun p=>Nat.ble (p.1+1) 70000000)=true) (h1:σ1.all (fun p=>p.2.okV ks p.1)=true)
 (hcov:σ0.map (fun p=>(σ1.get p.1).isSome)=σ0.map (fun _=>true)) (hlp:σ1.map (fun p=>(σ0.get p.1).map AO.lpb)=σ1.map (fun p=>some p.2.lpb))
 (h:∀g0 (hg:Gl g0) (S:Nat->Prop) (sg:∀k,GlB k->¬S k) (pv:Nat->Value),(GS.code c (z0a 0 args) (hps pv ks++σ0) (.base (yyb P fn r pv ks σ1) yzb)).holds ⟨P,none,g0,fn.ntmps,false,hg,S,sg⟩):RunV P f args σ0 r σ1:=
 vMb hok ks hN hr hc h0 h1k h1 hcov hlp h
theorem krV(n:Nat){T:Tab}{g:GS}{e:Exit}{fn:Func}{cs:List AV}{r:AV}{pv:Nat->Value}{ks:List Nat}{σ1:Sto}{hm:Mono (yyb P fn r pv ks σ1)}(hT:zDa E.P T:=by exact tk)(hg:GS.run T E.N n g=some (.at e fr σ (.base (yyb P fn r pv ks σ1) hm)):=by exact rfl)
 (hP:P=E.P:=by exact rfl) (he:isR e=true:=by exact rfl) (h:Qja T fr σ fn.results.toList=some cs:=by exact rfl) (hr:Vaa cs=r:=by exact rfl) (hs:(hps pv ks++σ1).map σ.sel=(hps pv ks++σ1).map (fun p=>some p.2):=by exact rfl):g.holds E:=
 rn hT n hg (show yyb P fn r pv ks σ1 e fr σ from ⟨by cases e <;> simp_all [isR],⟨cs,yla (hP▸hT) h,hr⟩,stw hs⟩)
theorem itq(n:Nat)(os:List Nat){E' :Env}{T:Tab}{g:GS}{base lid b:Nat}{L L' :Loop}{Tm:Array Value}{ds:List Deferred}{e:Exit}{fr2:Fr}{σ2:Sto}{hm:Mono (ItrK E base (base+99999) lid b L Tm ds K)}(h:Ypa E K L fr2 σ2 L')
 (hT:zDa E'.P T:=by exact tk) (hg:GS.run T E'.N n g=some (.at e fr σ (.base (ItrK E base (base+99999) lid b L Tm ds K) hm)):=by exact rfl) (he:isR e=true:=by exact rfl)
 (hl:σ.get lid=some (.lp b L'):=by exact rfl) (h1:σ.held base=some fr2:=by exact rfl) (h2:σ.px os=some σ2:=by exact rfl)
 (hh:fr2.map (fun p=>σ.get (base+p.1))=fr2.map (fun p=>some (.hold p.2 (Tm.getD p.1 undef))):=by exact rfl) (hsu:σ.get (base+99999)=some (.sus E.g0.w.heap.size ds):=by exact rfl)
 (hle:σ2.map σ.sel=σ2.map (fun p=>some p.2):=by exact rfl) (hn:σ2.get lid=none:=by exact rfl):g.holds E' :=
 rn hT n hg (show ItrK E base (base+99999) lid b L Tm ds K e fr σ from itrK (fr' :=fr) (by cases e <;> simp_all [isR]) qia hl (hdw hh) hsu (stw hle) hn h)
end
section
def PV.flat:PV->Bool
 | .b _=>true
 | _=>false
def AV.flat1:AV->Bool
 | .pv p=>p.flat
 | .hs _ _=>true
 | _=>false
def AV.flat2:AV->Bool
 | .agg l=>l.all AV.flat1
 | c=>c.flat1
def AV.flat:AV->Bool
 | .tup l=>l.all AV.flat2
 | c=>c.flat2
section
variable {g g' :G} {c:AV} {v:Value}
theorem qwb{w:World}{u u' :Nat->Nat}{p:PV}{v:Value}(hp:p.flat=true)(h:RelP w u p v):RelP w u' p v:=by
 cases h with
 | b hv=>exact .b hv
 | sl=>cases hp
theorem qxb(hw:g'.w=g.w)(hl:g'.loc=g.loc)(hc:c.flat1=true)(h:Rel g c v):Rel g' c v:=by
 cases h with
 | pv h=>exact .pv (by rw[hw];exact qwb hc h)
 | hsNil a h=>exact .hsNil a (by rw[hl];exact h)
 | hs h ha=>exact .hs (by rw[hl];exact h) ha
 | _=>cases hc
theorem qyb(hw:g'.w=g.w)(hl:g'.loc=g.loc)(hc:c.flat2=true)(h:Rel g c v):Rel g' c v:=by
 unfold AV.flat2 at hc;split at hc
 .cases h with
  | agg h1 h2 h3=>exact .agg h1 h2 fun i c hi=>qxb hw hl (jAp.1 hc c (jAi hi)) (h3 i c hi)
 exact qxb hw hl hc h
theorem rel_flat(hw:g'.w=g.w)(hl:g'.loc=g.loc)(hc:c.flat=true)(h:Rel g c v):Rel g' c v:=by
 unfold AV.flat at hc;split at hc
 .cases h with
  | tup h1 h3=>exact .tup h1 fun i c hi=>qyb hw hl (jAp.1 hc c (jAi hi)) (h3 i c hi)
 exact qyb hw hl hc h
end
theorem runS_mu0{P:Program}{f:FuncId}{args:List AV}{r:AV}{e:TypeId}{size R O:Nat}{rows:List Nat}{E:List (List PV)}(h:RunS P f args [] r [(R,.row e false size E)] O rows)(hr:r.flat=true)
 (hF:∀x∈E,∀c∈x,c.flat=true):RunS P f args [] r [(R,.row e true size E)] O rows:=by
 have hget:∀{mu:Bool} {E:List (List PV)} {o:Nat} {ob:AO},Sto.get [(R,.row e mu size E)] o=some ob->o=R/\ob=.row e mu size E:=by
  intro mu E o ob ho;have:=jCd.1 (Sto.get_mem ho);cases this;exact ⟨rfl,rfl⟩
 have hself:∀{mu:Bool},Sto.get [(R,.row e mu size E)] R=some (.row e mu size E):=by intro mu;simp[Sto.get]
 refine ⟨h.ok,h.ok0,h.ok1,fun g vs hw hg ho ha=>(h.run g vs hw hg ho ha).mono ?_⟩;rintro e' w' ⟨g',v,rfl,hl,hold,hwf,rfl,hrel,hobj, -,hmine⟩;have hR:=hobj R _ hself;cases hR with
 | nil hn=>
  refine ⟨g',v,rfl,hl,hold,hwf,rfl,hrel,fun o ob ho=>?_,fun o o' ob ob' b h1 h2 _ _=>(hget h1).1.trans (hget h2).1.symm,fun o ob b h1 h2=>?_⟩
  .obtain ⟨rfl,rfl⟩:=hget ho;exact .nil hn
  obtain ⟨rfl,rfl⟩:=hget h1;exact hmine _ _ b hself h2
 | @row _ _ _ _ b off cap vs h1 h2 h3 h4 h5 h6 h7 h8 h9=>
  have hb:g.w.heap.size<=b:=by
   rcases hmine R _ b hself (by show (g'.loc R).block=some b;rw[h1];rfl) with hb | ⟨o,ob,hx,_⟩
   .exact hb
   cases hx
  refine ⟨⟨g'.w,fun k=>if k=b then 0 else g'.u k,g'.loc⟩,v,rfl,hl,⟨hold.os,hold.tape,hold.output,⟨hold.ext.size,fun k hk=>?_,hold.ext.cell,hold.ext.df⟩,fun k hk hs=>?_⟩,fun k hk=>?_,rfl,rel_flat (g:=g') rfl rfl hr hrel,fun o ob ho=>?_,fun o o' ob ob' b h1 h2 _ _=>(hget h1).1.trans (hget h2).1.symm,fun o ob b h1 h2=>?_⟩
  .show g.u k<=if k=b then 0 else g'.u k;rw[if_neg (by omega)];exact hold.ext.pub k hk
  .show _/\(if k=b then 0 else g'.u k)=_;rw[if_neg (by omega)];exact hold.block k hk hs
  .show (if k=b then 0 else g'.u k)=0;split
   .rfl
   exact hwf k hk
  .obtain ⟨rfl,rfl⟩:=hget ho;refine .row h1 h2 h3 h4 h5 h6 (by show (if b=b then 0 else _)<=_;rw[if_pos rfl];exact jBi _) (fun _=>by show (if b=b then 0 else _)=0;rw[if_pos rfl]) fun i j x c hi hj=>qwb (hF x (jAi hi) c (jAi hj)) (h9 i j x c hi hj)
  obtain ⟨rfl,rfl⟩:=hget h1;exact hmine _ _ b hself h2
theorem runS_mu{α:Type}{F:α->List PV}{P:Program}{f:FuncId}{args:List AV}{r:AV}{e:TypeId}{size R O:Nat}{rows:List Nat}{l:List α}(h:RunS P f args [] r [(R,.row e false size (l.map F))] O rows)(hr:r.flat=true)
 (hF:∀x,(F x).all PV.flat=true:=by exact fun _=>rfl):RunS P f args [] r [(R,.row e true size (l.map F))] O rows:=
 runS_mu0 h hr fun x hx c hc=>by
  obtain ⟨y,_,rfl⟩:=jCe.1 hx;exact jAp.1 (hF y) c hc
theorem ev_len0{P:Program}{ρ:Operand->AV}{σ:Sto}{x:Operand}{nl:Option Bool}{t e ty:TypeId}{dst:Option Tmp}{pos:String}{af:Array Edge}{gu:Option (Nat × Bool)}(hx:ρ x=.pv (.sl nl []))(ht:P.underlying t=some (.slice e)):EvQ P ⟨dst,.call ⟨.builtin .len, #[x], #[t]⟩,ty,pos,af,gu⟩ ρ σ (.i 0):=
 VRa (f:=fun _:Unit=>[]) (l:=[]) hx ht
theorem St.dropc{E:Env}{fr:Fr}{σ:Sto}{g:G}{a:Act}(o:Nat)(h:St E g a fr σ):St E g a (fr.clrs [o]) ((σ.clrs [o]).dels [o]):=by
 have hget:∀o' ob,((σ.clrs [o]).dels [o]).get o' =some ob->o' ∉ [o]/\∃ob1,σ.get o' =some ob1/\ob=ob1.clrs [o]:=by
  intro o' ob ho;rw[Sto.get_dels]at ho;split at ho
  .cases ho
  rename_i hn;rw[Sto.get_clrs,jAh]at ho;obtain ⟨ob1,h1,rfl⟩:=ho;exact ⟨hn,ob1,h1,rfl⟩
 refine ⟨fun d=>?_,h.n,h.df,⟨fun o' ob ho=>?_,fun o1 o2 ob1 ob2 b h1 h2 h3 h4=>?_,fun o' ob b h1 h2=>?_,h.so.old,h.so.wf⟩⟩
 .rw[Fr.get_clrs];exact W9a (Ext.refl _ _) (fun _ _=>rfl) (h.fr d)
 .obtain ⟨hn,ob1,h1,rfl⟩:=hget o' ob ho;exact kGb (h.so.obj o' ob1 h1) (Ext.refl _ _) (fun _ _=>rfl) hn fun _ _=>⟨rfl,rfl⟩
 .obtain ⟨_,p1,q1,rfl⟩:=hget o1 ob1 h1;obtain ⟨_,p2,q2,rfl⟩:=hget o2 ob2 h2;rw[AO.own_clrs]at h3 h4;exact h.so.apart o1 o2 p1 p2 b q1 q2 h3 h4
 obtain ⟨_,p1,q1,rfl⟩:=hget o' ob h1;rw[AO.own_clrs]at h2;exact h.so.mine o' p1 b q1 h2
theorem qzb{E:Env}{fr:Fr}{σ:Sto}{K:Post}{c:Code}(o:Nat)(h:AWP E c (fr.clrs [o]) ((σ.clrs [o]).dels [o]) K):AWP E c fr σ K:=⟨fun g a hst=>h.go g a (hst.dropc o)⟩
theorem zcb{E:Env}{fr:Fr}{σ:Sto}{K:Post}{ops:Array Oper}{ol:List Oper}(o:Nat)(h:AWPL E ops ol (fr.clrs [o]) ((σ.clrs [o]).dels [o]) K):AWPL E ops ol fr σ K:=⟨fun g a hst=>h.go g a (hst.dropc o)⟩
end
theorem KDa(a0:Str)(r:Str)(hr:wra a0=some r):Run prog 87 [.s a0] (.s r):=by
 unfold wra at hr;refine rfx (fn:=f87) func87 fun g0 hg=>?_
 refine rn tk 8 rfl<|wo (wWb (k:=7) (s:=a0) 1007 rfl rfl rfl rfl zoa zra zxa) rfl<|rn tk 7 rfl<|wq (jpb (l:=a0) rfl rfl zra.u) rfl rfl rfl ?_;refine aq1 4 hr [3,8,9] [] (fun s1=>[(10,.i s1.1)]) (fun s1=>[(1007,.buf s1.2)]) (.exit 0) [3] [] (fun _=>[]) (fun b2=>[(1007,.buf b2)]) (fun s1 x3 hr=>?_) (fun b2 hr=>?_)
 .unfold k9a at hr;refine ax 6 11 hr (fun hr=>?_) fun hr=>?_
  .refine jq 2 hr [3,8,9,10] [] (fun _=>[]) (fun j5=>[(1007,.buf j5)]) (fun j5 hr=>?_) (fun j5 hr=>?_)
   .refine rn tk 4 rfl ?_;obtain ⟨v6,h7,hr⟩:=zaa hr;refine wq (kxb (l:=s1.2) (n:=s1.1) rfl rfl rfl zra zxa h7) rfl rfl rfl ?_;obtain ⟨v8,h9,hr⟩:=zaa hr;refine wq (wVb (l:=s1.2) (n:=s1.1) rfl rfl zxa h9) rfl rfl rfl ?_;refine jq 4 hr [3,4,5,8,9,10] [1007] (fun j10=>[(20,.bo j10)]) (fun _=>[]) (fun j10 hr=>?_) (fun j10 hr=>?_)
    .refine bx 4 17 hr (fun c11 hr=>?_) fun c11 hr=>?_
     .exact jx 4 hr
     exact jx 4 hr
    refine ax 0 20 hr (fun hr=>?_) fun hr=>?_
    .refine rn tk 4 rfl<|wq (W1a (a:=v8) (b:=(97:UInt8)) rfl rfl) rfl rfl rfl<|wq (W2a (a:=((v8+(97:UInt8)))) (b:=(65:UInt8)) rfl rfl) rfl rfl rfl ?_;obtain ⟨v13,h14,hr⟩:=zaa hr;refine wq (kxb (l:=s1.2) (n:=s1.1) rfl rfl rfl zra zxa h14) rfl rfl rfl ?_;obtain ⟨v15,h16,hr⟩:=zaa hr;refine wo (zIb (l:=s1.2) (n:=s1.1) (v:=v15) (v' :=(((v8+(97:UInt8)) - (65:UInt8)))) rfl rfl rfl zxa h16) rfl ?_;exact jx 2 hr
    exact jx 2 hr
   exact cx 4 hr
  exact ox 2 hr
 refine rn tk 5 rfl<|wq (ev_buf2s (l:=b2) rfl rfl zra zxa zoa) rfl rfl rfl ?_;exact kx 4 hr
theorem zWa(a0:Str)(a1:Str)(r:Bool)(hr:kba a0 a1=some r):Run prog 59 [.s a0,.s a1] (.bo r):=by
 unfold kba at hr;refine rfx (fn:=f59) func59 fun g0 hg=>?_
 refine rn tk 5 rfl<|jb hr (fun j1=>[(4,.bo j1)]) (fun j1=>[]) (fun j1 hr=>?_) (fun j1 hr=>?_)
 .refine bx 7 10 hr (fun c2 hr=>?_) fun c2 hr=>?_
  .refine rn tk 1 rfl ?_;obtain ⟨v3,h4,hr⟩:=zaa hr;refine ug rfl rfl rfl<|cl (KDa _ _ h4) rfl rfl<|rn tk 1 rfl ?_;obtain ⟨v5,h6,hr⟩:=zaa hr;refine ug rfl rfl rfl<|cl (KDa _ _ h6) rfl rfl ?_;exact jx 4 hr
  exact jx 8 hr
 exact kx 1 hr
section
open Go.RowKit Go.Lib Go.Proofs.Tryz
theorem zdb{g:G}(hg:Gl g):Lib.Utf8Tabs 2 3 g.w:=by
 obtain ⟨t1,z1,h1⟩:=hg.2.1 (2,zmb) (by simp[wGb]);obtain ⟨t2,z2,h2⟩:=hg.2.1 (3,K2a) (by simp[wGb]);have a2:∀i,i < 16->K2a[2 * i]? =some (.int .u8 (accLo i))/\K2a[2 * i+1]? =some (.int .u8 (accHi i)):=by
  intro i hi
  iterate 16 (rcases i with _ | i; · exact ⟨rfl,rfl⟩)
  omega
 refine ⟨fun c hc=>?_,fun i hi=>?_⟩
 .simp only[World.cell?,h1];simp[zmb,hc]
 have:=a2 i hi;simp only[World.cell?,h2];simpa using this
theorem zeb{g:G}{w' :World}(h:Below g.w.heap.size g.w w'):Old (fun _=>False) g ⟨w',g.u,g.loc⟩:=
 ⟨h.os,h.tape,h.output,⟨h.size,fun k hk=>jAm _,fun k i hk _=>by simp only[World.cell?];rw[h.block k hk],fun r hr=>(h.block r (zVa hr)).trans hr⟩,fun k hk _=>⟨h.block k hk,rfl⟩⟩
theorem yta(s:Str)(r:Bool)(hr:kva s=some r):Run prog 163 [.s s] (.bo r):=by
 unfold kva at hr;split at hr
 case isFalse=>cases hr
 rename_i hlen;cases hr;refine ⟨⟨_,_,⟨func163,rfl,by kernel_rfl⟩⟩,fun g vs hw hg ha=>?_⟩;obtain ⟨hsz,hrel⟩:=ha;obtain ⟨l⟩:=vs
 match l,hsz with
 | [x],_=>
  obtain rfl:=jRa (hrel 0 _ rfl);refine callsIn_wide.2 ((Any.utf8_ValidString Tryz.lays196 (strB s) g.w (by rw[zta];omega) (zdb hg)).mono ?_);rintro e w' ⟨rfl,hb⟩;refine ⟨⟨w',g.u,g.loc⟩,_,rfl,rfl,zeb hb,fun k hk=>hw k (jAt hb.size hk),rfl,?_⟩;simp[strB];exact .pv (.b rfl)
end
theorem wea(a0:Str)(r:Bool)(hr:q5a a0=some r):Run prog 160 [.s a0] (.bo r):=by
 unfold q5a at hr;refine rfx (fn:=Tryz.f160) func160 fun g0 hg=>?_
 refine jq 5 hr [] [] (fun j1=>[(2,.bo j1)]) (fun _=>[]) (fun j1 hr=>?_) (fun j1 hr=>?_)
 .refine bx 4 5 hr (fun c2 hr=>?_) fun c2 hr=>?_
  .refine bx 5 10 hr (fun c3 hr=>?_) fun c3 hr=>?_
   .refine rn tk 1 rfl<|ug rfl rfl rfl ?_;refine ctq 0 hr [10] [] (fun j4=>[(12,.bo j4)]) (fun _=>[]) (fun j4 hr jump4=>?_) (fun j4 hr=>?_)
    .refine iq 0 400000 [10] (fn:=f102) ⟨func102,rfl,by kernel_rfl⟩ fun T4 ds4=>?_
     refine aq2 14 hr [0,1,7] [499999,400010] (fun s5=>[(8,.i s5)]) (fun _=>[]) (.exit 0) [] [499999,400010] (fun _=>[]) (fun _=>[]) .ret [4] [499999,400010] (fun _=>[]) (fun _=>[]) (fun s5 x9 hr=>?_) (fun b6 hr=>?_) (fun b7 hr=>?_)
     .unfold jMa at hr;refine ax 6 9 hr (fun hr=>?_) fun hr=>?_
      .refine rn tk 15 rfl ?_;obtain ⟨v11,h12,hr⟩:=zaa hr;refine ws tk h12 rfl rfl rfl rfl ?_;refine iq 0 600000 [0,1,7,8] (fn:=f191) ⟨func191,rfl,by kernel_rfl⟩ fun T6 ds6=>?_
       refine jq 5 hr [] [699999,600000,600001,600007,600008,499999,400010] (fun j13=>[(2,.bo j13)]) (fun _=>[]) (fun j13 hr=>?_) (fun j13 hr=>?_)
       .refine bx 4 5 hr (fun c14 hr=>?_) fun c14 hr=>?_
        .refine bx 4 9 hr (fun c15 hr=>?_) fun c15 hr=>?_
         .refine rn tk 1 rfl ?_;obtain ⟨v16,h17,hr⟩:=zaa hr;refine ug rfl rfl rfl<|cl (zNa _ _ _ h17) rfl rfl ?_;exact jx 4 hr
         exact jx 6 hr
        exact jx 10 hr
       refine ieq 1 (hO ?_);refine ax 3 16 hr (fun hr=>?_) fun hr=>?_
       .exact ox 8 hr
       exact cx 7 hr
      exact ox 2 hr
     .refine ieq 8 ?_;cases hr;exact jump4 _ _ rfl rfl
     refine ieq 2 ?_;cases hr;exact jump4 _ _ rfl rfl
    exact jx 3 hr
   exact jx 5 hr
  exact jx 10 hr
 exact kx 1 hr
theorem wfa(a0:zYa)(r:zja)(hr:qaa a0=some r):Run prog 123 [.agg [.s a0.Type_,.s a0.Sub,.l zia.pc a0.Params]] (.agg [.i r.Code,.i r.Index]):=by
 unfold qaa at hr;refine rfx (fn:=f123) func123 fun g0 hg=>?_
 refine jq 7 hr [1,2] [2,1] (fun j1=>[(14,.bo j1)]) (fun _=>[]) (fun j1 hr=>?_) (fun j1 hr=>?_)
 .refine clx 3 hr (wea _) fun v2 _ hr=>?_
  refine bx 2 9 hr (fun c4 hr=>?_) fun c4 hr=>?_
  .exact jx 6 hr
  refine rn tk 2 rfl ?_;obtain ⟨v5,h6,hr⟩:=zaa hr;refine ug rfl rfl rfl<|cl (wea _ _ h6) rfl rfl ?_;exact jx 3 hr
 refine ax 0 14 hr (fun hr=>?_) fun hr=>?_
 .refine clx 2 hr (zga _ _) fun v8 _ hr=>?_
  exact kx 5 hr
 refine rn tk 7 rfl<|wn tk rfl rfl rfl ?_;refine ax 3 19 hr (fun hr=>?_) fun hr=>?_
 .refine clx 2 hr (zga _ _) fun v11 _ hr=>?_
  exact kx 5 hr
 refine rn tk 7 rfl<|wn tk rfl rfl rfl ?_;refine aq2 4 hr [1,2,22,23] [2,1] (fun s13=>[(24,.i s13)]) (fun _=>[]) (.exit 0) [2] [2] (fun _=>[]) (fun _=>[]) .ret [2] [] (fun _=>[]) (fun b15=>[(2,.cells [.i b15.Code,.i b15.Index])]) (fun s13 x17 hr=>?_) (fun b14 hr=>?_) (fun b15 hr=>?_)
 .unfold wua at hr;refine ax 6 25 hr (fun hr=>?_) fun hr=>?_
  .refine rn tk 7 rfl ?_;obtain ⟨v19,h20,hr⟩:=zaa hr;refine wi tk h20 rfl rfl rfl rfl rfl ?_;refine jq 7 hr [1,2,3,4,22,23,24] [4,2,1] (fun j21=>[(29,.bo j21)]) (fun _=>[]) (fun j21 hr=>?_) (fun j21 hr=>?_)
   .refine clx 3 hr (wea _) fun v22 _ hr=>?_
    refine bx 2 34 hr (fun c24 hr=>?_) fun c24 hr=>?_
    .exact jx 7 hr
    exact jx 7 hr
   refine ax 0 29 hr (fun hr=>?_) fun hr=>?_
   .refine clx 3 hr (zga _ _) fun v26 _ hr=>?_
    exact ox 7 hr
   refine rn tk 5 rfl ?_;obtain ⟨v28,h29,hr⟩:=zaa hr;refine wlH tk h29 rfl rfl rfl (fun _=>rfl) rfl ?_;refine iq 1 500000 [1,2,3,4,22,23,24] (fn:=Tryz.f161) ⟨func161,rfl,by kernel_rfl⟩ fun T5 ds5=>?_
   refine ctq 9 hr [] [599999,500001,500002,500003,500004,500022,500023,500024,4,2,1] (fun j30=>[(7,.i j30)]) (fun _=>[]) (fun j30 hr jump6=>?_) (fun j30 hr=>?_)
   .refine iq 0 600000 [] (fn:=f122) ⟨func122,rfl,by kernel_rfl⟩ fun T6 ds6=>?_
    refine rn tk 9 rfl<|wn tk rfl rfl rfl ?_;refine aq2 4 hr [0,1,7] [699999,599999,500001,500002,500003,500004,500022,500023,500024,4,2,1] (fun s31=>[(8,.i s31)]) (fun _=>[]) (.exit 0) [] [699999,599999,500001,500002,500003,500004,500022,500023,500024,4,2,1] (fun _=>[]) (fun _=>[]) .ret [] [699999,599999,500001,500002,500003,500004,500022,500023,500024,4,2,1] (fun b33=>[(4,.i b33)]) (fun _=>[]) (fun s31 x35 hr=>?_) (fun b32 hr=>?_) (fun b33 hr=>?_)
    .unfold wta at hr;refine ax 6 9 hr (fun hr=>?_) fun hr=>?_
     .refine rn tk 15 rfl ?_;obtain ⟨v37,h38,hr⟩:=zaa hr;refine wi tk h38 rfl rfl rfl rfl rfl ?_;refine iq 1 800000 [0,1,5,7,8] (fn:=Tryz.f162) ⟨func162,rfl,by kernel_rfl⟩ fun T8 ds8=>?_
      refine rn tk 2 rfl<|wo (vVa (k:=2) 1002 rfl rfl rfl rfl rfl) rfl ?_;refine clx 9 hr (zWa _ _) fun v39 _ hr=>?_
      refine ieq 4 (hO ?_);refine ax 2 16 hr (fun hr=>?_) fun hr=>?_
      .exact ox 9 hr
      exact cx 7 hr
     exact ox 2 hr
    .refine ieq 8 ?_;cases hr;exact jump6 _ _ rfl rfl
    refine ieq 2 ?_;cases hr;exact jump6 _ _ rfl rfl
   refine ieq 5 (hO ?_);refine ax 3 42 hr (fun hr=>?_) fun hr=>?_
   .refine clx 3 hr (zga _ _) fun v43 _ hr=>?_
    exact ox 7 hr
   refine ax 9 51 hr (fun hr=>?_) fun hr=>?_
   .refine clx 3 hr (zga _ _) fun v46 _ hr=>?_
    exact ox 7 hr
   refine clx 4 hr (yta _) fun v48 _ hr=>?_
   refine ax 4 58 hr (fun hr=>?_) fun hr=>?_
   .refine clx 3 hr (zga _ _) fun v51 _ hr=>?_
    exact ox 7 hr
   exact cx 8 hr
  exact ox 2 hr
 .refine clx 4 hr zma fun v53 _ hr=>?_
  exact kx 4 hr
 exact kx 2 hr
theorem KEa(a0:zYa)(a1:Str)(r:Str × Bool × zja)(hr:wwa a0 a1=some r):Run prog 116 [.agg [.s a0.Type_,.s a0.Sub,.l zia.pc a0.Params],.s a1] (.tup [.s r.1,.bo r.2.1,.agg [.i r.2.2.Code,.i r.2.2.Index]]):=by
 unfold wwa at hr;refine rfx (fn:=f116) func116 fun g0 hg=>?_
 refine clx 12 hr (wfa _) fun v1 _ hr=>?_
 refine clx 7 hr (zha _) fun v3 _ hr=>?_
 refine ax 2 13 hr (fun hr=>?_) fun hr=>?_
 .refine dq 1 3 [] [] .nil .nil ?_ mixed;exact kx 5 hr
 refine rn tk 7 rfl<|wn tk rfl rfl rfl ?_;refine aq2 4 hr [1,6,16,17] [6] (fun s6=>[(18,.i s6)]) (fun _=>[]) (.exit 0) [6] [6] (fun _=>[]) (fun _=>[]) .ret [6] [] (fun b8=>[(4,.s b8.1),(5,.bo b8.2.1)]) (fun b8=>[(6,.cells [.i b8.2.2.Code,.i b8.2.2.Index])]) (fun s6 x10 hr=>?_) (fun b7 hr=>?_) (fun b8 hr=>?_)
 .unfold jPa at hr;refine ax 6 19 hr (fun hr=>?_) fun hr=>?_
  .refine rn tk 6 rfl ?_;obtain ⟨v12,h13,hr⟩:=zaa hr;refine wi tk h13 rfl rfl rfl rfl rfl ?_;refine clx 10 hr (zWa _ _) fun v14 _ hr=>?_
   refine ax 2 25 hr (fun hr=>?_) fun hr=>?_
   .refine rn tk 1 rfl ?_;obtain ⟨v17,h18,hr⟩:=zaa hr;refine dq 0 3 [] [(2,.agg [.i v17.Code,.i v17.Index])] .nil (.cons rfl rfl (zua (zma v17 h18) rfl) .nil) ?_ mixed;exact ox 8 hr
   exact cx 7 hr
  exact ox 2 hr
 .refine clx 4 hr zma fun v19 _ hr=>?_
  exact kx 6 hr
 exact kx 2 hr
section
open Go.RowKit Go.Lib Go.Sort Go.Proofs.Tryz
theorem four{l:List Value}(h:l.length=4):∃c0 c1 c2 c3,l=[c0,c1,c2,c3]:=by
 match l,h with
 | [c0,c1,c2,c3],_=>exact ⟨c0,c1,c2,c3,rfl⟩
theorem Ztb(xn yn:Int)(a0 a2 a3 b0 b2 b3:Value)(W:World)(h:IntKind.i64.wrap (xn - yn)=xn - yn):
 Calls prog 233 #[.agg #[a0,.int .i64 xn,a2,a3],.agg #[b0,.int .i64 yn,b2,b3]] W fun e w' =>e=.returned (.int .i64 (xn - yn))/\∃q os',w' =grow (W.drewN q) os' :=by
 go_enter func233,Tryz.ntmps233
 go_wp2
 go_ret
 exact ⟨rfl,0,_,by rw[alloc_eq_grow,alloc_eq_grow,grow_grow];rfl⟩
end
section
open Go.Shelf Go.RowKit Go.Lib Go.Sort Go.Proofs.Tryz
section
variable {α:Type} [Inhabited α] {enc:α->List Value} {k:Nat} {w:World} {b off m:Nat} {d:Array α} {os:Array Obj}
theorem sw_other{q:Nat}(hq:q < w.heap.size)(hne:q≠b):(sortWorldK enc k w b off m d os).heap[q]? =w.heap[q]? :=by
 unfold sortWorldK;rw[heap_grow_old _ _ (by rw[size_putRowK];exact hq)];show (w.heap.modify b _)[q]? =_;rw[jBl,if_neg (Ne.symm hne)]
theorem sw_blk{vs:Array Value}{e:TypeId}{fr:Nat × Nat}(hb:w.heap[b]? =some (.cells vs e fr)):(sortWorldK enc k w b off m d os).heap[b]? =some (.cells (putCells id off (flatK enc k d) vs) e fr):=by
 have hlt:b < w.heap.size:=(jBh.1 hb).1;unfold sortWorldK;rw[heap_grow_old _ _ (by rw[size_putRowK];exact hlt)];show (w.heap.modify b _)[b]? =_;rw[jBl,if_pos rfl,hb];rfl
end
theorem qAb(vs:Array Value)(p n j:Nat)(hj:j < n):((vs.toList.drop p).take n).getD j undef=vs.getD (p+j) undef:=by
 rw[jAj,jBd hj,jBu,jAg,jDq]
def HasE(g:G)(p:zca × List Value):Prop:=p.2.length=4/\okP p.1=true/\∀(j:Nat) c,(zca.pc p.1)[j]? =some c->RelP g.w g.u c (p.2.getD j undef)
theorem zfb{g:G}{p:zca × List Value}(h:HasE g p):∃a0 a2 a3,p.2=[a0,.int .i64 p.1.number,a2,a3]:=by
 obtain ⟨c0,c1,c2,c3,e⟩:=four h.1;have h0:=h.2.2 1 _ rfl;rw[e]at h0;have e0:c1=.int .i64 p.1.number:=by cases h0;rfl
 subst e0;exact ⟨c0,c2,c3,e⟩
theorem kcb{k o:Nat}{a ob:AO}(h:Sto.get [(k,a)] o=some ob):o=k/\ob=a:=by
 rw[Sto.get_cons]at h;split at h
 .rename_i e;cases h;exact ⟨e.symm,rfl⟩
 cases h
def EntA(g:G):Type:={p:zca × List Value // HasE g p}
def encA{g:G}(x:EntA g):List Value:=x.1.2
def cfA{g:G}(x y:EntA g):Int:=x.1.1.number - y.1.1.number
theorem wwb{g:G}(x y:EntA g):ltOf cfA x y=decide (x.1.1.number < y.1.1.number):=by
 show decide (x.1.1.number - y.1.1.number < 0)=_;rw[jBg];simp only[decide_eq_true_eq];omega
theorem yAb{n:Int}(h1: -9223372036854775808<=n)(h2:n < 9223372036854775808):IntKind.i64.wrap n=n:=by
 simp only[IntKind.wrap,IntKind.bits,IntKind.signed];have e:(2:Int) ^ 64=18446744073709551616:=by decide
 have e2:(2:Int) ^ 63=9223372036854775808:=by decide
 simp only[e,e2,jDn];split <;> simp_all <;> omega
theorem swoA{g:G}:SWO (ltOf (cfA (g:=g))):=
 ⟨fun x=>by rw[wwb];simp,fun x y z h1 h2=>by rw[wwb,decide_eq_true_eq]at *;omega,fun x y z h1 h2=>by rw[wwb,decide_eq_false_iff_not]at *;omega⟩
theorem cmpA{g:G}[Inhabited (EntA g)](b off n:Nat)(w:World):CmpLays prog 233 #[] (encA (g:=g)) 4 cfA b off n w:=fun m os dk hs x y=>by
 rw[Array.append_empty];obtain ⟨a0,a2,a3,e1⟩:=zfb x.2;obtain ⟨b0,b2,b3,e2⟩:=zfb y.2;have o1:=x.2.2.1;have o2:=y.2.2.1;simp only[okP,jAn,decide_eq_true_eq]at o1 o2;have hw:IntKind.i64.wrap (x.1.1.number - y.1.1.number)=x.1.1.number - y.1.1.number:=by
  generalize x.1.1.number=p at o1 ⊢;generalize y.1.1.number=q at o2 ⊢;exact yAb (by omega) (by omega)
 show Calls _ _ #[.agg (encA x).toArray,.agg (encA y).toArray] _ _;rw[show encA x=_ from e1,show encA y=_ from e2];exact Ztb _ _ _ _ _ _ _ _ _ hw
section
variable {g:G} {a0:List zca} {b off cap:Nat} {vs:Array Value} {e:TypeId}
theorem hasA(hn:vs.size=(off+cap) * 4)(hle:a0.length<=cap)(hok:∀x∈a0,okP x=true)(hrel:∀(i j:Nat) (x:List PV) c,(List.map zca.pc a0)[i]? =some x->x[j]? =some c->RelP g.w g.u c (vs.getD ((off+i) * 4+j) undef))(i:Nat)(hi:i < a0.length):
 HasE g (a0[i],(vs.toList.drop ((off+i) * 4)).take 4):=by
 refine ⟨?_,hok _ (jDi hi),fun j c hj=>?_⟩
 .have h1:(off+i) * 4+4<=vs.size:=by rw[hn];omega
  simp only[jCh,jCu,jBt];omega
 have hj4:j < 4:=(jAd.1 hj).1;rw[qAb _ _ _ _ hj4];exact hrel i j (zca.pc a0[i]) c (by rw[jAk,jAe hi];rfl) hj
def dA(h:∀(i:Nat) (hi:i < a0.length),HasE g (a0[i],(vs.toList.drop ((off+i) * 4)).take 4)):Array (EntA g):=Array.ofFn fun i:Fin a0.length=>⟨_,h i.val i.isLt⟩
theorem ZNa(h:∀(i:Nat) (hi:i < a0.length),HasE g (a0[i],(vs.toList.drop ((off+i) * 4)).take 4)):(dA h).size=a0.length:=by unfold dA;exact Array.size_ofFn
theorem get_dA[Inhabited (EntA g)](h:∀(i:Nat) (hi:i < a0.length),HasE g (a0[i],(vs.toList.drop ((off+i) * 4)).take 4))(i:Nat)(hi:i < a0.length):(dA h)[i]! =⟨_,h i hi⟩:=by
 rw[getElem!_pos (dA h) i (by rw[ZNa];exact hi)];unfold dA;exact Array.getElem_ofFn _
theorem list_dA(h:∀(i:Nat) (hi:i < a0.length),HasE g (a0[i],(vs.toList.drop ((off+i) * 4)).take 4)):(dA h).toList.map (fun x=>x.1.1)=a0:=by
 refine List.ext_getElem (by rw[jAx,jBt,ZNa]) fun i h1 h2=>?_
 rw[List.getElem_map,Array.getElem_toList];have e:(dA h)[i]'(by rw[ZNa];exact h2)=⟨_,h i h2⟩:=by unfold dA;exact Array.getElem_ofFn _
 rw[e]
theorem holdsA[Inhabited (EntA g)](h:∀(i:Nat) (hi:i < a0.length),HasE g (a0[i],(vs.toList.drop ((off+i) * 4)).take 4))(hn:vs.size=(off+cap) * 4)(hle:a0.length<=cap)(hb:g.w.heap[b]? =some (.cells vs e (0,0))):HoldsK (encA (g:=g)) 4 g.w b (off * 4) (dA h):=fun j hj=>by
 rw[size_flatK,ZNa]at hj;have hji:j / 4 < a0.length:=by omega
 have e1:(flatK (encA (g:=g)) 4 (dA h))[j]! =vs.getD (off * 4+j) undef:=by
  rw[get_flatK _ _ _ _ (by rw[ZNa];exact hj),get_dA h _ hji];show ((vs.toList.drop ((off+j / 4) * 4)).take 4)[j % 4]! =_;have hk4:j % 4 < ((vs.toList.drop ((off+j / 4) * 4)).take 4).length:=by rw[(h _ hji).1];omega
  rw[getElem!_pos ((vs.toList.drop ((off+j / 4) * 4)).take 4) (j % 4) hk4];have:=qAb vs ((off+j / 4) * 4) 4 (j % 4) (by omega);rw[jAj,jAe hk4]at this;rw[show off * 4+j=(off+j / 4) * 4+j % 4 by omega,<-this];rfl
 have hjs:off * 4+j < vs.size:=by rw[hn];omega
 refine ⟨?_,?_⟩
 .simp only[World.cell?,hb];rw[e1];simp[hjs]
 simp[World.frozen?,hb]
theorem Zub(x:EntA g):∀v∈encA x,v.oneCell' =true:=fun v hv=>by
 obtain ⟨j,hj⟩:=List.mem_iff_getElem?.1 hv;have hj4:j < 4:=by rw[<-x.2.1];exact (jAd.1 hj).1
 have hc:=x.2.2.2 j _ (jAe (show j < (zca.pc x.1.1).length from hj4));have e:x.1.2.getD j undef=v:=by rw[jAj];show (encA x)[j]?.getD undef=v;rw[hj];rfl
 rw[e]at hc;exact kKb (vs:= #[v]) (fun i hi=>by
  have:i=0:=by simpa using hi
  subst this;exact hc.cellV) v (by simp)
theorem yBb(h:∀(i:Nat) (hi:i < a0.length),HasE g (a0[i],(vs.toList.drop ((off+i) * 4)).take 4))(hpos:0 < a0.length)(hl:a0.length<=1048576)(hn:vs.size=(off+cap) * 4)(hle:a0.length<=cap)(hb:g.w.heap[b]? =some (.cells vs e (0,0))):
 Calls prog 232 #[.slice (some ⟨b,off * 4,none⟩) a0.length cap,.func (.func 233) #[] #[]] g.w fun e' w' =>e' =.returned (.tuple #[])/\w'.os=g.w.os/\w'.tape=g.w.tape/\w'.output=g.w.output/\g.w.heap.size<=w'.heap.size/\(∀q,q < g.w.heap.size->q≠b->w'.heap[q]? =g.w.heap[q]?)/\
  ∃(r:List zca) (vs' :Array Value),r.Perm a0/\r.Pairwise (fun a b=>a.number<=b.number)/\w'.heap[b]? =some (.cells vs' e (0,0))/\vs'.size=vs.size/\∀(i j:Nat) (x:zca) c,r[i]? =some x->(zca.pc x)[j]? =some c->RelP g.w g.u c (vs'.getD ((off+i) * 4+j) undef):=by
 letI:Inhabited (EntA g):=⟨⟨_,h 0 hpos⟩⟩
 have hcon:=AnyQ.slices_SortFunc Tryz.sortPiece 4 isAgg251 sizeOf251 (encA (g:=g)) (fun x=>x.2.1) Zub cfA swoA 233 #[] b (off * 4) cap (dA h) g.w (enters_of func233 (by kernel_rfl) rfl) (cmpA b (off * 4) _ g.w) (holdsA h hn hle hb) (jBh.1 hb).1 (by rw[ZNa];omega);rw[ZNa]at hcon;refine Calls.mono hcon ?_;rintro e' w' ⟨rfl,d',m,os,hP,hS,rfl⟩;obtain ⟨p1,_,p3⟩:=hP;rw[ZNa]at p1;have x1:d'.extract 0 a0.length=d' :=by rw[<-p1];exact Array.extract_size
 have x2:(dA h).extract 0 a0.length=dA h:=by
  have:=Array.extract_size (xs:=dA h)
  rwa [ZNa]at this
 rw[x1,x2]at p3;have hperm:(d'.toList.map fun x=>x.1.1).Perm a0:=by
  have:=p3.map fun x:EntA g=>x.1.1
  rwa [list_dA]at this
 have hsort:(d'.toList.map fun x=>x.1.1).Pairwise (fun a b=>a.number<=b.number):=by
  rw[List.pairwise_iff_getElem];intro i j hi hj hij;simp only[jAx,jBt]at hi hj;have:=hS i j (jBi _) hij (by omega);rw[getElem!_pos d' i hi,getElem!_pos d' j hj,wwb]at this;simpa using this
 refine ⟨rfl,rfl,rfl,rfl,size_sortWorldK_c _ _ _ _ _ _ _ _,fun q hq hne=>sw_other hq hne,_,_,hperm,hsort,sw_blk hb,by simp[putCells],fun i j x c hi hj=>?_⟩;rw[jAk]at hi;obtain ⟨y,hy,rfl⟩:=jAh.1 hi;rw[jDq]at hy;obtain ⟨hid,rfl⟩:=jBh.1 hy;have hj4:j < 4:=(jAd.1 hj).1;have hrel:=d'[i].2.2.2 j c hj;have hlen:d'[i].1.2.length=4:=d'[i].2.1;have hts:(off+i) * 4+j < vs.size:=by rw[hn];omega
 have e1:(putCells id (off * 4) (flatK (encA (g:=g)) 4 d') vs).getD ((off+i) * 4+j) undef=d'[i].1.2.getD j undef:=by
  unfold putCells;rw[jAg,Array.getElem?_mapIdx,jDh hts];simp only[jCw,jCn,size_flatK];rw[if_pos (by omega)];rw[show (off+i) * 4+j - off * 4=i * 4+j by omega,id,get_flatK _ _ _ _ (by omega)];rw[show (i * 4+j) / 4=i by omega,show (i * 4+j) % 4=j by omega,getElem!_pos d' i hid];show (d'[i].1.2)[j]! =_;rw[getElem!_pos (d'[i].1.2) j (by omega),jAj,jAe (by omega)];rfl
 rw[e1];exact hrel
end
theorem sort_obj{g' :G}{a0 r:List zca}{b off cap:Nat}{vs' :Array Value}(hloc:g'.loc 90009000=.row b off cap 4 a0.length)(hb:g'.w.heap[b]? =some (.cells vs' 251 (0,0)))(hn:vs'.size=(off+cap) * 4)(hm:cap<=maxLen)(hle:a0.length<=cap)(hu:g'.u b=0)
 (hp:r.Perm a0) (h:∀(i j:Nat) (x:zca) c,r[i]? =some x->(zca.pc x)[j]? =some c->RelP g'.w g'.u c (vs'.getD ((off+i) * 4+j) undef)):RelO g' 90009000 (.row 251 true 4 (List.map zca.pc r)):=by
 have hlen:(List.map zca.pc r).length=a0.length:=by rw[jAx,hp.length_eq]
 refine .row (by rw[hlen];exact hloc) hb hn hm (by rw[hlen];exact hle) (fun x hx=>?_) (by rw[hu];exact jBi _) (fun _=>hu) (fun i j x c hi hj=>?_)
 .obtain ⟨y,_,rfl⟩:=jCe.1 hx;rfl
 rw[jAk]at hi;obtain ⟨y,hy,rfl⟩:=jAh.1 hi;exact h i j y c hy hj
theorem Y1a(a0:List zca)(hok:∀x∈a0,okP x=true)(hlen:a0.length<=1048576):
 RunN (β:=List zca) prog 232 [.hs 90009000 0,.fn (.func 233) [] []] [(90009000,.row 251 true 4 (List.map zca.pc a0))] (fun r=>r.Perm a0/\r.Pairwise (fun a b=>a.number<=b.number)) (fun _=>.tup []) (fun r=>[(90009000,.row 251 true 4 (List.map zca.pc r))]):=by
 refine ⟨⟨_,_,⟨func232,rfl,by kernel_rfl⟩⟩,fun x o ob h=>?_,fun x o ob h=>?_,fun g vs hw hg hown ha=>?_⟩
 .obtain ⟨rfl,rfl⟩:=kcb h;exact ⟨_,rfl⟩
 .obtain ⟨rfl,rfl⟩:=kcb h;exact ⟨_,rfl,fun l b h=>h⟩
 generalize hE:List.map zca.pc a0=elems at hown;obtain ⟨hsz,hrel⟩:=ha;obtain ⟨vl⟩:=vs
 match vl,hsz with
 | [x,y],_=>
  have hx:Rel g (.hs 90009000 0) x:=hrel 0 _ rfl;have hy:Rel g (.fn (.func 233) [] []) y:=hrel 1 _ rfl;have hy2:y=.func (.func 233) #[] #[]:=by
   cases hy with
   | @fn f first captured fv cv h1 h2 hf hc=>
    have e1:fv= #[]:=jBw h1;have e2:cv= #[]:=jBw h2;rw[e1,e2]
  subst hy2;have hob:=hown.obj 90009000 _ rfl;have hmap:elems.length=a0.length:=by rw[<-hE];simp
  have none_case:a0=[]->(∃p cap,x=.slice p 0 cap)->CallsIn (fen none) 0 prog 232 #[x,.func (.func 233) #[] #[]] g.w fun e w' =>∃(r:List zca) (g' :G) (v:Value),(r.Perm a0/\r.Pairwise (fun a b=>a.number<=b.number))/\g'.w=w' /\g'.loc=g.loc/\Old (SB g [(90009000,.row 251 true 4 elems)]) g g' /\Wf g' /\e=.returned v/\Rel g' (.tup []) v/\
   ∀o ob,Sto.get [(90009000,.row 251 true 4 (List.map zca.pc r))] o=some ob->RelO g' o ob:=by
   rintro h0 ⟨p,cap,rfl⟩;subst h0;obtain rfl:elems=[]:=by rw[<-hE];rfl
   refine callsIn_wide.2 (Calls.mono (AnyF.slices_SortFunc_none Tryz.sortPiece p cap (.func (.func 233) #[] #[]) g.w) ?_);rintro e w' ⟨rfl,rfl⟩;refine ⟨[],g,_,⟨.refl _,.nil⟩,rfl,rfl,Old.refl _ _,hw,rfl,.tup rfl (fun i c hi=>by simp at hi),fun o ob ho=>?_⟩;obtain ⟨rfl,rfl⟩:=kcb ho;exact hob
  cases hob with
  | nil h1=>
   have h0:a0=[]:=by simpa using hE
   cases hx with
   | hsNil a h2=>exact none_case h0 ⟨_,_,rfl⟩
   | hs h2 h3=>rw[h1]at h2;cases h2
  | @row _ _ _ _ b off cap vs hl hb hn hm hle hz hu hmu hrel2=>
   cases hx with
   | hsNil a h2=>rw[hl]at h2;cases h2
   | @hs _ b' off' cap' size' n' a h2 h3=>
    rw[hl]at h2;cases h2;by_cases h0:a0=[]
    .refine none_case h0 ⟨some a,cap,?_⟩;have:elems.length=0:=by rw[hmap,h0];rfl
     rw[this]
    have hpos:0 < a0.length:=jCr.2 h0;rw[hmap]at hle hl;have ha:=h3 (by omega);subst ha;have hub:g.u b=0:=hmu rfl;have hbs:b < g.w.heap.size:=(jBh.1 hb).1;subst hE;have hC:=yBb (hasA hn hle hok hrel2) hpos hlen hn hle hb;rw[hmap];refine callsIn_wide.2 (Calls.mono hC ?_);rintro e w' ⟨rfl,q1,q2,q3,q4,q5,r,vs',qp,qs,q6,q7,q8⟩;have hSB:SB g [(90009000,.row 251 true 4 (List.map zca.pc a0))] b:=⟨90009000,_,rfl,by show (g.loc 90009000).block=some b;rw[hl];rfl⟩;have hxt:Ext g.w g.u w' g.u:=⟨q4,fun _ _=>jAm _,fun k i hk hi=>by
     have hne:k≠b:=by rintro rfl;omega
     simp only[World.cell?,q5 k hk hne],fun r hr=>by
     have hr2:r < g.w.heap.size:=(jBh.1 hr).1;have hne:r≠b:=by rintro rfl;rw[hb]at hr;cases hr
     rw[q5 r hr2 hne];exact hr⟩
    refine ⟨r,⟨w',g.u,g.loc⟩,_,⟨qp,qs⟩,rfl,rfl,⟨q1,q2,q3,hxt,fun k hk hs=>⟨q5 k hk (by rintro rfl;exact hs hSB),rfl⟩⟩,fun k hk=>hw k (jAt q4 hk),rfl,.tup rfl (fun i c hi=>by simp at hi),fun o ob ho=>?_⟩;obtain ⟨rfl,rfl⟩:=kcb ho;exact sort_obj (g' :=⟨w',g.u,g.loc⟩) hl q6 (q7.trans hn) hm hle hub qp fun i j x c hi hj=>(q8 i j x c hi hj).mono0 hxt.to0
end
section
open Go.RowKit Go.Lib Go.Proofs.Tryz
def tvR:Go.Shelf.Ren:=⟨fun | 167=>251 | 270=>250 | n=>Tryz.lays156_ren.f n,Tryz.lays156_ren.t,Tryz.lays156_ren.g⟩
theorem tv166:Go.Proofs.Lays.n166 prog tvR:=⟨Tryz.lays156.mixed,cqz func109 (by kernel_rfl),cqz func152 (by kernel_rfl),cqz func184 (by kernel_rfl),Tryz.lays156.t0,Tryz.lays156.a0,Tryz.lays156.z0,Tryz.lays156.v0,Tryz.lays156.t3,Tryz.lays156.a3,Tryz.lays156.z3,Tryz.lays156.v3,Tryz.lays156.t4,Tryz.lays156.a4,Tryz.lays156.z4,Tryz.lays156.v4,Tryz.lays156.t9,Tryz.lays156.a9,Tryz.lays156.z9,Tryz.lays156.v9,Tryz.lays156.t20,Tryz.lays156.a20,Tryz.lays156.z20,Tryz.lays156.v20,Tryz.lays156.t37,Tryz.lays156.a37,Tryz.lays156.z37,Tryz.lays156.v37,Tryz.lays156.t70,Tryz.lays156.a70,Tryz.lays156.z70,Tryz.lays156.v70,Tryz.lays156.t72,Tryz.lays156.a72,Tryz.lays156.z72,Tryz.lays156.v72,Tryz.lays156.t75,Tryz.lays156.a75,Tryz.lays156.z75,Tryz.lays156.v75,Tryz.lays156.t164,Tryz.lays156.a164,Tryz.lays156.z164,Tryz.lays156.v164⟩
theorem tv167:Go.Proofs.Lays.n167 prog tvR:=⟨Tryz.lays156.mixed,cqz func251 (by kernel_rfl),cqz func152 (by kernel_rfl),cqz func184 (by kernel_rfl),Tryz.lays156.t0,Tryz.lays156.a0,Tryz.lays156.z0,Tryz.lays156.v0,Tryz.lays156.t4,Tryz.lays156.a4,Tryz.lays156.z4,Tryz.lays156.v4,underlying5,isAgg5,sizeOf5,zeroValue5,Tryz.lays156.t9,Tryz.lays156.a9,Tryz.lays156.z9,Tryz.lays156.v9,Tryz.lays156.t20,Tryz.lays156.a20,Tryz.lays156.z20,Tryz.lays156.v20,Tryz.lays156.t37,Tryz.lays156.a37,Tryz.lays156.z37,Tryz.lays156.v37,Tryz.lays156.t70,Tryz.lays156.a70,Tryz.lays156.z70,Tryz.lays156.v70,Tryz.lays156.t72,Tryz.lays156.a72,Tryz.lays156.z72,Tryz.lays156.v72,Tryz.lays156.t75,Tryz.lays156.a75,Tryz.lays156.z75,Tryz.lays156.v75,Tryz.lays156.t164,Tryz.lays156.a164,Tryz.lays156.z164,Tryz.lays156.v164⟩
theorem tv270:Go.Proofs.Lays.n270 prog tvR:=⟨Tryz.lays156.mixed,cqz func250 (by kernel_rfl),Tryz.lays156.t0,Tryz.lays156.a0,Tryz.lays156.z0,Tryz.lays156.v0,Tryz.lays156.t3,Tryz.lays156.a3,Tryz.lays156.z3,Tryz.lays156.v3,Tryz.lays156.t37,Tryz.lays156.a37,Tryz.lays156.z37,Tryz.lays156.v37,Tryz.lays156.t70,Tryz.lays156.a70,Tryz.lays156.z70,Tryz.lays156.v70,Tryz.lays156.t72,Tryz.lays156.a72,Tryz.lays156.z72,Tryz.lays156.v72⟩
theorem tvX:Go.Proofs.Builder.Extra prog tvR:={Tryz.Builder_Extra_156 with}
end
section
open Go.RowKit Go.Lib Go.Proofs.Tryz
theorem wxb(s:ByteArray)(pos:Nat)(h:pos < s.size):1<=(Utf8.decode s pos).2:=by
 by_cases ha:(s[pos]'h).toNat < 128
 .rw[decode_ascii s pos h ha];exact jAm _
 exact (decode_high s pos h (by omega)).2
theorem vNb(s:ByteArray)(fuel pos:Nat)(h:¬pos < s.size):jJa s fuel pos=none:=by
 cases fuel with
 | zero=>rfl
 | succ f=>simp[jJa,h]
theorem qBb{T e:TypeId}{B b:Nat}{q:Value}{bs:List Value}{W W' :World}(h:Lib.BuilderAtF T e B b q bs W)(hb:Below W.heap.size W W'):Lib.BuilderAtF T e B b q bs W' :=by
 obtain ⟨h1,v,h2,⟨h3,h4⟩,h5⟩:=h;have hk:∀{k:Nat} {o:Obj},W.heap[k]? =some o->W'.heap[k]? =some o:=fun {k} {o} ho=>(hb.block k (jBh.1 ho).1).trans ho
 exact ⟨h1,v,hk h2,⟨h3,h4.imp id fun ⟨g,cap,cur,fz,p1,p2,p3,p4⟩=>⟨g,cap,cur,fz,p1,p2,hk p3,p4⟩⟩,h5⟩
theorem bF_below{T e:TypeId}{B b:Nat}{bs:List Value}{W W' :World}(h:Lib.IsBuilderF T e B b bs W)(hb:Below W.heap.size W W'):Lib.IsBuilderF T e B b bs W' :=h.imp (qBb · hb) (qBb · hb)
theorem tv_walk(s rep:ByteArray)(w:World)(hs:s.size<=1099511627776)(hr:rep.size<=3)(hT:Lib.Utf8Tabs 2 3 w):
 Calls prog 235 #[.string s,.string rep] w fun e w' =>e=.returned (.string ⟨(tvB s rep).toArray⟩)/\Below w.heap.size w w' :=by
 obtain ⟨ANS,hANS⟩:∃ANS,tvB s rep=ANS:=⟨_,rfl⟩;rw[hANS];have HANS:Hid (tvB s rep=ANS):=hANS;clear hANS;go_enter func235,Tryz.ntmps235
 go_wp2
 go_loopw [0] (fun s0 wr=>s0=.string s/\∃(pos fuel:Nat),wr.heap[w.heap.size]? =some (.cells #[.pointer none,.slice none 0 0] 164 (0,0))/\wr.heap[w.heap.size+1]? =some (.stringIter s pos)/\Below w.heap.size w wr/\jJa s fuel pos=jJa s s.size 0/\s.size<=pos+fuel) (fun s0 wr=>s.size - wr.iterPos (w.heap.size+1))
 case atStart=>
  refine ⟨rfl,0,s.size,?_,?_,((Below.refl _ w).alloc (jAm _) _).alloc (by simp) _,rfl,by omega⟩
  .show ((w.heap.push _).push _)[w.heap.size]? =_;simp[Array.getElem?_push]
  have:=World.iter_heap (w.alloc (.cells #[.pointer none,.slice none 0 0] 164)) s 0;simpa using this
 case round=>
  obtain ⟨rfl,pos,fuel,hbl,hit,hbw,hfi,hfu⟩:=hrel;have hsz:w.heap.size+1 < wr.heap.size:=(jBh.1 hit).1;by_cases hp:pos < s.size
  .have hnx:∀ty,(Instr.next (.pointer (some ⟨w.heap.size+1,0,none⟩)) true ty).run prog wr=_:=fun ty=>Lib.run_next_any_at wr (w.heap.size+1) s pos ty hit hp
   have hwd:=wxb s pos hp;have hd1:=decode_le s pos;have hit2:=Lib.iterAt_heap wr (w.heap.size+1) s pos (pos+(Utf8.decode s pos).2) hit;have hbl2:(wr.iterAt (w.heap.size+1) s (pos+(Utf8.decode s pos).2)).heap[w.heap.size]? =some (.cells #[.pointer none,.slice none 0 0] 164 (0,0)):=(Lib.iterAt_other wr (w.heap.size+1) w.heap.size s _ (by omega)).trans hbl;have hbw2:=Lib.below_iterAt hbw (k:=w.heap.size+1) (by omega) s (pos+(Utf8.decode s pos).2);have hsz2:w.heap.size<=(wr.iterAt (w.heap.size+1) s (pos+(Utf8.decode s pos).2)).heap.size:=by rw[Lib.iterAt_size];omega
   obtain ⟨f,rfl⟩:∃f,fuel=f+1:=⟨fuel - 1,by omega⟩;by_cases hc:(Utf8.decode s pos).1=65533
   .have hD:=Tryz.utf8_DecodeRuneInString (s.extract pos s.size) _ (Utf8Tabs_below hT hbw2);obtain ⟨Wi,hWi⟩:∃Wi,wr.iterAt (w.heap.size+1) s (pos+(Utf8.decode s pos).2)=Wi:=⟨_,rfl⟩;rw[hWi]at hD hit2 hbl2 hbw2 hsz2;have hszi:w.heap.size+1 < Wi.heap.size:=(jBh.1 hit2).1;go_wp2_with (go_at_call 172;refine hD.mono ?_)
    rintro e W1 ⟨rfl,b1⟩;have hB1:=(b1.block w.heap.size (by omega)).trans hbl2;have hit3:=(b1.block (w.heap.size+1) (by omega)).trans hit2;have hbw3:Below w.heap.size w W1:=hbw2.trans (b1.mono hsz2);by_cases h1:(Lib.decodeGo (s.extract pos s.size)).2=1
    .have hG:=Any.Builder_Grow_fresh_cap Tryz.lays165 Tryz.Builder_Extra_165 w.heap.size w.heap.size (s.size+rep.size) W1 (jAm _) hB1 hbw3.size (by omega);go_wp2_with (go_at_call 108;refine hG.mono ?_)
     rintro e W2 ⟨rfl,⟨g1,g2⟩,p,cap,gc,gle⟩;have hI:Lib.IsBuilderF (tvR.t 72) (tvR.t 5) w.heap.size w.heap.size [] W2:=Or.inr (Lib.BuilderAtF.of g1);have hsz3:w.heap.size<=W2.heap.size:=jAt hbw3.size g2.size;have hp0:(s.extract 0 pos).size=pos:=by simp only[ByteArray.size_extract];omega
     have hW:=Any.Builder_WriteString_kc tv166 tvX w.heap.size w.heap.size [] (s.extract 0 pos) W2 hI (by rw[hp0];simp;omega) hsz3;go_wp2_with (go_at_call 109;refine hW.mono ?_)
     rintro e W3 ⟨rfl,⟨h3,b3,k3⟩,hcapk⟩;have hbw4:Below w.heap.size w W3:=(hbw3.trans g2).trans b3;obtain ⟨v1,c1,c2⟩:=hcapk _ gc;obtain ⟨q1,q2,q3,rfl,hq3⟩:∃a b c,v1=.slice a b c/\1<=c:=by
      have c3:cap<=v1.capOf:=c2;have c4:1<=v1.capOf:=by omega
      cases v1 <;> first | exact ⟨_,_,_,rfl,c4⟩ | (simp[Value.capOf]at c4)
     have hcap:=Any.Builder_Cap_cell tv270 w.heap.size q1 q2 q3 W3 c1;have hne:((q3:Int)==0)=false:=by simp;omega
     generalize hs2:s.extract pos s.size=s2 at *;have hs2z:s2.size+pos=s.size:=by rw[<-hs2];simp only[ByteArray.size_extract];omega
     have e0:jJa s s.size 0=some pos:=by rw[<-hfi];simp[jJa,hp,hc,hs2,h1]
     have A0:(s.extract 0 pos).data.toList++Zca s2 rep s.size false 0=ANS:=by rw[<-HANS.out];simp only[tvB,e0];rw[hs2]
     have L0:(s.extract 0 pos).data.toList.length=pos:=by rw[jBt];exact hp0
     have I0:Lib.IsBuilderF (tvR.t 72) (tvR.t 5) w.heap.size w.heap.size (Lib.byteCells (s.extract 0 pos).data.toList) W3:=by
      rw[jCf,Lib.strCells_eq]at h3;exact Or.inr h3
     generalize (s.extract 0 pos).data.toList=acc0 at A0 L0 I0;have HA0:Hid (acc0++Zca s2 rep s.size false 0=ANS):=A0;clear A0 e0 h3 b3 k3 hcapk gc gle g1 g2 hG hW hD hfi hc h1 c1 c2 hI hp0 hB1 hit3 hbw3 b1 hit hit2 hbl hbl2 hnx hd1 hwd hbw hbw2;go_wp2_with (go_at_call 250;refine hcap.mono ?_)
     rintro e W4 ⟨rfl,rfl⟩;go_wp2
     clear hcap hne;go_loopw [10,11] (fun s10 s11 wz=>∃(inv:Bool) (i fuel:Nat) (acc:List UInt8),s10=.bool inv/\s11=.int .i64 i/\Lib.IsBuilderF (tvR.t 72) (tvR.t 5) w.heap.size w.heap.size (Lib.byteCells acc) wz/\Below w.heap.size w wz/\Hid (acc++Zca s2 rep fuel inv i=ANS)/\s2.size<=i+fuel/\i<=s2.size/\acc.length<=s.size+4 * i) (fun s10 s11 wz=>s2.size - (intOf s11).toNat)
     case atStart=>
      exact ⟨false,0,s.size,acc0,rfl,rfl,I0,hbw4,HA0,by omega,by omega,by omega⟩
     case round=>
      obtain ⟨inv,i,fu,acc,rfl,rfl,hI,hbz,hacc,hfu2,his,hal⟩:=hrel;have hszr:w.heap.size<=wr.heap.size:=hbz.size;by_cases hi:i < s2.size
      .obtain ⟨fz,rfl⟩:∃fz,fu=fz+1:=⟨fu - 1,by omega⟩;have hiz:(i:Int) < (s2.size:Int):=by omega
       obtain ⟨x0,hx0⟩:∃x0,s2.get! i=x0:=⟨_,rfl⟩;have hs0:s2[i]'hi=x0:=by rw[<-hx0];exact (Utf8W.get!_of_lt s2 i hi).symm
       by_cases ha:x0.toNat < 128
       .have haz:(x0.toNat:Int) < 128:=by omega
        have hWb:=Any.Builder_WriteByte_k tv167 tvX w.heap.size w.heap.size (Lib.byteCells acc) (x0.toNat:Int) wr hI (by rw[Lib.byteCells_length];omega) hszr;go_wp2_with (go_at_call 251;refine hWb.mono ?_)
        rintro e W5 ⟨rfl,h5,b5,k5⟩;go_wp2
        go_roundw
        case rel=>
         refine ⟨false,i+1,fz,acc++ [x0],rfl,by simp,Or.inr ?_,hbz.trans b5,?_,by omega,by omega,by simp;omega⟩
         .rw[Lib.byteCells_append];exact h5
         show _=_;rw[<-hacc.out];simp[Zca,hi,hx0,ha]
        case measure=>
         simp[intOf];omega
       have haz:¬(x0.toNat:Int) < 128:=by omega
       have hD:=Tryz.utf8_DecodeRuneInString (s2.extract i s2.size) wr (Utf8Tabs_below hT hbz);go_wp2_with (go_at_call 172;refine hD.mono ?_)
       rintro e W5 rfl b5;have hI5:=bF_below hI b5;have hbz5:Below w.heap.size w W5:=hbz.trans (b5.mono hszr);have hsz5:=hbz5.size;have hdl:=Lib.decodeGo_le_size (s2.extract i s2.size);have hdz:(s2.extract i s2.size).size=s2.size - i:=by simp only[ByteArray.size_extract];omega
       obtain ⟨D,hDD⟩:∃D,Lib.decodeGo (s2.extract i s2.size)=D:=⟨_,rfl⟩;rw[hDD]at hdl;by_cases hd1:D.2=1
       .have hdz1:((D.2:Nat):Int)=1:=by omega
        cases inv with
        | true=>
         go_wp2
         go_roundw
         case rel=>
          refine ⟨true,i+1,fz,acc,rfl,by simp,hI5,hbz5,?_,by omega,by omega,by omega⟩;show _=_;rw[<-hacc.out];simp[Zca,hi,hx0,ha,hDD,hd1]
         case measure=>
          simp[intOf];omega
        | false=>
         have hWs:=Any.Builder_WriteString_k tv166 tvX w.heap.size w.heap.size (Lib.byteCells acc) rep W5 hI5 (by rw[Lib.byteCells_length];omega) hsz5;go_wp2_with (go_at_call 109;refine hWs.mono ?_)
         rintro e W6 ⟨rfl,h6,b6,k6⟩;go_wp2
         go_roundw
         case rel=>
          refine ⟨true,i+1,fz,acc++rep.data.toList,rfl,by simp,Or.inr ?_,hbz5.trans b6,?_,by omega,by omega,?_⟩
          .rw[Lib.byteCells_append,<-Lib.strCells_eq];exact h6
          .show _=_;rw[<-hacc.out];simp[Zca,hi,hx0,ha,hDD,hd1]
          have:rep.data.toList.length=rep.size:=by rw[jBt];rfl
          simp only[jBs];omega
         case measure=>
          simp[intOf];omega
       have hD1:1<=D.2:=by
        rw[<-hDD];unfold Lib.decodeGo;rw[if_neg (by omega)];exact wxb _ 0 (by omega)
       have hdn:¬((D.2:Nat):Int)=1:=by omega
       have hdlz:(i:Int)+(D.2:Int)<=(s2.size:Int):=by omega
       have hz0:(s2.extract i (i+D.2)).size=D.2:=by simp only[ByteArray.size_extract];omega
       have hWs:=Any.Builder_WriteString_k tv166 tvX w.heap.size w.heap.size (Lib.byteCells acc) (s2.extract i (i+D.2)) W5 hI5 (by rw[Lib.byteCells_length,hz0];omega) hsz5;go_wp2_with (go_at_call 109;refine hWs.mono ?_)
       rintro e W6 ⟨rfl,h6,b6,k6⟩;go_wp2
       go_roundw
       case rel=>
        refine ⟨false,i+D.2,fz,acc++(s2.extract i (i+D.2)).data.toList,rfl,by simp,Or.inr ?_,hbz5.trans b6,?_,by omega,by omega,?_⟩
        .rw[Lib.byteCells_append,<-Lib.strCells_eq];exact h6
        .show _=_;rw[<-hacc.out];simp[Zca,hi,hx0,ha,hDD,hd1]
        have:(s2.extract i (i+D.2)).data.toList.length=D.2:=by rw[jBt];exact hz0
        simp only[jBs];omega
       case measure=>
        simp[intOf];omega
      have hiz:¬(i:Int) < (s2.size:Int):=by omega
      have hSt:=Any.Builder_String_any_k Tryz.lays169 Tryz.Builder_Extra_169 w.heap.size w.heap.size acc wr hI hszr;go_wp2_with (go_at_call 110;refine hSt.mono ?_)
      rintro e W6 rfl _ b6 _;go_wp2
      go_ret
      have hA:=hacc.out;rw[show Zca s2 rep fu inv i=[] by cases fu <;> simp[Zca,hi],jDc]at hA;subst hA;exact ⟨rfl,hbz.trans b6⟩
    go_wp2
    go_roundw
    case rel=>
     refine ⟨rfl,pos+(Utf8.decode s pos).2,f,hB1,hit3,hbw3,?_,by omega⟩;rw[<-hfi];simp[jJa,hp,hc,h1]
    case measure=>
     simp only[World.iterPos,hit3,hit];omega
   go_wp2
   go_roundw
   case rel=>
    refine ⟨rfl,pos+(Utf8.decode s pos).2,f,hbl2,hit2,hbw2,?_,by omega⟩;rw[<-hfi];simp[jJa,hp,hc]
   case measure=>
    simp only[World.iterPos,hit2,hit];omega
  have hnx:∀ty,(Instr.next (.pointer (some ⟨w.heap.size+1,0,none⟩)) true ty).run prog wr=_:=fun ty=>Lib.run_next_end_at wr (w.heap.size+1) s pos ty hit hp
  have hcap:=Any.Builder_Cap_cell tv270 w.heap.size none 0 0 wr (by simp[World.cell?,hbl]);go_wp2_with (go_at_call 250;refine hcap.mono ?_)
  rintro e W1 ⟨rfl,rfl⟩;go_wp2
  go_ret
  rw[vNb s fuel pos hp]at hfi;refine ⟨?_,hbw⟩;rw[<-HANS.out];simp only[tvB,<-hfi];show Ending.returned (.string s)=_;cases s;simp
theorem ZOa(s rep r:Str)(hr:qEa s rep=some r):Run prog 235 [.s s,.s rep] (.s r):=by
 unfold qEa at hr;split at hr
 case isFalse=>cases hr
 rename_i hlen;cases hr;refine ⟨⟨_,_,⟨func235,rfl,by kernel_rfl⟩⟩,fun g vs hw hg ha=>?_⟩;obtain ⟨hsz,hrel⟩:=ha;obtain ⟨l⟩:=vs
 match l,hsz with
 | [x,y],_=>
  obtain rfl:=jRa (hrel 0 _ rfl);obtain rfl:=jRa (hrel 1 _ rfl);refine callsIn_wide.2 ((tv_walk (strB s) (strB rep) g.w (by rw[zta];exact hlen.1) (by rw[zta];exact hlen.2) (zdb hg)).mono ?_);rintro e w' ⟨rfl,hb⟩;refine ⟨⟨w',g.u,g.loc⟩,_,rfl,rfl,zeb hb,fun k hk=>hw k (jAt hb.size hk),rfl,?_⟩;exact .pv (.b rfl)
end
theorem VIa(a0:UInt8)(r:UInt8 × Bool)(hr:Zda a0=some r):Run prog 273 [.u8 a0] (.tup [.u8 r.1,.bo r.2]):=by
 unfold Zda at hr;refine rfx (fn:=f273) func273 fun g0 hg=>?_
 refine jq 8 hr [0] [] (fun j1=>[(4,.bo j1)]) (fun _=>[]) (fun j1 hr=>?_) (fun j1 hr=>?_)
 .refine bx 4 7 hr (fun c2 hr=>?_) fun c2 hr=>?_
  .exact jx 5 hr
  exact jx 5 hr
 refine ax 0 4 hr (fun hr=>?_) fun hr=>?_
 .refine rn tk 3 rfl<|wq (W2a (a:=a0) (b:=(48:UInt8)) rfl rfl) rfl rfl rfl ?_;exact kx 7 hr
 refine jq 0 hr [0] [] (fun j4=>[(13,.bo j4)]) (fun _=>[]) (fun j4 hr=>?_) (fun j4 hr=>?_)
 .refine bx 4 16 hr (fun c5 hr=>?_) fun c5 hr=>?_
  .exact jx 5 hr
  exact jx 5 hr
 refine ax 0 13 hr (fun hr=>?_) fun hr=>?_
 .refine rn tk 3 rfl<|wq (W2a (a:=a0) (b:=(65:UInt8)) rfl rfl) rfl rfl rfl<|wq (W1a (a:=((a0 - (65:UInt8)))) (b:=(10:UInt8)) rfl rfl) rfl rfl rfl ?_;exact kx 7 hr
 refine jq 0 hr [0] [] (fun j7=>[(23,.bo j7)]) (fun _=>[]) (fun j7 hr=>?_) (fun j7 hr=>?_)
 .refine bx 4 26 hr (fun c8 hr=>?_) fun c8 hr=>?_
  .exact jx 5 hr
  exact jx 5 hr
 refine ax 0 23 hr (fun hr=>?_) fun hr=>?_
 .refine rn tk 3 rfl<|wq (W2a (a:=a0) (b:=(97:UInt8)) rfl rfl) rfl rfl rfl<|wq (W1a (a:=((a0 - (97:UInt8)))) (b:=(10:UInt8)) rfl rfl) rfl rfl rfl ?_;exact kx 7 hr
 exact kx 10 hr
theorem JCa(a0:Str)(r:UInt8 × Bool)(hr:Zea a0=some r):Run prog 249 [.s a0] (.tup [.u8 r.1,.bo r.2]):=by
 unfold Zea at hr;refine rfx (fn:=f249) func249 fun g0 hg=>?_
 refine ax 14 10 hr (fun hr=>?_) fun hr=>?_
 .exact kx 8 hr
 refine rn tk 5 rfl ?_;obtain ⟨v2,h3,hr⟩:=zaa hr;refine ws tk h3 rfl rfl rfl rfl ?_;refine clx 0 hr (VIa _) fun v4 _ hr=>?_
 refine rn tk 10 rfl ?_;obtain ⟨v6,h7,hr⟩:=zaa hr;refine ws tk h7 rfl rfl rfl rfl ?_;refine clx 0 hr (VIa _) fun v8 _ hr=>?_
 refine jq 7 hr [] [] (fun j10=>[(2,.u8 ((bOr ((bShl v4.1 4)) v8.1))),(3,.bo j10)]) (fun _=>[]) (fun j10 hr=>?_) (fun j10 hr=>?_)
 .refine rn tk 2 rfl<|wq (ev_bshl (a:=v4.1) rfl rfl (by decide)) rfl rfl rfl<|rn tk 1 rfl<|wq (ev_bor (a:=(bShl v4.1 4)) (b:=v8.1) rfl rfl) rfl rfl rfl ?_;refine bx 2 28 hr (fun c11 hr=>?_) fun c11 hr=>?_
  .exact jx 5 hr
  exact jx 5 hr
 exact kx 1 hr
theorem Qqa(a0:zca)(r:Str)(hr:qNa a0=some r):Run prog 234 [.agg [.s a0.name,.i a0.number,.bo a0.star,.s a0.value]] (.s r):=by
 unfold qNa at hr;refine rfx (fn:=Tryz.f234) func234 fun g0 hg=>?_
 refine ax 21 12 hr (fun hr=>?_) fun hr=>?_
 .exact kx 8 hr
 refine jq 2 hr [] [] (fun j2=>[(3,.s j2)]) (fun _=>[]) (fun j2 hr=>?_) (fun j2 hr=>?_)
 .refine jq 0 hr [3] [] (fun j3=>[(26,.bo j3)]) (fun _=>[]) (fun j3 hr=>?_) (fun j3 hr=>?_)
  .refine bx 5 17 hr (fun c4 hr=>?_) fun c4 hr=>?_
   .refine bx 5 22 hr (fun c5 hr=>?_) fun c5 hr=>?_
    .refine rn tk 1 rfl ?_;obtain ⟨v6,h7,hr⟩:=zaa hr;refine ug rfl rfl rfl<|wscH tk h7 rfl rfl rfl rfl ?_;obtain ⟨v8,h9,hr⟩:=zaa hr;refine ug rfl rfl rfl<|cl (zWa _ _ _ h9) rfl rfl ?_;exact jx 2 hr
    exact jx 5 hr
   exact jx 10 hr
  refine ax 0 26 hr (fun hr=>?_) fun hr=>?_
  .refine rn tk 2 rfl ?_;obtain ⟨v11,h12,hr⟩:=zaa hr;refine wscL tk h12 rfl rfl rfl rfl ?_;exact jx 2 hr
  exact jx 1 hr
 refine rn tk 3 rfl ?_;refine zUa 1004 (d:=4) 5 1 rfl rfl rfl (hO ?_);refine aq1 9 hr [3,4] [] (fun s13=>[(5,.i s13.1)]) (fun s13=>[(1004,.row 5 false 1 (List.map cU s13.2))]) (.exit 0) [4] [] (fun _=>[]) (fun b14=>[(1004,.row 5 false 1 (List.map cU b14))]) (fun s13 x15 hr=>?_) (fun b14 hr=>?_)
 .unfold vJa at hr;refine ax 9 32 hr (fun hr=>?_) fun hr=>?_
  .refine jq 2 hr [3,4] [] (fun j17=>[(5,.i j17.1)]) (fun j17=>[(1004,.row 5 false 1 (List.map cU j17.2))]) (fun j17 hr=>?_) (fun j17 hr=>?_)
   .refine jkq 1 [3,4,5] [1004] (fun _=>[]) (fun _=>[]) (fun j18=>kQa j2 s13 j18=some j17) ?_ ?_
    .refine rn tk 4 rfl ?_;obtain ⟨v23,h24,hr⟩:=zaa hr;refine ws tk h24 rfl rfl rfl rfl ?_;refine ax 3 38 hr (fun hr=>?_) fun hr=>?_
     .refine rn tk 5 rfl ?_;obtain ⟨v26,h27,hr⟩:=zaa hr;refine wscL tk h27 rfl rfl rfl rfl ?_;refine clx 0 hr (JCa _) fun v28 _ hr=>?_
      refine ax 12 47 hr (fun hr=>?_) fun hr=>?_
      .refine rn tk 4 rfl<|wz cU ([v28.1]:List UInt8) tk rfl rfl (fun _=>rfl) rfl rfl rfl ?_;obtain ⟨v31,h32,hr⟩:=zaa hr;refine wa tk h32 rfl rfl rfl rfl (fun _=>rfl) rfl rfl ?_;exact jx 13 hr
      refine rn tk 1 rfl<|jn (()) hr rfl rfl
     refine rn tk 1 rfl<|jn (()) hr rfl rfl
    intro j18 hr;unfold kQa at hr;refine rn tk 4 rfl ?_;obtain ⟨v19,h20,hr⟩:=zaa hr;refine ws tk h20 rfl rfl rfl rfl<|wz cU ([v19]:List UInt8) tk rfl rfl (fun _=>rfl) rfl rfl rfl ?_;obtain ⟨v21,h22,hr⟩:=zaa hr;refine wa tk h22 rfl rfl rfl rfl (fun _=>rfl) rfl rfl ?_;exact jx 3 hr
   exact cx 5 hr
  exact ox 2 hr
 refine rn tk 5 rfl ?_;refine jia (d:=60) (F:=cU) (l:=b14) rfl rfl (hO ?_);refine wb tk rfl rfl rfl ?_;exact kx 4 hr
theorem rel_agg2{g:G}{a b:Str}{v:Value}(h:Rel g (.agg [.s a,.s b]) v):Rel g (.agg [.any,.any]) v:=by
 cases h with
 | agg h1 h2 h3=>
  refine .agg h1 h2 fun i c hi=>?_
  match i,hi with
  | 0,rfl=>exact .any _
  | 1,rfl=>exact .any _
theorem qCb{g:G}{a b:Str}{v:Value}(h:Rel g (.tup [.agg [.s a,.s b],.bo false]) v)(p:zia):Rel g (jres (p,false)) v:=by
 cases h with
 | tup hl h=>
  refine .tup hl fun i c hi=>?_
  match i,hi with
  | 0,rfl=>
   have h0:=h 0 _ rfl;refine rel_agg2 h0
  | 1,rfl=>exact h 1 _ rfl
theorem jres_any{g:G}{p:zia}{b:Bool}{v:Value}(h:Rel g (.tup [.agg [.s p.Name,.s p.Value],.bo b]) v):Rel g (jres (p,b)) v:=by
 cases b
 .exact qCb h p
 exact h
theorem WLa(a0:List zca)(r:zia × Bool)(hr:w1a a0=some r):RunS prog 218 [.hs 90009000 0] [(90009000,.row 251 true 4 (List.map zca.pc a0))] (jres r) [] 90009000 []:=by
 unfold w1a at hr;refine rfS (fn:=Tryz.f218) (H:=90009999) .any ⟨func218,rfl,by kernel_rfl⟩ rfl (by obtain ⟨p,b⟩:=r;cases b <;> intro k hk <;> simp[jres,AV.has,AV.hasL]at hk) (.inr ⟨rfl,rfl⟩) rfl rfl rfl rfl fun g0 hg S sg T=>?_
 refine rn tk 7 rfl ?_;obtain ⟨v1,h2,hr⟩:=zaa hr;refine drA 10 [(4,.ptr 4 0),(15,.agg [.s v1.name,.s v1.value]),(14,.s v1.value),(13,.hp 90009000 (Int.toNat 0) 3),(12,.hp 90009000 (Int.toNat 0) 0),(11,.hs 90009000 0),(10,.s v1.name),(9,.hp 90009000 (Int.toNat 0) 0),(8,.hp 90009000 (Int.toNat 0) 0),(7,.hs 90009000 0)] mixed (by kernel_rfl) rfl rfl (pqA tk rfl (.plain rfl) (.run (.plain rfl) (zGa (Zza (F:=zca.pc) (l:=a0) (n:=0) rfl rfl rfl qIa wAa h2)) (pqA tk rfl (.plain rfl) (.run (.plain rfl) (zGa (v1a (F:=zca.pc) (l:=a0) (n:=0) (j:=0) rfl rfl zoa rfl h2 rfl)) (pqA tk rfl (.plain rfl) (.run (.plain rfl) (zGa (Zza (F:=zca.pc) (l:=a0) (n:=0) rfl rfl rfl qIa wAa h2)) (pqA tk rfl (.plain rfl) (.run (.plain rfl) (zGa (v1a (F:=zca.pc) (l:=a0) (n:=0) (j:=3) rfl rfl zoa rfl h2 rfl)) (pqA tk rfl (.plain rfl) (pnA 4 tk rfl rfl rfl (.plain rfl) .nil)))))))))) rfl rfl rfl<|rn tk 7 rfl<|wq (Zza (F:=zca.pc) (l:=a0) (n:=0) rfl rfl rfl qIa wAa h2) rfl rfl rfl<|rn tk 1 rfl<|wq (v1a (F:=zca.pc) (l:=a0) (n:=0) (j:=1) rfl rfl yJa rfl h2 rfl) rfl rfl rfl ?_;refine ax 3 20 hr (fun hr=>?_) fun hr=>?_
 .refine rn tk 4 rfl<|wq (y0b (F:=zca.pc) rfl rfl qIa.u) rfl rfl rfl<|rn tk 7 rfl ?_;cases hr;exact krSw tk (.inr rfl) rfl (fun _ _ h=>jres_any (p:=zia.mk v1.name v1.value) h) (zCa rfl kXa)
 unfold vKa at hr;split at hr
 case isFalse=>cases hr
 rename_i hJ;cases hr;have hJ2:=hJ.2.2.choose_spec;generalize hJ.2.2.choose=o at hJ2 ⊢;refine rn tk 5 rfl ?_;refine cvN (Y1a a0 hJ.1 hJ.2.1) rfl rfl rfl (stw rfl) fun L hL=>?_
 have hr:=hJ2 L hL.1 hL.2;unfold kIa at hr;refine Vea 90009000 rfl (hO ?_);refine jia (d:=0) (F:=zca.pc) (l:=L) rfl rfl (hO ?_);refine rn tk 12 rfl<|wn tk rfl rfl rfl ?_;refine aq2 4 hr [2,4,28,29] [2,90009999] (fun s8=>[(30,.i s8.1)]) (fun s8=>[(4,.cells [.s v1.name,.s s8.2])]) (.exit 0) [2,4] [2,90009999] (fun _=>[]) (fun b9=>[(4,.cells [.s v1.name,.s b9])]) .ret [2] [90009999] (fun _=>[(3,.bo false)]) (fun b10=>[(2,.cells [.s v1.name,.s b10])]) (fun s8 x12 hr=>?_) (fun b9 hr=>?_) (fun b10 hr=>?_)
 .unfold waa at hr;refine ax 6 31 hr (fun hr=>?_) fun hr=>?_
  .refine rn tk 7 rfl ?_;obtain ⟨v14,h15,hr⟩:=zaa hr;refine wi tk h15 rfl rfl rfl rfl rfl ?_;refine ax 15 38 hr (fun hr=>?_) fun hr=>?_
   .exact ox 11 hr
   refine rn tk 2 rfl ?_;obtain ⟨v17,h18,hr⟩:=zaa hr;refine dq 0 4 [] [(3,.s v17)] .nil (.cons rfl rfl (zua (Qqa v14 v17 h18) rfl) .nil) ?_ mixed;obtain ⟨v19,h20,hr⟩:=zaa hr;refine wc h20 rfl rfl rfl ?_;exact cx 9 hr
  exact ox 2 hr
 .refine clx 6 hr (ZOa _ _) fun v21 _ hr=>?_
  refine rn tk 12 rfl ?_;cases hr;exact krSw tk (.inr rfl) rfl (fun _ _ h=>h) (zCa rfl kXa)
 refine rn tk 2 rfl ?_;cases hr;exact krSw tk (.inr rfl) rfl (fun _ _ h=>qCb h _) (zCa rfl kXa)
theorem qDb{g:G}{s:Str}{v:Value}(h:Rel g (.s s) v):v=.string (strB s):=zKa h
theorem vOb{g:G}{w' :World}(h:Below g.w.heap.size g.w w'):Old (fun _=>False) g ⟨w',g.u,g.loc⟩:=
 ⟨h.os,h.tape,h.output,⟨h.size,fun _ _=>jAm _,fun k i hk _=>by simp only[World.cell?];rw[h.block k hk],fun r hr=>(h.block r (zVa hr)).trans hr⟩,fun k hk _=>⟨h.block k hk,rfl⟩⟩
theorem Qra(s t:Str)(r:Str)(hr:vCa s t=some r):Run prog 215 [.s s,.s t] (.s r):=by
 unfold vCa at hr;split at hr
 case isFalse=>cases hr
 rename_i hc;obtain ⟨h1,h2,h3⟩:=hc;cases hr;refine ⟨⟨_,_,⟨func215,rfl,by kernel_rfl⟩⟩,fun g vs hw hg ha=>?_⟩;obtain ⟨hsz,hrel⟩:=ha;obtain ⟨l⟩:=vs
 match l,hsz with
 | [x,y],_=>
  obtain rfl:=qDb (hrel 0 _ rfl);obtain rfl:=qDb (hrel 1 _ rfl);have h116:(prog.info? 212).map (fun i=>(i.zero,i.size))=some (some (.agg (Array.replicate 256 (.bool false))),256):=by kernel_rfl
  refine callsIn_wide.2 ((Any.strings_TrimLeft_laid Tryz.lays161 h116 (strB s) (strB t) g.w (by rw[zta];exact h2) (ascii_of_all (by simpa[J3a,strB]using h3))).mono ?_);rintro e w' ⟨rfl,hb⟩;refine ⟨⟨w',g.u,g.loc⟩,_,rfl,(by intros;rfl),vOb hb,fun k hk=>hw k (jAt hb.size hk),rfl,?_⟩;rw[show (strB s).data.toList=s by simp[strB],show (strB t).data.toList=t by simp[strB]];exact .pv (.b rfl)
theorem zQa(a0:zfa)(r:zfa)(hr:zBa a0=some r):RunS prog 194 [.ptr 90008000 0] (zfa.sto a0) (.tup []) (zfa.sto r) 90008000 []:=by
 unfold zBa at hr;refine rfS (fn:=f194) (H:=90008999) (.ptr 90008000 0) ⟨func194,rfl,by kernel_rfl⟩ rfl (hasT rfl) (.inl ⟨rfl,rfl⟩) rfl rfl rfl rfl fun g0 hg S sg T=>?_
 refine clx 6 hr (Qra _ _) fun v1 _ hr=>?_
 exact sxx 4 hr
theorem qEb{g:G}{s:Str}{v:Value}(h:Rel g (.s s) v):v=.string (strB s):=zKa h
theorem KFa(s t:Str)(r:Str × Bool)(hr:kma s t=some r):Run prog 213 [.s s,.s t] (.tup [.s r.1,.bo r.2]):=by
 unfold kma at hr;split at hr
 case isFalse=>cases hr
 rename_i hlen;cases hr;refine ⟨⟨_,_,⟨func213,rfl,by kernel_rfl⟩⟩,fun g vs hw hg ha=>?_⟩;obtain ⟨hsz,hrel⟩:=ha;obtain ⟨l⟩:=vs
 match l,hsz with
 | [x,y],_=>
  obtain rfl:=qEb (hrel 0 _ rfl);obtain rfl:=qEb (hrel 1 _ rfl);refine callsIn_wide.2 ((Tryz.strings_CutSuffix (strB s) (strB t) g.w (by rw[zta];exact hlen)).mono ?_);rintro e w' ⟨rfl,rfl⟩;refine ⟨g,_,rfl,rfl,Old.refl _ g,hw,rfl,.tup rfl fun i c hi=>?_⟩
  match i,hi with
  | 0,rfl=>exact .pv (.b rfl)
  | 1,rfl=>exact .pv (.b rfl)
theorem VJa(g:G)(e:TypeId)(s:ByteArray):Old (fun _=>False) g ⟨Lib.bytesWorld g.w e s,g.u,g.loc⟩:=by
 generalize hw:Lib.bytesWorld g.w e s=w';unfold Lib.bytesWorld at hw;have hother:∀q,q < g.w.heap.size->w'.heap[q]? =g.w.heap[q]? :=by
  intro q hq;subst hw;simp only[World.freeze,Nat.one_ne_zero,if_false,jBl];rw[if_neg (by omega)];exact Below.heap_alloc g.w.drew _ _ hq
 have hws:w'.heap.size=g.w.heap.size+1:=by subst hw;simp[World.freeze]
 refine ⟨by subst hw;first | (simp[World.freeze];done) | (simp[World.freeze];rfl),by subst hw;first | (simp[World.freeze];done) | (simp[World.freeze];rfl),by subst hw;first | (simp[World.freeze];done) | (simp[World.freeze];rfl),⟨by show g.w.heap.size<=w'.heap.size;omega,fun _ _=>jAm _,fun k i hk hi=>?_,fun r hr=>(hother r (zVa hr)).trans hr⟩,fun k hk _=>⟨hother k hk,rfl⟩⟩;simp only[World.cell?];rw[hother k hk]
theorem Wea{g:G}{w' :World}(h:Below g.w.heap.size g.w w'):Old (fun _=>False) g ⟨w',g.u,g.loc⟩:=
 ⟨h.os,h.tape,h.output,⟨h.size,fun _ _=>jAm _,fun k i hk _=>by simp only[World.cell?];rw[h.block k hk],fun r hr=>(h.block r (zVa hr)).trans hr⟩,fun k hk _=>⟨h.block k hk,rfl⟩⟩
theorem wyb{g:G}(hg:Gl g){k:Nat}(hk:k∈qSb):∃tp x,g.w.cell? ⟨k,0,none⟩=some (.iface tp x):=by
 obtain ⟨tp,x,t,fz,h⟩:=hg.2.2 k hk;exact ⟨tp,x,by simp[World.cell?,h]⟩
theorem err_var {g : G} (hg : Gl g) : ∃ tp p, g.w.var? prog "strconv.ErrSyntax" = some #[.iface tp p] := by
 obtain ⟨tp,x,t,fz,h⟩:=hg.2.2 6 (by simp[qSb]);have hn : prog.globalNamed "strconv.ErrSyntax" = some 6 := by kernel_rfl
 refine ⟨tp,x,?_⟩;unfold World.var?;rw[hn];simp only[jAc];rw[h]
theorem WMa(s:Str)(r:Int × Bool)(hr:qva s=some r):Run prog 230 [.s s] (.tup [.i r.1,.ifc r.2]):=by
 unfold qva at hr;refine ⟨⟨_,_,⟨func230,rfl,by kernel_rfl⟩⟩,fun g vs hw hg ha=>?_⟩;obtain ⟨hsz,hrel⟩:=ha;obtain ⟨l⟩:=vs
 match l,hsz with
 | [x],_=>
  obtain rfl:=str_argN (hrel 0 _ rfl);have two:∀{g' :G} {n:Int} {v:Value} {b:Bool},Rel g' (.ifc b) v->Rel g' (.tup [.i n,.ifc b]) (.tuple #[.int .i64 n,v]):=fun h=>.tup rfl fun i c hi=>by
   match i,hi with
   | 0,rfl=>exact .pv (.b rfl)
   | 1,rfl=>exact h
  split at hr
  .rename_i hlen;cases hn:Lib.atoi s with
   | none=>
    rw[hn]at hr;cases hr;obtain ⟨tp,p,hvar⟩:=err_var hg;refine callsIn_wide.2 ((Tryz.strconv_Atoi_err_var (strB s) (by rw[zta];exact hlen) (by simpa[strB]using hn) tp p g.w hvar).mono ?_);rintro e w' ⟨N,rfl,_,_,hb⟩;exact ⟨⟨w',g.u,g.loc⟩,_,rfl,rfl,Wea hb,fun k hk=>hw k (jAt hb.size hk),rfl,two (.ifc rfl)⟩
   | some n=>
    rw[hn]at hr;cases hr;refine callsIn_wide.2 ((Tryz.strconv_Atoi (strB s) n (by rw[zta];exact hlen) (by simpa[strB]using hn) g.w).mono ?_);rintro e w' ⟨rfl,t,rfl⟩;exact ⟨⟨_,g.u,g.loc⟩,_,rfl,rfl,VJa g _ _,fun k hk=>hw k (jAt (VJa g _ _).ext.size hk),rfl,two (.ifc rfl)⟩
  split at hr
  case isFalse=>cases hr
  rename_i hlen;have hs:(strB s).size<=281474976710656:=by rw[zta];exact hlen
  cases hn:Lib.atoiAll s with
  | ok v=>
   rw[hn]at hr;cases hr;refine callsIn_wide.2 ((Any.strconv_Atoi_ok Tryz.laysC172 (strB s) (jAt hs (by decide)) v (by simpa[strB]using hn) g.w).mono ?_);rintro e w' ⟨rfl,rfl | ⟨t,rfl⟩⟩
   .exact ⟨g,_,rfl,rfl,Old.refl _ g,hw,rfl,two (.ifc rfl)⟩
   exact ⟨⟨_,g.u,g.loc⟩,_,rfl,rfl,VJa g _ _,fun k hk=>hw k (jAt (VJa g _ _).ext.size hk),rfl,two (.ifc rfl)⟩
  | range=>
   rw[hn]at hr;cases hr;obtain ⟨tp,p,hc⟩:=wyb hg (k:=7) (by simp[qSb]);refine callsIn_wide.2 ((Any.strconv_Atoi_range Tryz.laysC172 (strB s) hs (by simpa[strB]using hn) _ g.w hc (.inr ⟨tp,p,rfl⟩)).mono ?_);rintro e w' ⟨N,rfl,_,_,hb⟩;have e0:(strB s).data.toList=s:=by simp[strB]
   rw[e0];exact ⟨⟨w',g.u,g.loc⟩,_,rfl,rfl,Wea hb,fun k hk=>hw k (jAt hb.size hk),rfl,two (.ifc rfl)⟩
  | _=>
   rw[hn]at hr;cases hr;obtain ⟨tp,p,hc⟩:=wyb hg (k:=6) (by simp[qSb]);refine callsIn_wide.2 ((Any.strconv_Atoi_syntax Tryz.laysC172 (strB s) hs (by simpa[strB]using hn) _ g.w hc (.inr ⟨tp,p,rfl⟩)).mono ?_);rintro e w' ⟨N,rfl,_,_,hb⟩;exact ⟨⟨w',g.u,g.loc⟩,_,rfl,rfl,Wea hb,fun k hk=>hw k (jAt hb.size hk),rfl,two (.ifc rfl)⟩
theorem WNa(a0:Str)(a1:Int)(r:Int × Bool)(hr:wWa a0 a1=some r):Run prog 214 [.s a0,.i a1] (.tup [.i r.1,.bo r.2]):=by
 unfold wWa at hr;refine rfx (fn:=f214) func214 fun g0 hg=>?_
 refine clx 9 hr (WMa _) fun v1 _ hr=>?_
 refine jq 8 hr [6] [] (fun j3=>[(29,.bo j3)]) (fun _=>[]) (fun j3 hr=>?_) (fun j3 hr=>?_)
 .refine rn tk 2 rfl<|wq (ev_ifneq rfl rfl web) rfl rfl rfl ?_;refine bx 1 15 hr (fun c4 hr=>?_) fun c4 hr=>?_
  .exact jx 15 hr
  refine rn tk 1 rfl ?_;obtain ⟨v5,h6,hr⟩:=zaa hr;refine ug rfl rfl rfl<|cl (kWa _ _ h6) rfl rfl ?_;refine bx 4 21 hr (fun c7 hr=>?_) fun c7 hr=>?_
  .exact jx 9 hr
  refine bx 4 25 hr (fun c8 hr=>?_) fun c8 hr=>?_
  .exact jx 5 hr
  exact jx 5 hr
 refine ax 0 29 hr (fun hr=>?_) fun hr=>?_
 .exact kx 8 hr
 exact kx 10 hr
theorem k3a(a0:zfa)(a1:UInt8)(r:Bool × zfa)(hr:z3a a0 a1=some r):RunS prog 192 [.ptr 90008000 0,.u8 a1] (zfa.sto a0) (.bo r.1) (zfa.sto r.2) 90008000 []:=by
 unfold z3a at hr;refine rfS (fn:=f192) (H:=90008999) (.ptr 90008000 0) ⟨func192,rfl,by kernel_rfl⟩ rfl (hasT rfl) (.inl ⟨rfl,rfl⟩) rfl rfl rfl rfl fun g0 hg S sg T=>?_
 refine csx 8 hr (zQa a0) fun v1 _ hr=>?_
 refine jq 3 hr [0] [90008000,90008999] (fun j3=>[(20,.bo j3)]) (fun _=>[]) (fun j3 hr=>?_) (fun j3 hr=>?_)
 .refine bx 7 12 hr (fun c4 hr=>?_) fun c4 hr=>?_
  .exact jx 9 hr
  refine rn tk 4 rfl ?_;obtain ⟨v5,h6,hr⟩:=zaa hr;refine ug rfl rfl rfl<|ws tk h6 rfl rfl rfl rfl ?_;exact jx 4 hr
 refine ax 0 20 hr (fun hr=>?_) fun hr=>?_
 .exact sxx 7 hr
 refine rn tk 9 rfl ?_;obtain ⟨v8,h9,hr⟩:=zaa hr;refine wscL tk h9 rfl rfl rfl rfl ?_;exact sxx 11 hr
theorem vNa(a0:UInt8)(r:Bool)(hr:kRa a0=some r):Run prog 191 [.u8 a0] (.bo r):=by
 unfold kRa at hr;refine rfx (fn:=f191) func191 fun g0 hg=>?_
 refine jq 5 hr [] [] (fun j1=>[(2,.bo j1)]) (fun _=>[]) (fun j1 hr=>?_) (fun j1 hr=>?_)
 .refine bx 4 5 hr (fun c2 hr=>?_) fun c2 hr=>?_
  .refine bx 4 9 hr (fun c3 hr=>?_) fun c3 hr=>?_
   .refine rn tk 1 rfl ?_;obtain ⟨v4,h5,hr⟩:=zaa hr;refine ug rfl rfl rfl<|cl (zNa _ _ _ h5) rfl rfl ?_;exact jx 4 hr
   exact jx 6 hr
  exact jx 10 hr
 exact kx 1 hr
theorem Z6a(a0:zfa)(r:Str × Bool × zfa)(hr:k2a a0=some r):RunS prog 212 [.ptr 90008000 0] (zfa.sto a0) (.tup [.s r.1,.bo r.2.1]) (zfa.sto r.2.2) 90008000 []:=by
 unfold k2a at hr;refine rfS (fn:=Tryz.f212) (H:=90008999) (.ptr 90008000 0) ⟨func212,rfl,by kernel_rfl⟩ rfl (hasT rfl) (.inl ⟨rfl,rfl⟩) rfl rfl rfl rfl fun g0 hg S sg T=>?_
 refine csx 10 hr (k3a _ _) fun v1 _ hr=>?_
 refine ax 3 9 hr (fun hr=>?_) fun hr=>?_
 .refine iq 3 100000 [] (fn:=f190) ⟨func190,rfl,by kernel_rfl⟩ fun T1 ds1=>?_
  refine csx 8 hr (zQa v1.2) fun v4 _ hr=>?_
  refine aq1 9 hr [0,1] [90008000,199999,90008999] (fun s6=>[(5,.i s6)]) (fun _=>[]) (.exit 0) [0] [90008000,199999,90008999] (fun b7=>[(5,.i b7)]) (fun _=>[]) (fun s6 x8 hr=>?_) (fun b7 hr=>?_)
  .unfold q3a at hr;refine jq 1 hr [0,1,5] [90008000,199999,90008999] (fun j9=>[(25,.bo j9)]) (fun _=>[]) (fun j9 hr=>?_) (fun j9 hr=>?_)
   .refine bx 9 16 hr (fun c10 hr=>?_) fun c10 hr=>?_
    .refine rn tk 6 rfl ?_;obtain ⟨v11,h12,hr⟩:=zaa hr;refine ug rfl rfl rfl<|ws tk h12 rfl rfl rfl rfl<|ug rfl rfl rfl ?_;refine iq 0 500000 [0,1,5,16,17,18,19,20,21,22,23] (fn:=Tryz.f228) ⟨func228,rfl,by kernel_rfl⟩ fun T5 ds5=>?_
     refine jq 5 hr [] [599999,500000,500001,500005,500016,500017,500018,500019,500020,500021,500022,500023,90008000,199999,90008999] (fun j13=>[(2,.bo j13)]) (fun _=>[]) (fun j13 hr=>?_) (fun j13 hr=>?_)
     .refine clx 2 hr (vNa _) fun v14 _ hr=>?_
      refine bx 1 5 hr (fun c16 hr=>?_) fun c16 hr=>?_
      .exact jx 13 hr
      refine bx 4 9 hr (fun c17 hr=>?_) fun c17 hr=>?_
      .exact jx 9 hr
      refine bx 4 13 hr (fun c18 hr=>?_) fun c18 hr=>?_
      .exact jx 5 hr
      exact jx 5 hr
     refine ieq 1 (hO ?_);exact jx 2 hr
    exact jx 10 hr
   refine ax 0 25 hr (fun hr=>?_) fun hr=>?_
   .exact cx 9 hr
   exact ox 2 hr
  refine rn tk 9 rfl ?_;obtain ⟨v20,h21,hr⟩:=zaa hr;refine wscH tk h21 rfl rfl rfl rfl<|rn tk 11 rfl ?_;obtain ⟨v22,h23,hr⟩:=zaa hr;refine wscL tk h23 rfl rfl rfl rfl ?_;refine ieq 12 (hO ?_);exact sxx 6 hr
 refine rn tk 5 rfl ?_;refine zUa 1004 (d:=4) 5 1 rfl rfl rfl (hO ?_);refine aq2 9 hr [0,4] [90008000,90008999] (fun s24=>[(5,.i s24.1)]) (fun s24=>[(1004,.row 5 false 1 (List.map cU s24.2))]) (.exit 0) [] [90008000,90008999] (fun _=>[]) (fun _=>[]) .ret [] [90008999] (fun b26=>[(2,.s b26.1),(3,.bo b26.2.1)]) (fun b26=>zfa.sto b26.2.2) (fun s24 x28 hr=>?_) (fun b25 hr=>?_) (fun b26 hr=>?_)
 .unfold q4a at hr;refine ax 12 18 hr (fun hr=>?_) fun hr=>?_
  .refine jkq 2 [0,4] [90008000,90008999] (fun j30=>[(5,.i j30.1)]) (fun j30=>[(1004,.row 5 false 1 (List.map cU j30.2))]) (fun j30=>ksa j30=some x28) ?_ ?_
   .refine rn tk 8 rfl ?_;obtain ⟨v31,h32,hr⟩:=zaa hr;refine ws tk h32 rfl rfl rfl rfl ?_;refine ax 15 32 hr (fun hr=>?_) fun hr=>?_
    .refine rn tk 9 rfl ?_;obtain ⟨v34,h35,hr⟩:=zaa hr;refine wscL tk h35 rfl rfl rfl rfl<|rn tk 8 rfl ?_;refine jia (d:=44) (F:=cU) (l:=s24.2) rfl rfl (hO ?_);refine wb tk rfl rfl rfl ?_;exact ox 8 hr
    refine ax 6 46 hr (fun hr=>?_) fun hr=>?_
    .refine ax 19 56 hr (fun hr=>?_) fun hr=>?_
     .exact ox 11 hr
     refine rn tk 9 rfl ?_;obtain ⟨v38,h39,hr⟩:=zaa hr;refine ws tk h39 rfl rfl rfl rfl<|wz cU ([v38]:List UInt8) tk rfl rfl (fun _=>rfl) rfl rfl rfl ?_;obtain ⟨v40,h41,hr⟩:=zaa hr;refine wa tk h41 rfl rfl rfl rfl (fun _=>rfl) rfl rfl<|rn tk 4 rfl<|jn (((w64 (s24.1+1)),v40)) hr rfl rfl
    refine rn tk 3 rfl<|wz cU ([v31]:List UInt8) tk rfl rfl (fun _=>rfl) rfl rfl rfl ?_;obtain ⟨v42,h43,hr⟩:=zaa hr;refine wa tk h43 rfl rfl rfl rfl (fun _=>rfl) rfl rfl<|rn tk 4 rfl<|jn ((s24.1,v42)) hr rfl rfl
   intro j30 hr;unfold ksa at hr;exact cx 5 hr
  exact ox 2 hr
 .exact sxx 9 hr
 exact sxx 2 hr
theorem KGa(a0:zfa)(r:zca × Bool × zfa)(hr:qta a0=some r):RunS prog 193 [.ptr 90008000 0] (zfa.sto a0) (.tup [.agg [.s r.1.name,.i r.1.number,.bo r.1.star,.s r.1.value],.bo r.2.1]) (zfa.sto r.2.2) 90008000 []:=by
 unfold qta at hr;refine rfS (fn:=f193) (H:=90008999) (.ptr 90008000 0) ⟨func193,rfl,by kernel_rfl⟩ rfl (hasT rfl) (.inl ⟨rfl,rfl⟩) rfl rfl rfl rfl fun g0 hg S sg T=>?_
 refine iq 9 100000 [0,2] (fn:=f190) ⟨func190,rfl,by kernel_rfl⟩ fun T1 ds1=>?_
 refine csx 8 hr (zQa a0) fun v1 _ hr=>?_
 refine aq1 9 hr [0,1] [90008000,199999,100000,100002,2,90008999] (fun s3=>[(5,.i s3)]) (fun _=>[]) (.exit 0) [0] [90008000,199999,100000,100002,2,90008999] (fun b4=>[(5,.i b4)]) (fun _=>[]) (fun s3 x5 hr=>?_) (fun b4 hr=>?_)
 .unfold vja at hr;refine jq 1 hr [0,1,5] [90008000,199999,100000,100002,2,90008999] (fun j6=>[(25,.bo j6)]) (fun _=>[]) (fun j6 hr=>?_) (fun j6 hr=>?_)
  .refine bx 9 16 hr (fun c7 hr=>?_) fun c7 hr=>?_
   .refine rn tk 6 rfl ?_;obtain ⟨v8,h9,hr⟩:=zaa hr;refine ug rfl rfl rfl<|ws tk h9 rfl rfl rfl rfl<|ug rfl rfl rfl ?_;refine iq 0 500000 [0,1,5,16,17,18,19,20,21,22,23] (fn:=Tryz.f211) ⟨func211,rfl,by kernel_rfl⟩ fun T5 ds5=>?_
    refine jq 5 hr [] [599999,500000,500001,500005,500016,500017,500018,500019,500020,500021,500022,500023,90008000,199999,100000,100002,2,90008999] (fun j10=>[(2,.bo j10)]) (fun _=>[]) (fun j10 hr=>?_) (fun j10 hr=>?_)
    .refine clx 2 hr (vNa _) fun v11 _ hr=>?_
     refine bx 1 5 hr (fun c13 hr=>?_) fun c13 hr=>?_
     .exact jx 5 hr
     exact jx 5 hr
    refine ieq 1 (hO ?_);exact jx 2 hr
   exact jx 10 hr
  refine ax 0 25 hr (fun hr=>?_) fun hr=>?_
  .exact cx 9 hr
  exact ox 2 hr
 refine rn tk 9 rfl ?_;obtain ⟨v15,h16,hr⟩:=zaa hr;refine wscH tk h16 rfl rfl rfl rfl<|rn tk 11 rfl ?_;obtain ⟨v17,h18,hr⟩:=zaa hr;refine wscL tk h18 rfl rfl rfl rfl ?_;refine ieq 12 (hO ?_);refine csx 7 hr (k3a _ _) fun v19 _ hr=>?_
 refine ax 3 17 hr (fun hr=>?_) fun hr=>?_
 .exact sxx 9 hr
 refine csx 5 hr (Z6a v19.2) fun v22 _ hr=>?_
 refine clx 18 hr (y8a _ _) fun v24 _ hr=>?_
 refine jq 16 hr [2,7,8] [90008000,2,90008999] (fun j26=>[(6,.bo j26.1)]) (fun j26=>[(7,.cells [.s v24.1,.i j26.2.1,.bo j26.2.2,.s v22.1])]) (fun j26 hr=>?_) (fun j26 hr=>?_)
 .refine ax 5 34 hr (fun hr=>?_) fun hr=>?_
  .refine clx 3 hr (KFa _ _) fun v28 _ hr=>?_
   refine clx 11 hr (WNa _ _) fun v30 _ hr=>?_
   refine bx 17 49 hr (fun c32 hr=>?_) fun c32 hr=>?_
   .exact jx 4 hr
   exact jx 4 hr
  exact jx 1 hr
 refine jq 0 hr [2] [90008000,90008999] (fun j33=>[(3,.bo j33)]) (fun _=>[(2,.cells [.s v24.1,.i j26.2.1,.bo j26.2.2,.s v22.1])]) (fun j33 hr=>?_) (fun j33 hr=>?_)
 .refine bx 4 54 hr (fun c34 hr=>?_) fun c34 hr=>?_
  .exact jx 6 hr
  exact jx 6 hr
 exact sxx 1 hr
end Go.Proofs.YthbbeodmpnmopaaGreatDoor
