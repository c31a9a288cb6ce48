/- Part 5 of the proof of the law DigestRoundTrips: what it needs. -/
import Derived.Test.YtpphhgbmooofgaaGreatDoorKDigestRoundTrips4
import Derived.Shelf.Strings.Builder1
import Derived.Shelf.Strings.Builder2
import Derived.Shelf.Strings.OnBuilder
import Derived.Shelf.Strings.Trim
import Derived.Shelf.Small.Utf8
import Derived.Shelf.Small.Bits
import Derived.Shelf.Small.Strs
import Derived.Shelf.Small.Wraps
import Derived.Shelf.Strings.BuilderF
import Derived.Shelf.Strconv.Atoi
import Derived.Shelf.Strconv.Itoa0
import Derived.Shelf.Strconv.Itoa1
import Derived.Shelf.LaysM
import Derived.Shelf.Strconv.Itoa2
import Derived.Shelf.Strconv.Itoa3
import Derived.Shelf.Strconv.AtoiErrFast
import Derived.Shelf.Strconv.ParseIntEmpty
import Derived.Shelf.Strconv.AtoiFail
import Derived.Shelf.Strconv.Clone
import Derived.Shelf.Strconv.SyntaxError
import Derived.Shelf.LaysC
import Derived.Shelf.Strconv.ToError
import Derived.Shelf.Strconv.AtoiErr
import Derived.Shelf.Strconv.ErrVar
import Derived.Shelf.Strings.Search1
import Derived.Shelf.Strings.Search2
import Derived.Shelf.Strings.Search3
import Derived.Shelf.Strings.Cut
import Derived.Shelf.Strings.Count
import Derived.Shelf.Strings.Shaped
import Derived.Shelf.Strings.Prefix
import Derived.Shelf.Strings.Split
import Derived.Shelf.Strings.Runes
import Derived.Shelf.Strings.IndexAny
import Derived.Shelf.Strings.AsciiSet
import Derived.Shelf.Strings.IndexAnyAll
import Derived.Shelf.Bits.Mul64
import Derived.Shelf.Strings.Repeat
import Derived.Shelf.Unicode.DecodeSlow
import Derived.Shelf.Unicode.DecodeAny
import Derived.Shelf.Bytes.SlIndexSmall
import Derived.Shelf.Bytes.SlIndexAt
import Derived.Shelf.Bytes.SlSearch0
import Derived.Shelf.Bytes.SlSearch1
import Derived.Shelf.Bytes.SlSearch2
import Derived.Shelf.Bytes.SlIndexWhole
import Derived.Shelf.Bytes.SlSmallAll
import Derived.Shelf.Bytes.SlEqualAll
import Derived.Shelf.Bytes.Small
import Derived.Shelf.Bytes.IndexByte
import Derived.Test.YtpphhgbmooofgaaGreatDoorProg
import Derived.Shelf.Strings.SlTrimAscii
set_option linter.unusedVariables false
set_option linter.unusedSimpArgs false
set_option maxRecDepth 100000
set_option maxHeartbeats 40000000
namespace Go.Proofs
open Go.Shelf
def Tryz.lays156_ren:Go.Shelf.Ren:=⟨fun | 156=>66 | 165=>101 | 166=>102 | 169=>103 | 240=>134 | 241=>135 | 276=>172 | 277=>173 | n=>n,fun | 31=>54 | 9=>9 | 3=>3 | 4=>4 | 0=>0 | 20=>20 | 72=>152 | 76=>156 | 70=>150 | 37=>24 | 75=>155 | 127=>188 | 164=>217 | 5=>5 | 80=>158 | n=>n,fun | n=>n⟩
theorem Tryz.cqz{α:Type}{a:Option α}{x y:α}(h:a=some x)(e:x=y):a=some y:=h.trans (congrArg some e)
theorem Tryz.lays156:Go.Proofs.Lays.n156 prog Tryz.lays156_ren:=⟨by kernel_rfl,cqz func66 (by kernel_rfl),cqz func101 (by kernel_rfl),cqz func102 (by kernel_rfl),cqz func103 (by kernel_rfl),cqz func134 (by kernel_rfl),cqz func135 (by kernel_rfl),cqz func172 (by kernel_rfl),cqz func173 (by kernel_rfl),underlying0,isAgg0,sizeOf0,zeroValue0,underlying3,isAgg3,sizeOf3,zeroValue3,underlying4,isAgg4,sizeOf4,zeroValue4,underlying9,isAgg9,sizeOf9,zeroValue9,underlying20,isAgg20,sizeOf20,zeroValue20,underlying54,isAgg54,sizeOf54,zeroValue54,underlying24,isAgg24,sizeOf24,zeroValue24,underlying150,isAgg150,sizeOf150,zeroValue150,underlying152,isAgg152,sizeOf152,zeroValue152,underlying155,isAgg155,sizeOf155,zeroValue155,underlying156,isAgg156,sizeOf156,zeroValue156,underlying188,isAgg188,sizeOf188,zeroValue188,underlying217,isAgg217,sizeOf217,zeroValue217⟩
theorem Tryz.Builder_Extra_156:Builder.Extra prog Tryz.lays156_ren:={
 sizeBuilder:=by kernel_rfl
 liesBuilder:=by kernel_rfl
 t5:=underlying5
 a5:=isAgg5
 z5:=sizeOf5
 v5:=zeroValue5
 infoByte:=by kernel_rfl
 cellsByte:=by kernel_rfl
 sizeByte:=by kernel_rfl
 neB5:=by decide}
open Go.RowKit in
theorem Tryz.strings_Join_none(a:Option Addr)(c:Nat)(sep:ByteArray)(w:World):
 Calls prog 66 #[.slice a 0 c,.string sep] w fun e w' =>e=.returned (.string ⟨#[]⟩)/\w' =w:=Any.strings_Join_none Tryz.lays156 Tryz.Builder_Extra_156 a c sep w
open Go.RowKit in
theorem Tryz.strings_Join(bk o c:Nat)(xs:List ByteArray)(sep:ByteArray)(w:World)(hcells:∀(j:Nat) x,xs[j]? =some x->w.cell? ⟨bk,o+j,none⟩=some (.string x))(hbk:bk < w.heap.size)(hN:xs.length<=140737488355328)(hcap:xs.length<=c)(hlen:(Lib.join (xs.map (·.data.toList)) sep.data.toList).length<=140737488355328):
 Calls prog 66 #[.slice (some ⟨bk,o,none⟩) xs.length c,.string sep] w fun e w' =>e=.returned (.string ⟨(Lib.join (xs.map (·.data.toList)) sep.data.toList).toArray⟩)/\Below w.heap.size w w' :=Any.strings_Join Tryz.lays156 Tryz.Builder_Extra_156 bk o c xs sep w hcells hbk hN hcap hlen
def Tryz.lays161_ren:Go.Shelf.Ren:=⟨fun | 161=>215 | 231=>197 | 227=>199 | 233=>200 | 235=>202 | 228=>223 | 197=>224 | 151=>225 | 260=>243 | 152=>244 | 137=>95 | 119=>260 | 224=>183 | 225=>204 | 217=>127 | 266=>167 | n=>n,fun | 9=>9 | 4=>4 | 3=>3 | 5=>5 | 117=>262 | 116=>261 | 0=>0 | 124=>265 | 105=>278 | 21=>21 | 119=>237 | 46=>184 | 139=>240 | 138=>239 | n=>n,fun | 3=>2 | 4=>3 | n=>n⟩
theorem Tryz.lays161:Go.Proofs.Lays.n161 prog Tryz.lays161_ren:=⟨by kernel_rfl,cqz func260 (by kernel_rfl),cqz func95 (by kernel_rfl),cqz func225 (by kernel_rfl),cqz func244 (by kernel_rfl),cqz func215 (by kernel_rfl),cqz func224 (by kernel_rfl),cqz func127 (by kernel_rfl),cqz func183 (by kernel_rfl),cqz func204 (by kernel_rfl),cqz func199 (by kernel_rfl),cqz func223 (by kernel_rfl),cqz func197 (by kernel_rfl),cqz func200 (by kernel_rfl),cqz func202 (by kernel_rfl),cqz func243 (by kernel_rfl),cqz func167 (by kernel_rfl),underlying0,isAgg0,sizeOf0,zeroValue0,underlying3,isAgg3,sizeOf3,zeroValue3,underlying4,isAgg4,sizeOf4,zeroValue4,underlying5,isAgg5,sizeOf5,zeroValue5,underlying9,isAgg9,sizeOf9,zeroValue9,underlying21,isAgg21,sizeOf21,zeroValue21,underlying184,isAgg184,sizeOf184,zeroValue184,underlying278,isAgg278,sizeOf278,zeroValue278,underlying261,isAgg261,sizeOf261,underlying262,isAgg262,sizeOf262,zeroValue262,underlying237,isAgg237,sizeOf237,underlying265,isAgg265,sizeOf265,zeroValue265,underlying239,isAgg239,sizeOf239,zeroValue239,underlying240,isAgg240,sizeOf240,zeroValue240,by kernel_rfl,by kernel_rfl⟩
def Tryz.lays162_ren:Go.Shelf.Ren:=⟨fun | 162=>196 | 232=>198 | 227=>199 | 234=>201 | 236=>203 | 228=>223 | 271=>226 | 151=>225 | 120=>245 | 197=>224 | 152=>244 | 260=>243 | 137=>95 | 119=>260 | 224=>183 | 225=>204 | 217=>127 | 266=>167 | n=>n,fun | 9=>9 | 4=>4 | 3=>3 | 5=>5 | 117=>262 | 116=>261 | 0=>0 | 124=>265 | 21=>21 | 105=>278 | 46=>184 | 119=>237 | 139=>240 | 138=>239 | n=>n,fun | 3=>2 | 4=>3 | n=>n⟩
theorem Tryz.lays162:Go.Proofs.Lays.n162 prog Tryz.lays162_ren:=⟨by kernel_rfl,cqz func260 (by kernel_rfl),cqz func245 (by kernel_rfl),cqz func95 (by kernel_rfl),cqz func225 (by kernel_rfl),cqz func244 (by kernel_rfl),cqz func196 (by kernel_rfl),cqz func224 (by kernel_rfl),cqz func127 (by kernel_rfl),cqz func183 (by kernel_rfl),cqz func204 (by kernel_rfl),cqz func199 (by kernel_rfl),cqz func223 (by kernel_rfl),cqz func198 (by kernel_rfl),cqz func201 (by kernel_rfl),cqz func203 (by kernel_rfl),cqz func243 (by kernel_rfl),cqz func167 (by kernel_rfl),cqz func226 (by kernel_rfl),underlying0,isAgg0,sizeOf0,zeroValue0,underlying3,isAgg3,sizeOf3,zeroValue3,underlying4,isAgg4,sizeOf4,zeroValue4,underlying5,isAgg5,sizeOf5,zeroValue5,underlying9,isAgg9,sizeOf9,zeroValue9,underlying21,isAgg21,sizeOf21,zeroValue21,underlying184,isAgg184,sizeOf184,zeroValue184,underlying278,isAgg278,sizeOf278,zeroValue278,underlying261,isAgg261,sizeOf261,underlying262,isAgg262,sizeOf262,zeroValue262,underlying237,isAgg237,sizeOf237,underlying265,isAgg265,sizeOf265,zeroValue265,underlying239,isAgg239,sizeOf239,zeroValue239,underlying240,isAgg240,sizeOf240,zeroValue240,by kernel_rfl,by kernel_rfl⟩
def Tryz.lays160_ren:Go.Shelf.Ren:=⟨fun | 160=>162 | 232=>198 | 231=>197 | 227=>199 | 234=>201 | 233=>200 | 236=>203 | 235=>202 | 228=>223 | 271=>226 | 151=>225 | 197=>224 | 120=>245 | 152=>244 | 260=>243 | 137=>95 | 119=>260 | 224=>183 | 225=>204 | 217=>127 | 266=>167 | n=>n,fun | 9=>9 | 4=>4 | 3=>3 | 5=>5 | 117=>262 | 116=>261 | 0=>0 | 124=>265 | 21=>21 | 105=>278 | 46=>184 | 119=>237 | 139=>240 | 138=>239 | n=>n,fun | 3=>2 | 4=>3 | n=>n⟩
theorem Tryz.lays160:Go.Proofs.Lays.n160 prog Tryz.lays160_ren:=⟨by kernel_rfl,cqz func260 (by kernel_rfl),cqz func245 (by kernel_rfl),cqz func95 (by kernel_rfl),cqz func225 (by kernel_rfl),cqz func244 (by kernel_rfl),cqz func162 (by kernel_rfl),cqz func224 (by kernel_rfl),cqz func127 (by kernel_rfl),cqz func183 (by kernel_rfl),cqz func204 (by kernel_rfl),cqz func199 (by kernel_rfl),cqz func223 (by kernel_rfl),cqz func197 (by kernel_rfl),cqz func198 (by kernel_rfl),cqz func200 (by kernel_rfl),cqz func201 (by kernel_rfl),cqz func202 (by kernel_rfl),cqz func203 (by kernel_rfl),cqz func243 (by kernel_rfl),cqz func167 (by kernel_rfl),cqz func226 (by kernel_rfl),underlying0,isAgg0,sizeOf0,zeroValue0,underlying3,isAgg3,sizeOf3,zeroValue3,underlying4,isAgg4,sizeOf4,zeroValue4,underlying5,isAgg5,sizeOf5,zeroValue5,underlying9,isAgg9,sizeOf9,zeroValue9,underlying21,isAgg21,sizeOf21,zeroValue21,underlying184,isAgg184,sizeOf184,zeroValue184,underlying278,isAgg278,sizeOf278,zeroValue278,underlying261,isAgg261,sizeOf261,underlying262,isAgg262,sizeOf262,zeroValue262,underlying237,isAgg237,sizeOf237,underlying265,isAgg265,sizeOf265,zeroValue265,underlying239,isAgg239,sizeOf239,zeroValue239,underlying240,isAgg240,sizeOf240,zeroValue240,by kernel_rfl,by kernel_rfl⟩
def Tryz.lays137_ren:Go.Shelf.Ren:=⟨fun | 137=>95 | 217=>127 | 266=>167 | n=>n,fun | 9=>9 | 5=>5 | 3=>3 | n=>n,fun | n=>n⟩
theorem Tryz.lays137:Go.Proofs.Lays.n137 prog Tryz.lays137_ren:=⟨by kernel_rfl,cqz func95 (by kernel_rfl),cqz func127 (by kernel_rfl),cqz func167 (by kernel_rfl),underlying3,isAgg3,sizeOf3,zeroValue3,underlying5,isAgg5,sizeOf5,zeroValue5,underlying9,isAgg9,sizeOf9,zeroValue9⟩
open Go.RowKit in
theorem Tryz.strings_IndexByte(s:ByteArray)(c:Int)(w:World):
 Calls prog 95 #[.string s,.int .u8 c] w fun e w' =>e=.returned (.int .i64 (Lib.indexByte s.data.toList c.toNat.toUInt8))/\w' =w:=Any.strings_IndexByte Tryz.lays137 s c w
def Tryz.lays104_ren:Go.Shelf.Ren:=⟨fun | 104=>213 | 211=>230 | 207=>168 | n=>n,fun | 9=>9 | 4=>4 | 24=>34 | 3=>3 | n=>n,fun | n=>n⟩
theorem Tryz.lays104:Go.Proofs.Lays.n104 prog Tryz.lays104_ren:=⟨by kernel_rfl,cqz func213 (by kernel_rfl),cqz func168 (by kernel_rfl),cqz func230 (by kernel_rfl),underlying3,isAgg3,sizeOf3,zeroValue3,underlying4,isAgg4,sizeOf4,zeroValue4,underlying9,isAgg9,sizeOf9,zeroValue9,underlying34,isAgg34,sizeOf34,zeroValue34⟩
open Go.RowKit in
theorem Tryz.strings_CutSuffix(s p:ByteArray)(w:World)(hs:s.size<=9223372036854775807):
 Calls prog 213 #[.string s,.string p] w fun e w' =>e=.returned (.tuple #[.string ⟨(Lib.trimSuffix s.data.toList p.data.toList).toArray⟩,.bool (Lib.hasSuffix s.data.toList p.data.toList)])/\w' =w:=Any.strings_CutSuffix Tryz.lays104 s p w hs
def Tryz.lays172_ren:Go.Shelf.Ren:=⟨fun | 172=>231 | 244=>247 | 245=>248 | 247=>261 | 279=>262 | 280=>263 | 281=>264 | 282=>265 | 287=>285 | 316=>286 | 171=>33 | 205=>287 | 321=>300 | 322=>301 | 243=>69 | 246=>104 | 283=>136 | 284=>137 | 285=>138 | 286=>139 | 129=>175 | 317=>174 | 318=>176 | 319=>177 | 320=>178 | 337=>206 | 338=>207 | n=>n,fun | 9=>9 | 3=>3 | 75=>155 | 76=>156 | 4=>4 | 5=>5 | 167=>322 | 37=>24 | 0=>0 | 85=>323 | 2=>2 | 168=>325 | 53=>190 | 175=>345 | 46=>184 | 210=>348 | 127=>188 | 145=>361 | 143=>359 | 21=>21 | 171=>189 | 173=>193 | 212=>221 | 51=>212 | 20=>20 | 213=>222 | 232=>282 | 233=>283 | 80=>158 | n=>n,fun | 15=>6 | 16=>7 | 17=>0 | 18=>4 | 19=>5 | n=>n⟩
theorem Tryz.lays172:Go.Proofs.Lays.n172 prog Tryz.lays172_ren:=⟨by kernel_rfl,cqz func175 (by kernel_rfl),cqz func33 (by kernel_rfl),cqz func231 (by kernel_rfl),cqz func287 (by kernel_rfl),cqz func69 (by kernel_rfl),cqz func247 (by kernel_rfl),cqz func248 (by kernel_rfl),cqz func104 (by kernel_rfl),cqz func261 (by kernel_rfl),cqz func262 (by kernel_rfl),cqz func263 (by kernel_rfl),cqz func264 (by kernel_rfl),cqz func265 (by kernel_rfl),cqz func136 (by kernel_rfl),cqz func137 (by kernel_rfl),cqz func138 (by kernel_rfl),cqz func139 (by kernel_rfl),cqz func285 (by kernel_rfl),cqz func286 (by kernel_rfl),cqz func174 (by kernel_rfl),cqz func176 (by kernel_rfl),cqz func177 (by kernel_rfl),cqz func178 (by kernel_rfl),cqz func300 (by kernel_rfl),cqz func301 (by kernel_rfl),cqz func206 (by kernel_rfl),cqz func207 (by kernel_rfl),underlying0,isAgg0,sizeOf0,zeroValue0,underlying2,isAgg2,sizeOf2,zeroValue2,underlying3,isAgg3,sizeOf3,zeroValue3,underlying4,isAgg4,sizeOf4,zeroValue4,underlying5,isAgg5,sizeOf5,zeroValue5,underlying9,isAgg9,sizeOf9,zeroValue9,underlying20,isAgg20,sizeOf20,zeroValue20,underlying21,isAgg21,sizeOf21,zeroValue21,underlying24,isAgg24,sizeOf24,zeroValue24,underlying184,isAgg184,sizeOf184,zeroValue184,underlying212,isAgg212,sizeOf212,zeroValue212,underlying190,isAgg190,sizeOf190,zeroValue190,underlying155,isAgg155,sizeOf155,zeroValue155,underlying156,isAgg156,sizeOf156,zeroValue156,underlying323,isAgg323,sizeOf323,zeroValue323,underlying188,isAgg188,sizeOf188,zeroValue188,underlying359,isAgg359,sizeOf359,zeroValue359,underlying361,isAgg361,sizeOf361,zeroValue361,underlying322,isAgg322,sizeOf322,zeroValue322,underlying325,isAgg325,sizeOf325,zeroValue325,underlying189,isAgg189,sizeOf189,zeroValue189,underlying193,isAgg193,sizeOf193,zeroValue193,underlying345,isAgg345,sizeOf345,zeroValue345,underlying348,isAgg348,sizeOf348,zeroValue348,underlying221,isAgg221,sizeOf221,zeroValue221,underlying222,isAgg222,sizeOf222,underlying282,isAgg282,sizeOf282,zeroValue282,underlying283,isAgg283,sizeOf283,zeroValue283,by kernel_rfl,by kernel_rfl,by kernel_rfl,by kernel_rfl,by kernel_rfl⟩
open Go.RowKit in
theorem Tryz.strconv_Atoi(s:ByteArray)(n:Int)(hl:s.size<=18)(h:Lib.atoi s.data.toList=some n)(w:World):
 Calls prog 231 #[.string s] w fun e w' =>e=.returned (.tuple #[.int .i64 n,.nilIface])/\∃t,w' =Lib.bytesWorld w 5 t:=Any.strconv_Atoi Tryz.lays172 s n hl h w
def Tryz.laysM171_ren:Go.Shelf.Ren:=⟨fun | 171=>33 | 243=>69 | 246=>104 | 283=>136 | 284=>137 | 285=>138 | 286=>139 | 129=>175 | 317=>174 | 318=>176 | 319=>177 | 320=>178 | 337=>206 | 338=>207 | n=>n,fun | 3=>3 | 9=>9 | 2=>2 | 4=>4 | 171=>189 | 0=>0 | 53=>190 | 37=>24 | 5=>5 | 173=>193 | 212=>221 | 51=>212 | 20=>20 | 213=>222 | 46=>184 | 232=>282 | 233=>283 | n=>n,fun | 17=>0 | 18=>4 | 19=>5 | n=>n⟩
theorem Tryz.laysM171:Go.Proofs.LaysM.n171 prog Tryz.laysM171_ren:={mixed:=by kernel_rfl,f129:=cqz func175 (by kernel_rfl),f171:=cqz func33 (by kernel_rfl),f243:=cqz func69 (by kernel_rfl),f246:=cqz func104 (by kernel_rfl),f283:=cqz func136 (by kernel_rfl),f284:=cqz func137 (by kernel_rfl),f285:=cqz func138 (by kernel_rfl),f286:=cqz func139 (by kernel_rfl),f317:=cqz func174 (by kernel_rfl),f318:=cqz func176 (by kernel_rfl),f319:=cqz func177 (by kernel_rfl),f320:=cqz func178 (by kernel_rfl),f337:=cqz func206 (by kernel_rfl),f338:=cqz func207 (by kernel_rfl),t0:=underlying0,a0:=isAgg0,z0:=sizeOf0,v0:=zeroValue0,t2:=underlying2,a2:=isAgg2,z2:=sizeOf2,v2:=zeroValue2,t3:=underlying3,a3:=isAgg3,z3:=sizeOf3,v3:=zeroValue3,t4:=underlying4,a4:=isAgg4,z4:=sizeOf4,v4:=zeroValue4,t5:=underlying5,a5:=isAgg5,z5:=sizeOf5,v5:=zeroValue5,t9:=underlying9,a9:=isAgg9,z9:=sizeOf9,v9:=zeroValue9,t20:=underlying20,a20:=isAgg20,z20:=sizeOf20,v20:=zeroValue20,t37:=underlying24,a37:=isAgg24,z37:=sizeOf24,v37:=zeroValue24,t46:=underlying184,a46:=isAgg184,z46:=sizeOf184,v46:=zeroValue184,t51:=underlying212,a51:=isAgg212,z51:=sizeOf212,v51:=zeroValue212,t53:=underlying190,a53:=isAgg190,z53:=sizeOf190,v53:=zeroValue190,t171:=underlying189,a171:=isAgg189,z171:=sizeOf189,v171:=zeroValue189,t173:=underlying193,a173:=isAgg193,z173:=sizeOf193,v173:=zeroValue193,t212:=underlying221,a212:=isAgg221,z212:=sizeOf221,v212:=zeroValue221,t213:=underlying222,a213:=isAgg222,z213:=sizeOf222,t232:=underlying282,a232:=isAgg282,z232:=sizeOf282,v232:=zeroValue282,t233:=underlying283,a233:=isAgg283,z233:=sizeOf283,v233:=zeroValue283,g17:=by kernel_rfl,g18:=by kernel_rfl,g19:=by kernel_rfl,i0:=by kernel_rfl,i2:=by kernel_rfl,i3:=by kernel_rfl,i4:=by kernel_rfl,i5:=by kernel_rfl,i9:=by kernel_rfl,i20:=by kernel_rfl,i37:=by kernel_rfl,i46:=by kernel_rfl,i51:=by kernel_rfl,i53:=by kernel_rfl,i171:=by kernel_rfl,i173:=by kernel_rfl,i212:=by kernel_rfl,i232:=by kernel_rfl,i233:=by kernel_rfl,m17:=by kernel_rfl,m18:=by kernel_rfl,m19:=by kernel_rfl}
open Go.RowKit Go.Sort Go.Lib in
theorem Tryz.strconv_Itoa (n : Int) (h0 : -9223372036854775808 <= n) (h1 : n <= 9223372036854775807) (w : World) (htab : Lib.TabIs prog w "internal/strconv.uint64pow10" .u64 Lib.pow10Tab) :
 Calls prog 33 #[.int .i64 n] w fun e w' =>e=.returned (.string ⟨(Lib.itoa n).toArray⟩)/\∃k os,w' =grow (w.drewN k) os:=Any.strconv_Itoa Tryz.laysM171 n h0 h1 w htab
def Tryz.laysC172_ren:Go.Shelf.Ren:=⟨fun | 172=>231 | 244=>247 | 245=>248 | 247=>261 | 279=>262 | 280=>263 | 281=>264 | 282=>265 | 287=>285 | 316=>286 | 171=>33 | 205=>287 | 321=>300 | 322=>301 | 243=>69 | 246=>104 | 283=>136 | 284=>137 | 285=>138 | 286=>139 | 129=>175 | 317=>174 | 318=>176 | 319=>177 | 320=>178 | 337=>206 | 338=>207 | n=>n,fun | 9=>9 | 3=>3 | 75=>155 | 76=>156 | 4=>4 | 5=>5 | 167=>322 | 37=>24 | 0=>0 | 85=>323 | 2=>2 | 168=>325 | 53=>190 | 175=>345 | 46=>184 | 210=>348 | 127=>188 | 145=>361 | 143=>359 | 21=>21 | 171=>189 | 173=>193 | 212=>221 | 51=>212 | 20=>20 | 213=>222 | 232=>282 | 233=>283 | 80=>158 | n=>n,fun | 15=>6 | 16=>7 | 17=>0 | 18=>4 | 19=>5 | n=>n⟩
theorem Tryz.laysC172:Go.Proofs.LaysC.n172 prog Tryz.laysC172_ren:={mixed:=by kernel_rfl,f129:=cqz func175 (by kernel_rfl),f171:=cqz func33 (by kernel_rfl),f172:=cqz func231 (by kernel_rfl),f205:=cqz func287 (by kernel_rfl),f243:=cqz func69 (by kernel_rfl),f244:=cqz func247 (by kernel_rfl),f245:=cqz func248 (by kernel_rfl),f246:=cqz func104 (by kernel_rfl),f247:=cqz func261 (by kernel_rfl),f279:=cqz func262 (by kernel_rfl),f280:=cqz func263 (by kernel_rfl),f281:=cqz func264 (by kernel_rfl),f282:=cqz func265 (by kernel_rfl),f283:=cqz func136 (by kernel_rfl),f284:=cqz func137 (by kernel_rfl),f285:=cqz func138 (by kernel_rfl),f286:=cqz func139 (by kernel_rfl),f287:=cqz func285 (by kernel_rfl),f316:=cqz func286 (by kernel_rfl),f317:=cqz func174 (by kernel_rfl),f318:=cqz func176 (by kernel_rfl),f319:=cqz func177 (by kernel_rfl),f320:=cqz func178 (by kernel_rfl),f321:=cqz func300 (by kernel_rfl),f322:=cqz func301 (by kernel_rfl),f337:=cqz func206 (by kernel_rfl),f338:=cqz func207 (by kernel_rfl),t0:=underlying0,a0:=isAgg0,z0:=sizeOf0,v0:=zeroValue0,t2:=underlying2,a2:=isAgg2,z2:=sizeOf2,v2:=zeroValue2,t3:=underlying3,a3:=isAgg3,z3:=sizeOf3,v3:=zeroValue3,t4:=underlying4,a4:=isAgg4,z4:=sizeOf4,v4:=zeroValue4,t5:=underlying5,a5:=isAgg5,z5:=sizeOf5,v5:=zeroValue5,t9:=underlying9,a9:=isAgg9,z9:=sizeOf9,v9:=zeroValue9,t20:=underlying20,a20:=isAgg20,z20:=sizeOf20,v20:=zeroValue20,t21:=underlying21,a21:=isAgg21,z21:=sizeOf21,v21:=zeroValue21,t37:=underlying24,a37:=isAgg24,z37:=sizeOf24,v37:=zeroValue24,t46:=underlying184,a46:=isAgg184,z46:=sizeOf184,v46:=zeroValue184,t51:=underlying212,a51:=isAgg212,z51:=sizeOf212,v51:=zeroValue212,t53:=underlying190,a53:=isAgg190,z53:=sizeOf190,v53:=zeroValue190,t75:=underlying155,a75:=isAgg155,z75:=sizeOf155,v75:=zeroValue155,t76:=underlying156,a76:=isAgg156,z76:=sizeOf156,v76:=zeroValue156,t85:=underlying323,a85:=isAgg323,z85:=sizeOf323,v85:=zeroValue323,t127:=underlying188,a127:=isAgg188,z127:=sizeOf188,v127:=zeroValue188,t143:=underlying359,a143:=isAgg359,z143:=sizeOf359,v143:=zeroValue359,t145:=underlying361,a145:=isAgg361,z145:=sizeOf361,v145:=zeroValue361,t167:=underlying322,a167:=isAgg322,z167:=sizeOf322,v167:=zeroValue322,t168:=underlying325,a168:=isAgg325,z168:=sizeOf325,v168:=zeroValue325,t171:=underlying189,a171:=isAgg189,z171:=sizeOf189,v171:=zeroValue189,t173:=underlying193,a173:=isAgg193,z173:=sizeOf193,v173:=zeroValue193,t175:=underlying345,a175:=isAgg345,z175:=sizeOf345,v175:=zeroValue345,t210:=underlying348,a210:=isAgg348,z210:=sizeOf348,v210:=zeroValue348,t212:=underlying221,a212:=isAgg221,z212:=sizeOf221,v212:=zeroValue221,t213:=underlying222,a213:=isAgg222,z213:=sizeOf222,t232:=underlying282,a232:=isAgg282,z232:=sizeOf282,v232:=zeroValue282,t233:=underlying283,a233:=isAgg283,z233:=sizeOf283,v233:=zeroValue283,g15:=by kernel_rfl,g16:=by kernel_rfl,g17:=by kernel_rfl,g18:=by kernel_rfl,g19:=by kernel_rfl,t80:=underlying158,a80:=isAgg158,z80:=sizeOf158,v80:=zeroValue158,i0:=by kernel_rfl,i2:=by kernel_rfl,i3:=by kernel_rfl,i4:=by kernel_rfl,i5:=by kernel_rfl,i9:=by kernel_rfl,i20:=by kernel_rfl,i21:=by kernel_rfl,i37:=by kernel_rfl,i46:=by kernel_rfl,i51:=by kernel_rfl,i53:=by kernel_rfl,i75:=by kernel_rfl,i76:=by kernel_rfl,i80:=by kernel_rfl,i85:=by kernel_rfl,i127:=by kernel_rfl,i143:=by kernel_rfl,i145:=by kernel_rfl,i167:=by kernel_rfl,i168:=by kernel_rfl,i171:=by kernel_rfl,i173:=by kernel_rfl,i175:=by kernel_rfl,i210:=by kernel_rfl,i212:=by kernel_rfl,i232:=by kernel_rfl,i233:=by kernel_rfl,m15:=by kernel_rfl,m16:=by kernel_rfl,m17:=by kernel_rfl,m18:=by kernel_rfl,m19:=by kernel_rfl,c0:=by kernel_rfl,c2:=by kernel_rfl,c3:=by kernel_rfl,c4:=by kernel_rfl,c5:=by kernel_rfl,c9:=by kernel_rfl,c20:=by kernel_rfl,c21:=by kernel_rfl,c37:=by kernel_rfl,c46:=by kernel_rfl,c51:=by kernel_rfl,c53:=by kernel_rfl,c75:=by kernel_rfl,c76:=by kernel_rfl,c80:=by kernel_rfl,c85:=by kernel_rfl,c127:=by kernel_rfl,c143:=by kernel_rfl,c145:=by kernel_rfl,c167:=by kernel_rfl,c168:=by kernel_rfl,c171:=by kernel_rfl,c173:=by kernel_rfl,c175:=by kernel_rfl,c210:=by kernel_rfl,c212:=by kernel_rfl,c213:=by kernel_rfl,c232:=by kernel_rfl,c233:=by kernel_rfl}
open Go.RowKit in
theorem Tryz.strconv_Atoi_err_var (s : ByteArray) (hl : s.size <= 18) (h : Lib.atoi s.data.toList = none) (tp : TypeId) (p : Value) (w : World) (hvar : w.var? prog "strconv.ErrSyntax" = some #[.iface tp p]) :
 Calls prog 231 #[.string s] w fun e w' =>∃N,e=.returned (.tuple #[.int .i64 0,.iface 325 (.pointer (some ⟨N,0,none⟩))])/\w.heap.size<=N/\w'.heap[N]? =some (.cells #[.string ⟨#[65,116,111,105]⟩,.string s,.iface tp p] 348 (0,0))/\Below w.heap.size w w' :=Any.strconv_Atoi_err_var Tryz.laysC172 s hl h tp p w hvar
def Tryz.lays144_ren:Go.Shelf.Ren:=⟨fun | 144=>130 | 143=>169 | 219=>166 | 217=>127 | 225=>204 | 224=>183 | 267=>205 | 266=>167 | 314=>227 | n=>n,fun | 9=>9 | 4=>4 | 3=>3 | 5=>5 | 46=>184 | 146=>213 | 51=>212 | n=>n,fun | 1=>1 | n=>n⟩
theorem Tryz.lays144:Go.Proofs.Lays.n144 prog Tryz.lays144_ren:=⟨by kernel_rfl,cqz func169 (by kernel_rfl),cqz func130 (by kernel_rfl),cqz func127 (by kernel_rfl),cqz func166 (by kernel_rfl),cqz func183 (by kernel_rfl),cqz func204 (by kernel_rfl),cqz func167 (by kernel_rfl),cqz func205 (by kernel_rfl),cqz func227 (by kernel_rfl),underlying3,isAgg3,sizeOf3,zeroValue3,underlying4,isAgg4,sizeOf4,zeroValue4,underlying5,isAgg5,sizeOf5,zeroValue5,underlying9,isAgg9,sizeOf9,zeroValue9,underlying184,isAgg184,sizeOf184,zeroValue184,underlying212,isAgg212,sizeOf212,zeroValue212,underlying213,isAgg213,sizeOf213,zeroValue213,by kernel_rfl⟩
open Go.RowKit Go.Lib in
theorem Tryz.strings_Contains(s sub:ByteArray)(m:Int)(w:World)(hs:s.size < 4294967281)(hm:w.cell? ⟨1,0,none⟩=some (.int .i64 m)):
 Calls prog 130 #[.string s,.string sub] w fun e w' =>e=.returned (.bool (Lib.contains s.data.toList sub.data.toList))/\w' =w:=Any.strings_Contains Tryz.lays144 s sub m w hs hm
def Tryz.lays145_ren:Go.Shelf.Ren:=⟨fun | 145=>93 | 220=>126 | 219=>166 | 217=>127 | 225=>204 | 224=>183 | 267=>205 | 266=>167 | 314=>227 | n=>n,fun | 9=>9 | 4=>4 | 59=>102 | 3=>3 | 5=>5 | 46=>184 | 146=>213 | 51=>212 | n=>n,fun | 1=>1 | n=>n⟩
theorem Tryz.lays145:Go.Proofs.Lays.n145 prog Tryz.lays145_ren:=⟨by kernel_rfl,cqz func93 (by kernel_rfl),cqz func127 (by kernel_rfl),cqz func166 (by kernel_rfl),cqz func126 (by kernel_rfl),cqz func183 (by kernel_rfl),cqz func204 (by kernel_rfl),cqz func167 (by kernel_rfl),cqz func205 (by kernel_rfl),cqz func227 (by kernel_rfl),underlying3,isAgg3,sizeOf3,zeroValue3,underlying4,isAgg4,sizeOf4,zeroValue4,underlying5,isAgg5,sizeOf5,zeroValue5,underlying9,isAgg9,sizeOf9,zeroValue9,underlying184,isAgg184,sizeOf184,zeroValue184,underlying212,isAgg212,sizeOf212,zeroValue212,underlying102,isAgg102,sizeOf102,zeroValue102,underlying213,isAgg213,sizeOf213,zeroValue213,by kernel_rfl⟩
open Go.RowKit Go.Lib in
theorem Tryz.strings_Cut(s sep:ByteArray)(m:Int)(w:World)(hs:s.size < 4294967281)(hm:w.cell? ⟨1,0,none⟩=some (.int .i64 m)):
 Calls prog 93 #[.string s,.string sep] w fun e w' =>e=.returned (.tuple #[.string ⟨(Lib.cut s.data.toList sep.data.toList).1.toArray⟩,.string ⟨(Lib.cut s.data.toList sep.data.toList).2.1.toArray⟩,.bool (Lib.cut s.data.toList sep.data.toList).2.2])/\∃n,w' =w.drewN n:=Any.strings_Cut Tryz.lays145 s sep m w hs hm
def Tryz.lays99_ren:Go.Shelf.Ren:=⟨fun | 99=>113 | 206=>147 | n=>n,fun | 9=>9 | 4=>4 | 3=>3 | n=>n,fun | n=>n⟩
theorem Tryz.lays99:Go.Proofs.Lays.n99 prog Tryz.lays99_ren:=⟨by kernel_rfl,cqz func113 (by kernel_rfl),cqz func147 (by kernel_rfl),underlying3,isAgg3,sizeOf3,zeroValue3,underlying4,isAgg4,sizeOf4,zeroValue4,underlying9,isAgg9,sizeOf9,zeroValue9⟩
open Go.RowKit Go.Lib in
theorem Tryz.strings_HasPrefix(s p:ByteArray)(w:World):
 Calls prog 113 #[.string s,.string p] w fun e w' =>e=.returned (.bool (Lib.hasPrefix s.data.toList p.data.toList))/\w' =w:=Any.strings_HasPrefix Tryz.lays99 s p w
def Tryz.lays100_ren:Go.Shelf.Ren:=⟨fun | 100=>129 | 207=>168 | n=>n,fun | 9=>9 | 4=>4 | 3=>3 | n=>n,fun | n=>n⟩
theorem Tryz.lays100:Go.Proofs.Lays.n100 prog Tryz.lays100_ren:=⟨by kernel_rfl,cqz func129 (by kernel_rfl),cqz func168 (by kernel_rfl),underlying3,isAgg3,sizeOf3,zeroValue3,underlying4,isAgg4,sizeOf4,zeroValue4,underlying9,isAgg9,sizeOf9,zeroValue9⟩
open Go.RowKit Go.Lib in
theorem Tryz.strings_HasSuffix(s p:ByteArray)(w:World)(hs:s.size<=9223372036854775807):
 Calls prog 129 #[.string s,.string p] w fun e w' =>e=.returned (.bool (Lib.hasSuffix s.data.toList p.data.toList))/\w' =w:=Any.strings_HasSuffix Tryz.lays100 s p w hs
def Tryz.lays226_ren:Go.Shelf.Ren:=⟨fun | 226=>246 | n=>n,fun | 3=>3 | 4=>4 | n=>n,fun | n=>n⟩
theorem Tryz.lays226:Go.Proofs.Lays.n226 prog Tryz.lays226_ren:=⟨by kernel_rfl,cqz func246 (by kernel_rfl),underlying3,isAgg3,sizeOf3,zeroValue3,underlying4,isAgg4,sizeOf4,zeroValue4⟩
open Go.RowKit Go.Lib in
theorem Tryz.strings_shouldUseASCIISet(n:Int)(w:World):
 Calls prog 246 #[.int .i64 n] w fun e w' =>e=.returned (.bool (decide (8 < n)))/\w' =w:=Any.strings_shouldUseASCIISet Tryz.lays226 n w
def Tryz.lays153_ren:Go.Shelf.Ren:=⟨fun | 153=>228 | 152=>244 | 226=>246 | 227=>199 | 228=>223 | 137=>95 | 119=>260 | 224=>183 | 225=>204 | 217=>127 | 266=>167 | n=>n,fun | 9=>9 | 3=>3 | 4=>4 | 5=>5 | 21=>21 | 117=>262 | 116=>261 | 0=>0 | 46=>184 | 124=>265 | n=>n,fun | n=>n⟩
theorem Tryz.lays153:Go.Proofs.Lays.n153 prog Tryz.lays153_ren:=⟨by kernel_rfl,cqz func260 (by kernel_rfl),cqz func95 (by kernel_rfl),cqz func244 (by kernel_rfl),cqz func228 (by kernel_rfl),cqz func127 (by kernel_rfl),cqz func183 (by kernel_rfl),cqz func204 (by kernel_rfl),cqz func246 (by kernel_rfl),cqz func199 (by kernel_rfl),cqz func223 (by kernel_rfl),cqz func167 (by kernel_rfl),underlying0,isAgg0,sizeOf0,zeroValue0,underlying3,isAgg3,sizeOf3,zeroValue3,underlying4,isAgg4,sizeOf4,zeroValue4,underlying5,isAgg5,sizeOf5,zeroValue5,underlying9,isAgg9,sizeOf9,zeroValue9,underlying21,isAgg21,sizeOf21,zeroValue21,underlying184,isAgg184,sizeOf184,zeroValue184,underlying261,isAgg261,sizeOf261,underlying262,isAgg262,sizeOf262,zeroValue262,underlying265,isAgg265,sizeOf265,zeroValue265⟩
open Go.RowKit Go.Lib in
theorem Tryz.strings_IndexAny_long(hv116:∀w,(zeroValue 261).run prog w=.ok (.agg (Array.replicate 256 (.bool false))) w)(s chars:ByteArray)(w:World)(h2:2<=chars.size)(h8:8 < s.size)(hs:s.size < 4294967281)(hcs:chars.size < 4294967281)(hascii:∀(j:Nat) b,chars.data.toList[j]? =some b->b.toNat < 128):
 Calls prog 228 #[.string s,.string chars] w fun e w' =>e=.returned (.int .i64 (Lib.indexAny s.data.toList chars.data.toList))/\w' =((w.alloc (.cells (Lib.setCells chars.data.toList) 261)).alloc (.cells (Lib.setCells chars.data.toList) 261)):=Any.strings_IndexAny_long Tryz.lays153 hv116 (by kernel_rfl) s chars w h2 h8 hs hcs hascii
open Go.RowKit Go.Lib in
theorem Tryz.strings_IndexAny(hv116:∀w,(zeroValue 261).run prog w=.ok (.agg (Array.replicate 256 (.bool false))) w)(s chars:ByteArray)(w:World)(hs:s.size < 4294967281)(hcs:chars.size < 4294967281)(has:∀(j:Nat) b,s.data.toList[j]? =some b->b.toNat < 128)(hac:∀(j:Nat) b,chars.data.toList[j]? =some b->b.toNat < 128):
 Calls prog 228 #[.string s,.string chars] w fun e w' =>e=.returned (.int .i64 (Lib.indexAny s.data.toList chars.data.toList))/\Below w.heap.size w w' :=Any.strings_IndexAny Tryz.lays153 hv116 (by kernel_rfl) s chars w hs hcs has hac
def Tryz.lays150_ren:Go.Shelf.Ren:=⟨fun | 150=>208 | 153=>228 | 152=>244 | 226=>246 | 227=>199 | 228=>223 | 137=>95 | 119=>260 | 224=>183 | 225=>204 | 217=>127 | 266=>167 | n=>n,fun | 9=>9 | 4=>4 | 3=>3 | 5=>5 | 21=>21 | 117=>262 | 116=>261 | 0=>0 | 46=>184 | 124=>265 | n=>n,fun | n=>n⟩
theorem Tryz.lays150:Go.Proofs.Lays.n150 prog Tryz.lays150_ren:=⟨by kernel_rfl,cqz func260 (by kernel_rfl),cqz func95 (by kernel_rfl),cqz func208 (by kernel_rfl),cqz func244 (by kernel_rfl),cqz func228 (by kernel_rfl),cqz func127 (by kernel_rfl),cqz func183 (by kernel_rfl),cqz func204 (by kernel_rfl),cqz func246 (by kernel_rfl),cqz func199 (by kernel_rfl),cqz func223 (by kernel_rfl),cqz func167 (by kernel_rfl),underlying0,isAgg0,sizeOf0,zeroValue0,underlying3,isAgg3,sizeOf3,zeroValue3,underlying4,isAgg4,sizeOf4,zeroValue4,underlying5,isAgg5,sizeOf5,zeroValue5,underlying9,isAgg9,sizeOf9,zeroValue9,underlying21,isAgg21,sizeOf21,zeroValue21,underlying184,isAgg184,sizeOf184,zeroValue184,underlying261,isAgg261,sizeOf261,underlying262,isAgg262,sizeOf262,zeroValue262,underlying265,isAgg265,sizeOf265,zeroValue265⟩
open Go.RowKit Go.Lib in
theorem Tryz.strings_ContainsAny(hv116:∀w,(zeroValue 261).run prog w=.ok (.agg (Array.replicate 256 (.bool false))) w)(s chars:ByteArray)(w:World)(hs:s.size < 4294967281)(hcs:chars.size < 4294967281)(has:∀(j:Nat) b,s.data.toList[j]? =some b->b.toNat < 128)(hac:∀(j:Nat) b,chars.data.toList[j]? =some b->b.toNat < 128):
 Calls prog 208 #[.string s,.string chars] w fun e w' =>e=.returned (.bool (Lib.containsAny s.data.toList chars.data.toList))/\Below w.heap.size w w' :=Any.strings_ContainsAny Tryz.lays150 hv116 (by kernel_rfl) s chars w hs hcs has hac
def Tryz.lays105_ren:Go.Shelf.Ren:=⟨fun | 105=>100 | 212=>132 | 99=>113 | 165=>101 | 166=>102 | 170=>133 | 169=>103 | 263=>170 | 264=>171 | 206=>147 | 240=>134 | 241=>135 | 276=>172 | 277=>173 | n=>n,fun | 9=>9 | 3=>3 | 4=>4 | 20=>20 | 0=>0 | 46=>184 | 109=>185 | 5=>5 | 72=>152 | 76=>156 | 51=>212 | 146=>213 | 53=>190 | 148=>215 | 70=>150 | 37=>24 | 75=>155 | 127=>188 | 164=>217 | 80=>158 | n=>n,fun | n=>n⟩
theorem Tryz.lays105:Go.Proofs.Lays.n105 prog Tryz.lays105_ren:=⟨by kernel_rfl,cqz func113 (by kernel_rfl),cqz func100 (by kernel_rfl),cqz func101 (by kernel_rfl),cqz func102 (by kernel_rfl),cqz func103 (by kernel_rfl),cqz func133 (by kernel_rfl),cqz func147 (by kernel_rfl),cqz func132 (by kernel_rfl),cqz func134 (by kernel_rfl),cqz func135 (by kernel_rfl),cqz func170 (by kernel_rfl),cqz func171 (by kernel_rfl),cqz func172 (by kernel_rfl),cqz func173 (by kernel_rfl),underlying0,isAgg0,sizeOf0,zeroValue0,underlying3,isAgg3,sizeOf3,zeroValue3,underlying4,isAgg4,sizeOf4,zeroValue4,underlying5,isAgg5,sizeOf5,zeroValue5,underlying9,isAgg9,sizeOf9,zeroValue9,underlying20,isAgg20,sizeOf20,zeroValue20,underlying24,isAgg24,sizeOf24,zeroValue24,underlying184,isAgg184,sizeOf184,zeroValue184,underlying212,isAgg212,sizeOf212,zeroValue212,underlying190,isAgg190,sizeOf190,zeroValue190,underlying150,isAgg150,sizeOf150,zeroValue150,underlying152,isAgg152,sizeOf152,zeroValue152,underlying155,isAgg155,sizeOf155,zeroValue155,underlying156,isAgg156,sizeOf156,zeroValue156,underlying185,isAgg185,sizeOf185,zeroValue185,underlying188,isAgg188,sizeOf188,zeroValue188,underlying213,isAgg213,sizeOf213,zeroValue213,underlying215,isAgg215,sizeOf215,zeroValue215,underlying217,isAgg217,sizeOf217,zeroValue217⟩
theorem Tryz.Builder_Extra_105:Builder.Extra prog Tryz.lays105_ren:={
 sizeBuilder:=by kernel_rfl
 liesBuilder:=by kernel_rfl
 t5:=underlying5
 a5:=isAgg5
 z5:=sizeOf5
 v5:=zeroValue5
 infoByte:=by kernel_rfl
 cellsByte:=by kernel_rfl
 sizeByte:=by kernel_rfl
 neB5:=by decide}
open Go.RowKit Go.Lib in
theorem Tryz.strings_Repeat(s:ByteArray)(c:Nat)(w:World)(hc:c<=9223372036854775807)(hlen:s.size * c<=140737488355328):
 Calls prog 100 #[.string s,.int .i64 c] w fun e w' =>e=.returned (.string ⟨(Lib.repeatL s.data.toList c).toArray⟩)/\Below w.heap.size w w' :=Any.strings_Repeat Tryz.lays105 Tryz.Builder_Extra_105 s c w hc hlen
def Tryz.lays185_ren:Go.Shelf.Ren:=⟨fun | 185=>146 | 187=>181 | 115=>84 | 253=>182 | 224=>183 | 254=>184 | 255=>209 | 291=>210 | n=>n,fun | 37=>24 | 3=>3 | 4=>4 | 0=>0 | 5=>5 | 46=>184 | 9=>9 | 146=>213 | 51=>212 | n=>n,fun | 1=>1 | n=>n⟩
theorem Tryz.lays185:Go.Proofs.Lays.n185 prog Tryz.lays185_ren:=⟨by kernel_rfl,cqz func84 (by kernel_rfl),cqz func146 (by kernel_rfl),cqz func181 (by kernel_rfl),cqz func183 (by kernel_rfl),cqz func182 (by kernel_rfl),cqz func184 (by kernel_rfl),cqz func209 (by kernel_rfl),cqz func210 (by kernel_rfl),underlying0,isAgg0,sizeOf0,zeroValue0,underlying3,isAgg3,sizeOf3,zeroValue3,underlying4,isAgg4,sizeOf4,zeroValue4,underlying5,isAgg5,sizeOf5,zeroValue5,underlying9,isAgg9,sizeOf9,zeroValue9,underlying24,isAgg24,sizeOf24,zeroValue24,underlying184,isAgg184,sizeOf184,zeroValue184,underlying212,isAgg212,sizeOf212,zeroValue212,underlying213,isAgg213,sizeOf213,zeroValue213,by kernel_rfl⟩
open Go.RowKit Go.Lib in
theorem Tryz.bytes_Index_longer(p q:Option Addr)(n c m d:Nat)(w:World)(h2:2<=m)(hnm:n < m)(hm:m<=9223372036854775807):
 Calls prog 146 #[.slice p n c,.slice q m d] w fun e w' =>e=.returned (.int .i64 (-1))/\w' =w:=Any.bytes_Index_longer Tryz.lays185 p q n c m d w h2 hnm hm
def Tryz.lays187_ren:Go.Shelf.Ren:=⟨fun | 187=>181 | 255=>209 | n=>n,fun | 37=>24 | 5=>5 | 3=>3 | n=>n,fun | n=>n⟩
theorem Tryz.lays187:Go.Proofs.Lays.n187 prog Tryz.lays187_ren:=⟨by kernel_rfl,cqz func181 (by kernel_rfl),cqz func209 (by kernel_rfl),underlying3,isAgg3,sizeOf3,zeroValue3,underlying5,isAgg5,sizeOf5,zeroValue5,underlying24,isAgg24,sizeOf24,zeroValue24⟩
open Go.RowKit Go.Lib in
theorem Tryz.bytes_IndexByte_at(a:Addr)(n c:Nat)(xs:List Int)(cv:Int)(w:World)(hx:xs.length=n)(hc:∀i,i < n->w.cell? (a.add i)=some (.int .u8 (xs.getD i 0))):
 Calls prog 181 #[.slice (some a) n c,.int .u8 cv] w fun e w' =>e=.returned (.int .i64 (Lib.indexByte (Lib.bytesOf xs) cv.toNat.toUInt8))/\w' =w:=Any.bytes_IndexByte_at Tryz.lays187 a n c xs cv w hx hc
def Tryz.lays115_ren:Go.Shelf.Ren:=⟨fun | 115=>84 | n=>n,fun | 37=>24 | 4=>4 | 9=>9 | 5=>5 | n=>n,fun | n=>n⟩
theorem Tryz.lays115:Go.Proofs.Lays.n115 prog Tryz.lays115_ren:=⟨by kernel_rfl,cqz func84 (by kernel_rfl),underlying4,isAgg4,sizeOf4,zeroValue4,underlying9,isAgg9,sizeOf9,zeroValue9,underlying24,isAgg24,sizeOf24,zeroValue24⟩
open Go.Proofs Go.RowKit Go.Lib in
theorem Tryz.bytes_Index_at(a1 a2:Addr)(n c1 k c2:Nat)(xs ys:List Int)(m:Int)(w:World)(hx:xs.length=n)(hy:ys.length=k)(hr1:∀x∈xs,0<=x/\x < 256)(hr2:∀y∈ys,0<=y/\y < 256)(hc1:∀i,i < n->w.cell? (a1.add i)=some (.int .u8 (xs.getD i 0)))(hc2:∀i,i < k->w.cell? (a2.add i)=some (.int .u8 (ys.getD i 0)))(hcap:n<=c1)(hs:n < 4294967281)(hk:k<=9223372036854775807)(hm:w.cell? ⟨1,0,none⟩=some (.int .i64 m)):
 Calls prog 146 #[.slice (some a1) n c1,.slice (some a2) k c2] w fun e w' =>e=.returned (.int .i64 (Lib.index (Lib.bytesOf xs) (Lib.bytesOf ys)))/\∃q,w' =w.drewN q:=Any.bytes_Index_at Tryz.lays185 a1 a2 n c1 k c2 xs ys m w hx hy hr1 hr2 hc1 hc2 hcap hs hk hm
def Tryz.laysnb117_ren:Go.Shelf.Ren:=⟨fun | 117=>222 | 115=>84 | n=>n,fun | 37=>24 | 4=>4 | 3=>3 | 9=>9 | 5=>5 | n=>n,fun | n=>n⟩
theorem Tryz.laysnb117:Go.Proofs.Lays.nb117 prog Tryz.laysnb117_ren:={mixed:=by kernel_rfl,f115:=cqz func84 (by kernel_rfl),f117:=cqz func222 (by kernel_rfl),t3:=underlying3,a3:=isAgg3,z3:=sizeOf3,v3:=zeroValue3,t4:=underlying4,a4:=isAgg4,z4:=sizeOf4,v4:=zeroValue4,t9:=underlying9,a9:=isAgg9,z9:=sizeOf9,v9:=zeroValue9,t37:=underlying24,a37:=isAgg24,z37:=sizeOf24,v37:=zeroValue24,t5:=underlying5,a5:=isAgg5,z5:=sizeOf5,v5:=zeroValue5}
def Tryz.laysnb140_ren:Go.Shelf.Ren:=⟨fun | 140=>195 | 117=>222 | 115=>84 | n=>n,fun | 37=>24 | 4=>4 | 3=>3 | 9=>9 | 5=>5 | n=>n,fun | n=>n⟩
theorem Tryz.laysnb140:Go.Proofs.Lays.nb140 prog Tryz.laysnb140_ren:={mixed:=by kernel_rfl,f115:=cqz func84 (by kernel_rfl),f117:=cqz func222 (by kernel_rfl),f140:=cqz func195 (by kernel_rfl),t3:=underlying3,a3:=isAgg3,z3:=sizeOf3,v3:=zeroValue3,t4:=underlying4,a4:=isAgg4,z4:=sizeOf4,v4:=zeroValue4,t9:=underlying9,a9:=isAgg9,z9:=sizeOf9,v9:=zeroValue9,t37:=underlying24,a37:=isAgg24,z37:=sizeOf24,v37:=zeroValue24,t5:=underlying5,a5:=isAgg5,z5:=sizeOf5,v5:=zeroValue5}
theorem Tryz.bytes_Equal(v1 v2:Value)(xs ys:List Int)(w:World)(h1:(convert 24 9 v1).run prog w=.ok (.string (strOfNums xs)) w)(h2:(convert 24 9 v2).run prog w=.ok (.string (strOfNums ys)) w):
 Calls prog 84 #[v1,v2] w fun e w' =>e=.returned (.bool (Lib.bytesOf xs==Lib.bytesOf ys))/\w' =w:=Any.bytes_Equal Tryz.lays115 v1 v2 xs ys w h1 h2
theorem Tryz.bytes_HasSuffix(b1 o1 n c b2 o2 m d:Nat)(xs ys:List Int)(w:World)(hx:xs.length=n)(hy:ys.length=m)(hnc:n<=c)(hbig:n<=9223372036854775807)(hc1:∀i,i < n->w.cell? ⟨b1,o1+i,none⟩=some (.int .u8 (xs.getD i 0)))(hc2:∀i,i < m->w.cell? ⟨b2,o2+i,none⟩=some (.int .u8 (ys.getD i 0))):
 Calls prog 222 #[.slice (some ⟨b1,o1,none⟩) n c,.slice (some ⟨b2,o2,none⟩) m d] w fun e w' =>e=.returned (.bool (Lib.hasSuffix (Lib.bytesOf xs) (Lib.bytesOf ys)))/\w' =w:=Any.bytes_HasSuffix Tryz.laysnb117 b1 o1 n c b2 o2 m d xs ys w hx hy hnc hbig hc1 hc2
theorem Tryz.bytes_TrimSuffix(b1 o1 n c b2 o2 m d:Nat)(xs ys:List Int)(w:World)(hx:xs.length=n)(hy:ys.length=m)(hnc:n<=c)(hbig:n<=9223372036854775807)(hc1:∀i,i < n->w.cell? ⟨b1,o1+i,none⟩=some (.int .u8 (xs.getD i 0)))(hc2:∀i,i < m->w.cell? ⟨b2,o2+i,none⟩=some (.int .u8 (ys.getD i 0))):
 Calls prog 195 #[.slice (some ⟨b1,o1,none⟩) n c,.slice (some ⟨b2,o2,none⟩) m d] w fun e w' =>e=.returned (Lib.bytesTrimSuffix b1 o1 n c xs ys)/\w' =w:=Any.bytes_TrimSuffix Tryz.laysnb140 b1 o1 n c b2 o2 m d xs ys w hx hy hnc hbig hc1 hc2
theorem Tryz.bytes_IndexByte(b o n c:Nat)(xs:List Int)(cv:Int)(w:World)(hx:xs.length=n)(hc:∀i,i < n->w.cell? ⟨b,o+i,none⟩=some (.int .u8 (xs.getD i 0))):
 Calls prog 181 #[.slice (some ⟨b,o,none⟩) n c,.int .u8 cv] w fun e w' =>e=.returned (.int .i64 (Lib.indexByte (Lib.bytesOf xs) cv.toNat.toUInt8))/\w' =w:=Any.bytes_IndexByte Tryz.lays187 b o n c xs cv w hx hc
theorem Tryz.bytes_IndexByte_nil(cv:Int)(w:World):
 Calls prog 181 #[.slice none 0 0,.int .u8 cv] w fun e w' =>e=.returned (.int .i64 (-1))/\w' =w:=Any.bytes_IndexByte_nil Tryz.lays187 cv w
end Go.Proofs
namespace Go.Proofs.YtpphhgbmooofgaaGreatDoor
open Go.RowKit Go.Proofs.Tryz
theorem kLb(g:G)(q:Nat):Old (fun _=>False) g ⟨g.w.drewN q,g.u,g.loc⟩:=
 ⟨rfl,rfl,rfl,⟨jAq _,fun _ _=>jAq _,fun _ _ _ _=>rfl,fun _ h=>h⟩,fun _ _ _=>⟨rfl,rfl⟩⟩
theorem K9a{g:G}{s:Str}{v:Value}(h:Rel g (.s s) v):v=.string (strB s):=z6a h
theorem z5a(s:Str)(c:UInt8)(r:Int)(hr:zua s c=some r):Run prog 95 [.s s,.u8 c] (.i r):=by
 unfold zua at hr;cases hr;refine ⟨⟨_,_,⟨func95,rfl,by kernel_rfl⟩⟩,fun g vs hw hg ha=>?_⟩;obtain ⟨hsz,hrel⟩:=ha;obtain ⟨l⟩:=vs
 match l,hsz with
 | [x,y],_=>
  obtain rfl:=K9a (hrel 0 _ rfl);have e2:y=.int .u8 (c.toNat:Int):=z6a (hrel 1 _ rfl);subst e2;refine callsIn_wide.2 ((Tryz.strings_IndexByte (strB s) (c.toNat:Int) g.w).mono ?_);rintro e w' ⟨rfl,rfl⟩;refine ⟨g,_,rfl,rfl,Old.refl _ g,hw,rfl,?_⟩;simp[strB];exact .pv (.b rfl)
theorem y3a(a0:Int)(r:Bool)(hr:kxa a0=some r):Run prog 260 [.pv (.b (.int .i32 a0))] (.bo r):=by
 unfold kxa at hr;refine rfx (fn:=Tryz.f260) func260 fun g0 hg=>?_
 refine jq 7 hr [0] [] (fun j1=>[(3,.bo j1)]) (fun _=>[]) (fun j1 hr=>?_) (fun j1 hr=>?_)
 .refine bx 4 6 hr (fun c2 hr=>?_) fun c2 hr=>?_
  .exact jx 5 hr
  exact jx 5 hr
 refine ax 0 3 hr (fun hr=>?_) fun hr=>?_
 .exact kx 8 hr
 refine jq 0 hr [] [] (fun j4=>[(10,.bo j4)]) (fun _=>[]) (fun j4 hr=>?_) (fun j4 hr=>?_)
 .refine bx 4 13 hr (fun c5 hr=>?_) fun c5 hr=>?_
  .exact jx 5 hr
  exact jx 5 hr
 refine ax 0 10 hr (fun hr=>?_) fun hr=>?_
 .exact kx 8 hr
 exact kx 9 hr
theorem yia(a0:Str)(a1:Int)(r:Int)(hr:kia a0 a1=some r):Run prog 244 [.s a0,.pv (.b (.int .i32 a1))] (.i r):=by
 unfold kia at hr;refine rfx (fn:=Tryz.f244) func244 fun g0 hg=>?_
 refine rn tk 6 rfl<|jb hr (fun j1=>[(0,.s a0),(1,.pv (.b (.int .i32 a1))),(160,.bo j1)]) (fun j1=>[]) (fun j1 hr=>?_) (fun j1 hr=>?_)
 .refine bx 4 163 hr (fun c2 hr=>?_) fun c2 hr=>?_
  .exact jx 5 hr
  exact jx 5 hr
 refine ax 0 160 hr (fun hr=>?_) fun hr=>?_
 .refine clx 5 hr (z5a _ _) fun v4 _ hr=>?_
  exact kx 5 hr
 refine ax 7 171 hr (fun hr=>?_) fun hr=>?_
 .refine rn tk 4 rfl<|wr 1175 tk rfl rfl rfl rfl<|rn tk 3 rfl<|al2 hr (fun s7=>[(175,.ptr 1175 0)]) (fun s7=>[(1175,.it (strB a0) s7)]) (.exit 9) (fun b8=>[]) (fun b8=>[]) .ret (fun b9=>[(4,.i b9)]) (fun b9=>[]) rfl rfl (fun s7 x11 hr=>?_) (fun b8 hr=>?_) (fun b9 hr=>?_)
  .unfold qsa at hr;refine rn tk 2 rfl<|wnx hr rfl rfl rfl (fun c12 hr=>?_) (fun c12 hr=>?_)
   .refine ax 22 181 hr (fun hr=>?_) fun hr=>?_
    .exact ox 8 hr
    exact cx 2 hr
   exact ox 7 hr
  .exact kx 9 hr
  exact kx 3 hr
 refine clx 3 hr (y3a _) fun v14 _ hr=>?_
 refine ax 4 183 hr (fun hr=>?_) fun hr=>?_
 .exact kx 7 hr
 refine rn tk 29 rfl<|al2 hr (fun s17=>[(0,.s a0),(7,.s ((jia a1))),(8,.i ((w64 ((((jia a1)).length:Int) - 1)))),(9,.i s17)]) (fun s17=>[]) (.exit 1) (fun b18=>[]) (fun b18=>[]) .ret (fun b19=>[(4,.i b19)]) (fun b19=>[]) rfl rfl (fun s17 x21 hr=>?_) (fun b18 hr=>?_) (fun b19 hr=>?_)
 .unfold qua at hr;refine ax 9 26 hr (fun hr=>?_) fun hr=>?_
  .refine rn tk 4 rfl<|jk (fun j23=>[(0,.s a0),(7,.s ((jia a1))),(8,.i j23.1),(9,.i j23.2)]) (fun j23=>[]) (fun j23=>qta a0 a1 j23=some x21) ?_ ?_
   .refine rn tk 1 rfl ?_;obtain ⟨v24,h25,hr⟩:=zaa hr;obtain ⟨v26,h27,hr⟩:=zaa hr;refine dq 0 6 [] [(2,.u8 v24),(5,.u8 v26)] .nil (.cons rfl rfl (qxa (Vha rfl rfl zJa h25)) (.cons rfl rfl (qxa (Vha rfl rfl zJa h27)) .nil)) ?_ mixed;refine ax 3 33 hr (fun hr=>?_) fun hr=>?_
    .refine rn tk 1 rfl ?_;obtain ⟨v29,h30,hr⟩:=zaa hr;obtain ⟨v31,h32,hr⟩:=zaa hr;refine dq 0 7 [] [(3,.s v29),(6,.u8 v31)] .nil (.cons rfl rfl (qxa (vjb rfl rfl zJa h30)) (.cons rfl rfl (qxa (Vha rfl rfl zJa h32)) .nil)) ?_ mixed;refine clx 0 hr (z5a _ _) fun v33 _ hr=>?_
     refine ax 10 43 hr (fun hr=>?_) fun hr=>?_
     .exact ox 10 hr
     refine rn tk 9 rfl<|jn (((w64 ((((jia a1)).length:Int) - 1)),(w64 (s17+(w64 (v33+1)))))) hr rfl rfl
    refine rn tk 1 rfl<|jn (((w64 ((((jia a1)).length:Int) - 1)),s17)) hr rfl rfl
   intro j23 hr;unfold qta at hr;refine rn tk 7 rfl<|al1 hr (fun s36=>[(0,.s a0),(7,.s ((jia a1))),(8,.i j23.1),(9,.i j23.2),(12,.i s36)]) (fun s36=>[]) (.exit 3) (fun b37=>[(8,.i j23.1),(9,.i j23.2)]) (fun b37=>[]) rfl rfl (fun s36 x38 hr=>?_) (fun b37 hr=>?_)
   .unfold yta at hr;refine ax 9 51 hr (fun hr=>?_) fun hr=>?_
    .refine rn tk 5 rfl ?_;obtain ⟨v40,h41,hr⟩:=zaa hr;obtain ⟨v42,h43,hr⟩:=zaa hr;refine dq 0 10 [] [(4,.u8 v40),(9,.u8 v42)] .nil (.cons rfl rfl (qxa (Vha rfl rfl zJa h41)) (.cons rfl rfl (qxa (Vha rfl rfl zJa h43)) .nil)) ?_ mixed;refine ax 3 64 hr (fun hr=>?_) fun hr=>?_
     .cases hr
     exact cx 8 hr
    exact ox 2 hr
   exact ox 15 hr
  exact ox 2 hr
 .exact kx 12 hr
 exact kx 4 hr
theorem ysa(a0:Int)(r:Bool)(hr:zHa a0=some r):Run prog 246 [.i a0] (.bo r):=by
 unfold zHa at hr;refine rfx (fn:=Tryz.f246) func246 fun g0 hg=>?_
 exact kx 13 hr
theorem Z0a(a0:Str)(a1:Str)(r:Int)(hr:vua a0 a1=some r):Run prog 228 [.s a0,.s a1] (.i r):=by
 unfold vua at hr;refine rfx (fn:=Tryz.f228) func228 fun g0 hg=>?_
 refine ax 12 12 hr (fun hr=>?_) fun hr=>?_
 .exact kx 7 hr
 refine ax 10 15 hr (fun hr=>?_) fun hr=>?_
 .refine rn tk 3 rfl ?_;obtain ⟨v3,h4,hr⟩:=zaa hr;refine ws tk h4 rfl rfl rfl rfl<|wur tk rfl rfl rfl<|rn tk 3 rfl<|jb hr (fun j5=>[(0,.s a0),(5,.pv (.b (.int .i32 j5)))]) (fun j5=>[]) (fun j5 hr=>?_) (fun j5 hr=>?_)
  .refine ax 6 20 hr (fun hr=>?_) fun hr=>?_
   .exact jx 3 hr
   exact jx 1 hr
  refine clx 4 hr (yia _ _) fun v7 _ hr=>?_
  exact kx 5 hr
 refine clx 7 hr (ysa _) fun v9 _ hr=>?_
 refine ax 2 26 hr (fun hr=>?_) fun hr=>?_
 .refine rn tk 3 rfl ?_;cases hr
 refine rn tk 6 rfl<|wr 1045 tk rfl rfl rfl rfl<|rn tk 3 rfl<|al2 hr (fun s12=>[(1,.s a1),(45,.ptr 1045 0)]) (fun s12=>[(1045,.it (strB a0) s12)]) (.exit 2) (fun b13=>[]) (fun b13=>[]) .ret (fun b14=>[(4,.i b14)]) (fun b14=>[]) rfl rfl (fun s12 x16 hr=>?_) (fun b13 hr=>?_) (fun b14 hr=>?_)
 .unfold qva at hr;refine rn tk 2 rfl<|wnx hr rfl rfl rfl (fun c17 hr=>?_) (fun c17 hr=>?_)
  .refine clx 20 hr (yia _ _) fun v18 _ hr=>?_
   refine ax 3 53 hr (fun hr=>?_) fun hr=>?_
   .exact ox 8 hr
   exact cx 2 hr
  exact ox 7 hr
 .exact kx 8 hr
 exact kx 2 hr
theorem Jga(g:G)(vs:Array Value)(t:TypeId):Old (fun _=>False) g ⟨g.w.alloc (.cells vs t),fun k=>if k=g.w.heap.size then 0 else g.u k,g.loc⟩:=by
 have h:=yIa g vs t 0 0 (g.loc 0);have e:(g.alloc vs t 0 0 (g.loc 0))=⟨g.w.alloc (.cells vs t),fun k=>if k=g.w.heap.size then 0 else g.u k,g.loc⟩:=by
  unfold G.alloc
  congr 1
  funext k;split
  .rename_i hk;rw[hk]
  rfl
 rw[<-e];exact h
theorem kMb{g:G}(h:Wf g)(vs:Array Value)(t:TypeId):Wf ⟨g.w.alloc (.cells vs t),fun k=>if k=g.w.heap.size then 0 else g.u k,g.loc⟩:=by
 intro k hk;have hk:g.w.heap.size+1<=k:=by simpa using hk
 show (if k=g.w.heap.size then 0 else g.u k)=0;rw[if_neg (by omega)];exact h k (by omega)
theorem wEb{t:Str}(h:YUa t=true):∀(j:Nat) b,(strB t).data.toList[j]? =some b->b.toNat < 128:=fun j b hb=>Y0a h (jAf hb)
theorem Kua(s t:Str)(r:Int)(hr:k9a s t=some r):Run prog 228 [.s s,.s t] (.i r):=by
 unfold k9a at hr;split at hr
 case isFalse=>cases hr
 rename_i hc;obtain ⟨h1,h2,h3,h4⟩:=hc;by_cases h8:s.length<=8
 .exact Z0a s t r (by rw[kab s t h8 h3 h2 h4];exact hr)
 cases hr;refine ⟨⟨_,_,⟨func228,rfl,by kernel_rfl⟩⟩,fun g vs hw hg ha=>?_⟩;obtain ⟨hsz,hrel⟩:=ha;obtain ⟨l⟩:=vs
 match l,hsz with
 | [x,y],_=>
  obtain rfl:=K9a (hrel 0 _ rfl);obtain rfl:=K9a (hrel 1 _ rfl);have h116:(prog.info? 261).map (fun i=>(i.zero,i.size))=some (some (.agg (Array.replicate 256 (.bool false))),256):=by kernel_rfl
  have hz:=(zero_of_info h116).1;refine callsIn_wide.2 ((Tryz.strings_IndexAny_long hz (strB s) (strB t) g.w (by rw[zDa];exact h3) (by rw[zDa];omega) (by rw[zDa];exact h1) (by rw[zDa];exact h2) (wEb h4)).mono ?_);rintro e w' ⟨rfl,rfl⟩;have o1:=Jga g (Lib.setCells t) 261;have w1:=kMb hw (Lib.setCells t) 261;have o2:=Jga ⟨g.w.alloc (.cells (Lib.setCells t) 261),fun k=>if k=g.w.heap.size then 0 else g.u k,g.loc⟩ (Lib.setCells t) 261;have w2:=kMb w1 (Lib.setCells t) 261;have o3:Old (fun _=>False) g _:=o1.trans (o2.mono (S' :=fun b=>False∨g.w.heap.size<=b) (by intro b _ hf;exact hf.elim));exact ⟨⟨_,_,_⟩,_,rfl,(by rfl),o3,w2,(by rfl),.pv (.b rfl)⟩
theorem j7a(a0:Str)(a1:Str)(r:Bool)(hr:kga a0 a1=some r):Run prog 208 [.s a0,.s a1] (.bo r):=by
 unfold kga at hr;refine rfx (fn:=f208) func208 fun g0 hg=>?_
 refine clx 9 hr (Kua _ _) fun v1 _ hr=>?_
 exact kx 5 hr
theorem zmb(a0:Str)(r:Bool)(hr:ZFa a0=some r):Run prog 180 [.s a0] (.bo r):=by
 unfold ZFa at hr;refine rfx (fn:=f180) func180 fun g0 hg=>?_
 refine clx 8 hr (j7a _ _) fun v1 _ hr=>?_
 exact kx 4 hr
theorem YBa(a0:Str)(r:Bool)(hr:jFa a0=some r):Run prog 141 [.s a0] (.bo r):=by
 unfold jFa at hr;refine rfx (fn:=f141) func141 fun g0 hg=>?_
 refine jq 5 hr [] [] (fun j1=>[(2,.bo j1)]) (fun _=>[]) (fun j1 hr=>?_) (fun j1 hr=>?_)
 .refine clx 2 hr (zmb _) fun v2 _ hr=>?_
  refine bx 2 6 hr (fun c4 hr=>?_) fun c4 hr=>?_
  .refine bx 3 9 hr (fun c5 hr=>?_) fun c5 hr=>?_
   .exact jx 17 hr
   refine rn tk 1 rfl ?_;obtain ⟨v6,h7,hr⟩:=zaa hr;refine ug rfl rfl rfl<|ws tk h7 rfl rfl rfl rfl ?_;obtain ⟨v8,h9,hr⟩:=zaa hr;refine ug rfl rfl rfl<|cl (vqa _ _ h9) rfl rfl ?_;refine bx 2 14 hr (fun c10 hr=>?_) fun c10 hr=>?_
   .refine rn tk 4 rfl ?_;obtain ⟨v11,h12,hr⟩:=zaa hr;refine ug rfl rfl rfl<|ws tk h12 rfl rfl rfl rfl ?_;obtain ⟨v13,h14,hr⟩:=zaa hr;refine ug rfl rfl rfl<|cl (vqa _ _ h14) rfl rfl ?_;exact jx 6 hr
   exact jx 12 hr
  exact jx 20 hr
 exact kx 1 hr
theorem yBa(a0:Str)(a1:Str)(r:(List Str) × zoa)(hr:yaa a0 a1=some r):Run prog 105 [.s a0,.s a1] (.tup [.l cS r.1,.agg [.i r.2.Code,.i r.2.Index]]):=by
 unfold yaa at hr;refine rfx (fn:=Tryz.f105) func105 fun g0 hg=>?_
 refine clx 11 hr (zlb _) fun v1 _ hr=>?_
 refine ax 4 12 hr (fun hr=>?_) fun hr=>?_
 .refine clx 2 hr (zga _ _) fun v4 _ hr=>?_
  exact kx 7 hr
 refine ax 8 17 hr (fun hr=>?_) fun hr=>?_
 .refine clx 2 hr (zga _ _) fun v7 _ hr=>?_
  exact kx 7 hr
 refine clx 3 hr (YBa _) fun v9 _ hr=>?_
 refine ax 4 22 hr (fun hr=>?_) fun hr=>?_
 .refine clx 2 hr (zga _ _) fun v12 _ hr=>?_
  exact kx 7 hr
 refine rn tk 6 rfl ?_;obtain ⟨v14,h15,hr⟩:=zaa hr;refine wc h15 rfl rfl rfl<|rn tk 1 rfl ?_;obtain ⟨v16,h17,hr⟩:=zaa hr;refine wc h17 rfl rfl rfl<|rn tk 10 rfl ?_;refine kVa 1008 (d:=8) 9 1 rfl rfl rfl (hO ?_);refine aq1 4 hr [5,8] [5] (fun s18=>[(6,.s s18.1),(7,.i s18.2.1)]) (fun s18=>[(1008,.row 9 false 1 (List.map cS s18.2.2))]) (.exit 1) [5,8] [5] (fun b19=>[(6,.s b19.1)]) (fun b19=>[(1008,.row 9 false 1 (List.map cS b19.2))]) (fun s18 x20 hr=>?_) (fun b19 hr=>?_)
 .unfold w9a at hr;refine ax 8 36 hr (fun hr=>?_) fun hr=>?_
  .refine clx 7 hr (YAa _ _) fun v22 _ hr=>?_
   refine ax 10 41 hr (fun hr=>?_) fun hr=>?_
   .exact ox 3 hr
   refine rn tk 7 rfl ?_;obtain ⟨v25,h26,hr⟩:=zaa hr;refine wscH tk h26 rfl rfl rfl rfl<|wz cS ([v25]:List Str) tk rfl rfl (fun _=>rfl) rfl rfl rfl ?_;obtain ⟨v27,h28,hr⟩:=zaa hr;refine wa tk h28 rfl rfl rfl rfl (fun _=>rfl) rfl rfl<|rn tk 6 rfl ?_;obtain ⟨v29,h30,hr⟩:=zaa hr;refine wscL tk h30 rfl rfl rfl rfl ?_;exact cx 4 hr
  exact ox 2 hr
 refine rn tk 6 rfl<|wz cS ([b19.1]:List Str) tk rfl rfl (fun _=>rfl) rfl rfl rfl ?_;obtain ⟨v31,h32,hr⟩:=zaa hr;refine wa tk h32 rfl rfl rfl rfl (fun _=>rfl) rfl rfl<|rn tk 7 rfl<|wnh tk rfl rfl rfl rfl<|rn tk 4 rfl ?_;refine qwa (d:=55) (F:=cS) (l:=v31) rfl rfl (hC ?_);refine aq2 0 hr [5,8,55,56] [1008,5] (fun s34=>[(57,.i s34)]) (fun _=>[]) (.exit 3) [5,8] [1008,5] (fun _=>[]) (fun _=>[]) .ret [5] [] (fun b36=>[(4,.l cS b36.1)]) (fun b36=>[(5,.cells [.i b36.2.Code,.i b36.2.Index])]) (fun s34 x38 hr=>?_) (fun b35 hr=>?_) (fun b36 hr=>?_)
 .unfold jca at hr;refine ax 6 58 hr (fun hr=>?_) fun hr=>?_
  .refine rn tk 7 rfl ?_;obtain ⟨v40,h41,hr⟩:=zaa hr;refine wi tk h41 rfl rfl rfl rfl rfl ?_;refine ax 12 64 hr (fun hr=>?_) fun hr=>?_
   .refine clx 3 hr (zga _ _) fun v43 _ hr=>?_
    exact ox 7 hr
   exact cx 7 hr
  exact ox 2 hr
 .refine clx 5 hr zla fun v45 _ hr=>?_
  refine rn tk 4 rfl ?_;refine qwa (d:=4) (F:=cS) (l:=v31) rfl rfl (hC ?_);exact kx 1 hr
 exact kx 2 hr
theorem qWa(a0:List zca)(r:zoa)(hr:koa a0=some r):Run prog 80 [.l zca.pc a0] (.agg [.i r.Code,.i r.Index]):=by
 unfold koa at hr;refine rfx (fn:=f80) func80 fun g0 hg=>?_
 refine rn tk 9 rfl<|wn tk rfl rfl rfl ?_;refine ax 3 9 hr (fun hr=>?_) fun hr=>?_
 .refine clx 2 hr (zga _ _) fun v2 _ hr=>?_
  exact kx 5 hr
 refine rn tk 6 rfl<|wn tk rfl rfl rfl ?_;refine aq2 4 hr [2,11,12] [2] (fun s4=>[(13,.i s4)]) (fun _=>[]) (.exit 0) [2] [2] (fun _=>[]) (fun _=>[]) .ret [2] [] (fun _=>[]) (fun b6=>[(2,.cells [.i b6.Code,.i b6.Index])]) (fun s4 x8 hr=>?_) (fun b5 hr=>?_) (fun b6 hr=>?_)
 .unfold vea at hr;refine ax 6 14 hr (fun hr=>?_) fun hr=>?_
  .refine rn tk 7 rfl ?_;obtain ⟨v10,h11,hr⟩:=zaa hr;refine wi tk h11 rfl rfl rfl rfl rfl ?_;refine clx 12 hr (yBa _ _) fun v12 _ hr=>?_
   refine clx 11 hr (zha _) fun v14 _ hr=>?_
   refine ax 2 27 hr (fun hr=>?_) fun hr=>?_
   .refine clx 5 hr (zga _ _) fun v17 _ hr=>?_
    exact ox 6 hr
   exact cx 7 hr
  exact ox 2 hr
 .refine clx 4 hr zla fun v19 _ hr=>?_
  exact kx 4 hr
 exact kx 2 hr
theorem jua(a0:List UInt8)(r:Int)(hr:wMa a0=some r):Run prog 109 [.l cU a0] (.i r):=by
 unfold wMa at hr;refine rfx (fn:=f109) func109 fun g0 hg=>?_
 refine aq2 17 hr [0] [] (fun s1=>[(3,.i s1.1),(4,.i s1.2)]) (fun _=>[]) (.exit 0) [] [] (fun _=>[]) (fun _=>[]) .ret [] [] (fun b3=>[(2,.i b3)]) (fun _=>[]) (fun s1 x5 hr=>?_) (fun b2 hr=>?_) (fun b3 hr=>?_)
 .unfold vva at hr;refine rn tk 5 rfl<|wn tk rfl rfl rfl ?_;refine ax 3 9 hr (fun hr=>?_) fun hr=>?_
  .refine jkq 2 [0] [] (fun j7=>[(3,.i j7.1),(4,.i j7.2)]) (fun _=>[]) (fun j7=>wka j7=some x5) ?_ ?_
   .refine rn tk 5 rfl ?_;obtain ⟨v8,h9,hr⟩:=zaa hr;refine wi tk h9 rfl rfl rfl rfl rfl ?_;refine jq 5 hr [0,3,4,5] [] (fun j10=>[(32,.bo j10)]) (fun _=>[]) (fun j10 hr=>?_) (fun j10 hr=>?_)
    .refine bx 4 18 hr (fun c11 hr=>?_) fun c11 hr=>?_
     .refine rn tk 3 rfl<|ug rfl rfl rfl<|wn tk rfl rfl rfl ?_;refine bx 3 25 hr (fun c12 hr=>?_) fun c12 hr=>?_
      .refine rn tk 3 rfl ?_;obtain ⟨v13,h14,hr⟩:=zaa hr;refine ug rfl rfl rfl<|wi tk h14 rfl rfl rfl rfl rfl ?_;exact jx 4 hr
      exact jx 8 hr
     exact jx 15 hr
    refine ax 0 32 hr (fun hr=>?_) fun hr=>?_
    .refine rn tk 15 rfl<|jn ((0,(w64 (s1.2+1)))) hr rfl rfl
    refine jq 3 hr [0,3,4] [] (fun j16=>[(40,.bo j16)]) (fun _=>[]) (fun j16 hr=>?_) (fun j16 hr=>?_)
    .refine bx 4 37 hr (fun c17 hr=>?_) fun c17 hr=>?_
     .exact jx 4 hr
     exact jx 4 hr
    refine ax 0 40 hr (fun hr=>?_) fun hr=>?_
    .exact ox 9 hr
    refine ax 15 44 hr (fun hr=>?_) fun hr=>?_
    .exact ox 8 hr
    refine rn tk 2 rfl<|jn (((w64 (s1.1+1)),s1.2)) hr rfl rfl
   intro j7 hr;unfold wka at hr;exact cx 5 hr
  exact ox 2 hr
 .exact kx 8 hr
 exact kx 2 hr
theorem V9a(a0:List UInt8)(r:zoa)(hr:yba a0=some r):Run prog 81 [.l cU a0] (.agg [.i r.Code,.i r.Index]):=by
 unfold yba at hr;refine rfx (fn:=f81) func81 fun g0 hg=>?_
 refine clx 9 hr (jua _) fun v1 _ hr=>?_
 refine ax 9 5 hr (fun hr=>?_) fun hr=>?_
 .refine clx 2 hr (zga _ _) fun v4 _ hr=>?_
  exact kx 6 hr
 refine ax 6 8 hr (fun hr=>?_) fun hr=>?_
 .refine clx 2 hr (zga _ _) fun v7 _ hr=>?_
  exact kx 6 hr
 refine clx 5 hr zla fun v9 _ hr=>?_
 exact kx 4 hr
section
open Go.RowKit Go.Lib Go.Proofs.Tryz
variable {E:Env} {T:Tab} {fr:Fr} {σ:Sto} {k:KS} {l:List Oper} {cs:List (Option AV)} {all:List Node} {H:List Bool} {K:Post} {g:GS}
abbrev HvF:=Fr->Sto->Fr × Sto
def hget:List (Nat × HvF)->Nat->Option HvF
 | [],_=>none
 | (k,c)::r,i=>bif Nat.beq k i then some c else hget r i
def mrun(T:Tab)(tl:List (Nat × AV))(hl:List (Nat × HvF)):List Oper->Nat->Fr->Sto->Option (List (Option AV))
 | [],_,_,_=>some []
 | o::r,i,fr,σ=>match hget hl i with
  | some F=>(match F fr σ with | (f',s')=>(match mrun T tl hl r (i+1) f' s' with | some cs=>some (none::cs) | none=>none))
  | none=>(match o.dst with
   | none=>none
   | some d=>(match (match tget tl i with | some c=>some c | none=>qval T fr.ev σ o.op) with
    | some c=>(match mrun T tl hl r (i+1) ((d,c)::fr) σ with | some cs=>some (some c::cs) | none=>none)
    | none=>none))
def runH(hl:List (Nat × HvF)):List Nat->Fr->Sto->Option (Fr × Sto)
 | [],f,s=>some (f,s)
 | i::r,f,s=>match hget hl i with
  | some F=>(match F f s with | (f',s')=>runH hl r f' s')
  | none=>none
def ndsF(n:Nat)(hl:List (Nat × HvF))(fr:Fr)(σ:Sto):List (List Nat)->Option (List Node)
 | []=>some []
 | h::r=>match runH hl h fr σ with
  | some (f,s)=>(match ndsF n hl fr σ r with | some x=>some (((List.range n).map h.contains,f,s)::x) | none=>none)
  | none=>none
theorem mh(n:Nat){id:Nat}(tl:List (Nat × AV))(hl:List (Nat × HvF))(Hs:List (List Nat))(h:Zya E l cs (k.post E) all all)
 (hmix:E.P.follows .mixedOrders=true) (hT:zOa E.P T:=by exact tk) (hg:GS.run T E.N n g=some (.code (.region id l.toArray true) fr σ k):=by exact rfl) (hz:mrun T tl hl l 0 fr σ=some cs:=by exact rfl) (hn:ndsF l.length hl fr σ Hs=some all:=by exact rfl)
 (hok:(vub E.N l cs,all[0]?)=(true,some (List.replicate l.length false,fr,σ)):=by kernel_rfl):g.holds E:=
 rn hT n hg (YRa cs all hmix (congrArg Prod.fst hok) (congrArg Prod.snd hok) rfl kPa qKa h)
theorem mfq(hT:zOa E.P T)(is ks:List Nat){frJ:Fr}(h2:vGa E l cs all H fr σ is)(h:K .normal frJ σ)(h1:((ZAa l cs H is).map (JQa T l cs fr σ),(ZAa l cs H is).all (fun i=>(Kpa cs i).isSome))=((ZAa l cs H is).map (Kpa cs),true):=by kernel_rfl)(hf:(purL l cs fr).px ks=some frJ:=by exact rfl):JPa E l cs K all (H,fr,σ):=
 mf hT is frJ h1 h2 (Fr.px_ok hf).1 h
theorem mnq(hT:zOa E.P T)(is:List Nat)(h2:vGa E l cs all H fr σ is)(h1:(((List.range l.length).all fun i=> !(isHv cs i) || H.getD i false),(ZAa l cs H is).map (JQa T l cs fr σ),(ZAa l cs H is).all (fun i=>(Kpa cs i).isSome))=(false,(ZAa l cs H is).map (Kpa cs),true):=by kernel_rfl):JPa E l cs K all (H,fr,σ):=mn hT is h1 h2
theorem mdtq(j:Nat){i k:Nat}{o:Oper}{c:AV}{rs:List Nat}{σ' :Sto}(h:HvD E o (purF l cs (allT l)++fr) σ k c rs σ')(ho:l[i]? =some o:=by exact rfl)(e:(((List.range l.length).all fun i=>yxa l cs i !=some k),vtb cs rs,cs[i]?,all[j]?)=(true,true,some none,some (H.set i true,(k,c)::fr.clrs rs,σ')):=by kernel_rfl):qyb E l cs all H fr σ i:=mdt j ho h e
theorem mpu{i:Nat}{o:Oper}{c:AV}(h:OpG E o (purF l cs (allT l)++fr) σ c)(ho:l[i]? =some o:=by exact rfl)(hc:cs[i]? =some (some c):=by exact rfl):qyb E l cs all H fr σ i:=.pure ho hc h
end
theorem jSa(a0:zda)(r:List UInt8)(hr:qOa a0=some r):Run prog 70 [.agg [.l zca.pc a0.Fields,.l cU a0.Body]] (.l cU r):=by
 unfold qOa at hr;refine rfx (fn:=f70) func70 fun g0 hg=>?_
 refine rn tk 9 rfl ?_;refine kVa 1003 (d:=3) 5 1 rfl rfl rfl (hO ?_);refine rn tk 7 rfl<|wn tk rfl rfl rfl ?_;refine aq1 4 hr [1,3,11,12] [1] (fun s1=>[(13,.i s1.1)]) (fun s1=>[(1003,.row 5 false 1 (List.map cU s1.2))]) (.exit 0) [1,3] [1] (fun _=>[]) (fun b2=>[(1003,.row 5 false 1 (List.map cU b2))]) (fun s1 x3 hr=>?_) (fun b2 hr=>?_)
 .unfold q2a at hr;refine ax 6 14 hr (fun hr=>?_) fun hr=>?_
  .refine rn tk 6 rfl ?_;obtain ⟨v5,h6,hr⟩:=zaa hr;refine wi tk h6 rfl rfl rfl rfl rfl ?_;refine clx 11 hr (yBa _ _) fun v7 _ hr=>?_
   refine rn tk 11 rfl<|wn tk rfl rfl rfl ?_;refine aq1 4 hr [1,3,11,12,13,25,26] [1] (fun s9=>[(27,.i s9.1)]) (fun s9=>[(1003,.row 5 false 1 (List.map cU s9.2))]) (.exit 2) [1,3,11,12,13] [1] (fun _=>[]) (fun b10=>[(1003,.row 5 false 1 (List.map cU b10))]) (fun s9 x11 hr=>?_) (fun b10 hr=>?_)
   .unfold q1a at hr;refine ax 6 28 hr (fun hr=>?_) fun hr=>?_
    .refine rn tk 6 rfl ?_;obtain ⟨v13,h14,hr⟩:=zaa hr;refine wi tk h14 rfl rfl rfl rfl rfl<|rn tk 7 rfl ?_;obtain ⟨v15,h16,hr⟩:=zaa hr;refine wo (y8a (k:=33) (l:=s9.2) (s:=v13) (lim:=140737488355328) rfl rfl rfl rfl zva zJa.u zRa rfl h16) rfl<|wz cU ([(13:UInt8),(10:UInt8)]:List UInt8) tk rfl rfl (fun _=>rfl) rfl rfl rfl ?_;obtain ⟨v17,h18,hr⟩:=zaa hr;refine wa tk h18 rfl rfl rfl rfl (fun _=>rfl) rfl rfl ?_;exact cx 8 hr
    exact ox 2 hr
   exact cx 7 hr
  exact ox 2 hr
 refine rn tk 3 rfl ?_;obtain ⟨v19,h20,hr⟩:=zaa hr;obtain ⟨v21,h22,hr⟩:=zaa hr;refine mh 0 [(1,.l cU (([(13:UInt8),(10:UInt8)]:List UInt8)))] [(0,fun f s=>((38,.hs 1003 0)::f,s)),(2,fun f s=>((40,.hs 1003 0)::Fr.clrs [1003] f,(Sto.upd (Sto.clr 1003 s) 1003 (.row 5 false 1 (List.map cU v19))))),(5,fun f s=>((43,.hs 1003 0)::Fr.clrs [1003] f,(Sto.upd (Sto.clr 1003 s) 1003 (.row 5 false 1 (List.map cU v21))))),(6,fun f s=>((2,.hs 1003 0)::f,s))] [[],[0],[0,2],[0,2,5],[0,2,5,6]] ?_ mixed;refine .cons (mnq tk [0,1] (.cons (mdtq 1 (hv_g rfl rfl (mqz tk rfl))) (.cons (mpu (KTa (F:=cU) (l:=([(13:UInt8),(10:UInt8)]:List UInt8)) zva zRa rfl (fun _=>rfl) rfl rfl)) .nil))) (.cons (mnq tk [1,2] (.cons (mpu (KTa (F:=cU) (l:=([(13:UInt8),(10:UInt8)]:List UInt8)) zva zRa rfl (fun _=>rfl) rfl rfl)) (.cons (mdtq 2 (zUb (F:=cU) (l:=b2) (xs:=(([(13:UInt8),(10:UInt8)]:List UInt8))) (lim:=140737488355328) rfl rfl rfl rfl zva zRa rfl rfl (fun _=>rfl) rfl h20)) .nil))) (.cons (mnq tk [5] (.cons (mdtq 3 (zUb (F:=cU) (l:=v19) (xs:=a0.Body) (lim:=140737488355328) rfl rfl rfl rfl zva zRa rfl rfl (fun _=>rfl) rfl h22)) .nil)) (.cons (mnq tk [6] (.cons (mdtq 4 (hv_g rfl rfl (mqz tk rfl))) .nil)) (.cons (mfq tk [] [2] .nil (hA ?_)) .nil))));refine rn tk 1 rfl ?_;refine qwa (d:=2) (F:=cU) (l:=v21) rfl rfl (hC ?_);exact kx 1 hr
theorem zVa(a0:zda)(r:zoa)(hr:zCa a0=some r):Run prog 47 [.agg [.l zca.pc a0.Fields,.l cU a0.Body]] (.agg [.i r.Code,.i r.Index]):=by
 unfold zCa at hr;refine rfx (fn:=f47) func47 fun g0 hg=>?_
 refine clx 11 hr (qWa _) fun v1 _ hr=>?_
 refine clx 7 hr (zha _) fun v3 _ hr=>?_
 refine ax 2 8 hr (fun hr=>?_) fun hr=>?_
 .exact kx 8 hr
 refine clx 6 hr (jSa _) fun v6 _ hr=>?_
 refine wn tk rfl rfl rfl ?_;refine ax 3 13 hr (fun hr=>?_) fun hr=>?_
 .refine clx 2 hr (zga _ _) fun v9 _ hr=>?_
  exact kx 5 hr
 refine clx 6 hr (V9a _) fun v11 _ hr=>?_
 exact kx 4 hr
theorem Zda(a0:List zda)(r:zoa)(hr:waa a0=some r):Run prog 29 [.l zda.pc a0] (.agg [.i r.Code,.i r.Index]):=by
 unfold waa at hr;refine rfx (fn:=f29) func29 fun g0 hg=>?_
 refine jq 6 hr [0,2] [2] (fun j1=>[(13,.bo j1)]) (fun _=>[]) (fun j1 hr=>?_) (fun j1 hr=>?_)
 .refine rn tk 2 rfl<|wn tk rfl rfl rfl ?_;refine bx 2 9 hr (fun c2 hr=>?_) fun c2 hr=>?_
  .exact jx 5 hr
  refine rn tk 1 rfl<|ug rfl rfl rfl<|wn tk rfl rfl rfl ?_;exact jx 3 hr
 refine ax 0 13 hr (fun hr=>?_) fun hr=>?_
 .refine clx 2 hr (zga _ _) fun v4 _ hr=>?_
  exact kx 5 hr
 refine rn tk 6 rfl<|wn tk rfl rfl rfl ?_;refine aq2 4 hr [2,15,16] [2] (fun s6=>[(17,.i s6)]) (fun _=>[]) (.exit 0) [2] [2] (fun _=>[]) (fun _=>[]) .ret [2] [] (fun _=>[]) (fun b8=>[(2,.cells [.i b8.Code,.i b8.Index])]) (fun s6 x10 hr=>?_) (fun b7 hr=>?_) (fun b8 hr=>?_)
 .unfold wra at hr;refine ax 6 18 hr (fun hr=>?_) fun hr=>?_
  .refine rn tk 7 rfl ?_;obtain ⟨v12,h13,hr⟩:=zaa hr;refine wi tk h13 rfl rfl rfl rfl rfl ?_;refine clx 9 hr (zVa _) fun v14 _ hr=>?_
   refine clx 7 hr (zha _) fun v16 _ hr=>?_
   refine ax 2 25 hr (fun hr=>?_) fun hr=>?_
   .refine clx 5 hr (zga _ _) fun v19 _ hr=>?_
    exact ox 6 hr
   exact cx 7 hr
  exact ox 2 hr
 .refine clx 4 hr zla fun v21 _ hr=>?_
  exact kx 4 hr
 exact kx 2 hr
theorem wUa(a0:zda)(r:(List UInt8) × zoa)(hr:qPa a0=some r):Run prog 34 [.agg [.l zca.pc a0.Fields,.l cU a0.Body]] (.tup [.l cU r.1,.agg [.i r.2.Code,.i r.2.Index]]):=by
 unfold qPa at hr;refine rfx (fn:=f34) func34 fun g0 hg=>?_
 refine clx 11 hr (zVa _) fun v1 _ hr=>?_
 refine clx 7 hr (zha _) fun v3 _ hr=>?_
 refine ax 2 8 hr (fun hr=>?_) fun hr=>?_
 .refine mdq 1 [] [2,3] .nil ?_ mixed;exact kx 3 hr
 refine clx 5 hr (jSa _) fun v6 _ hr=>?_
 refine clx 0 hr zla fun v8 _ hr=>?_
 exact kx 5 hr
theorem Q0a(a0:List zda)(a1:Int)(r:(List Int) × zoa)(hr:jpa a0 a1=some r):Run prog 24 [.l zda.pc a0,.i a1] (.tup [.l cI r.1,.agg [.i r.2.Code,.i r.2.Index]]):=by
 unfold jpa at hr;refine rfx (fn:=f24) func24 fun g0 hg=>?_
 refine clx 10 hr (Zda _) fun v1 _ hr=>?_
 refine clx 7 hr (zha _) fun v3 _ hr=>?_
 refine ax 2 17 hr (fun hr=>?_) fun hr=>?_
 .refine dq 1 2 [] [] .nil .nil ?_ mixed;exact kx 5 hr
 refine jq 3 hr [0,1,5] [5] (fun j6=>[(24,.bo j6)]) (fun _=>[]) (fun j6 hr=>?_) (fun j6 hr=>?_)
 .refine bx 4 21 hr (fun c7 hr=>?_) fun c7 hr=>?_
  .exact jx 4 hr
  exact jx 4 hr
 refine ax 0 24 hr (fun hr=>?_) fun hr=>?_
 .refine clx 2 hr (zga _ _) fun v9 _ hr=>?_
  exact kx 6 hr
 refine rn tk 5 rfl ?_;refine vZa 1007 (d:=7) 3 1 rfl rfl rfl (hO ?_);refine rn tk 11 rfl<|wn tk rfl rfl rfl ?_;refine aq1 4 hr [1,5,7,26,27] [5] (fun s11=>[(8,.i s11.1),(28,.i s11.2.1)]) (fun s11=>[(1007,.row 3 true 1 (List.map cI s11.2.2))]) (.exit 0) [5,7] [5] (fun _=>[]) (fun b12=>[(1007,.row 3 true 1 (List.map cI b12))]) (fun s11 x13 hr=>?_) (fun b12 hr=>?_)
 .unfold jKa at hr;refine ax 6 29 hr (fun hr=>?_) fun hr=>?_
  .refine jq 2 hr [1,5,7,26,27,28] [5] (fun j15=>[(8,.i j15.1)]) (fun j15=>[(1007,.row 3 true 1 (List.map cI j15.2))]) (fun j15 hr=>?_) (fun j15 hr=>?_)
   .refine rn tk 3 rfl ?_;obtain ⟨v16,h17,hr⟩:=zaa hr;refine wi tk h17 rfl rfl rfl rfl rfl ?_;refine clx 8 hr (wUa _) fun v18 _ hr=>?_
    refine rn tk 12 rfl<|wn tk rfl rfl rfl<|rn tk 8 rfl<|wnh tk rfl rfl rfl rfl ?_;refine jq 4 hr [1,5,7,11,26,27,28] [1007,5] (fun j20=>[(8,.i j20.1),(13,.i j20.2.1),(57,.bo j20.2.2)]) (fun _=>[]) (fun j20 hr=>?_) (fun j20 hr=>?_)
    .refine bx 4 46 hr (fun c21 hr=>?_) fun c21 hr=>?_
     .refine rn tk 2 rfl ?_;obtain ⟨v22,h23,hr⟩:=zaa hr;refine ug rfl rfl rfl<|wih tk h23 rfl rfl rfl rfl rfl ?_;obtain ⟨v24,h25,hr⟩:=zaa hr;refine ug rfl rfl rfl<|wq (Wqa (F:=cI) (l:=s11.2.2) (n:=((w64 ((s11.2.2.length:Int) - 1)))) (j:=0) rfl rfl jCa rfl h25 rfl) rfl rfl rfl ?_;refine bx 4 54 hr (fun c26 hr=>?_) fun c26 hr=>?_
      .exact jx 4 hr
      exact jx 4 hr
     exact jx 12 hr
    refine ax 0 57 hr (fun hr=>?_) fun hr=>?_
    .refine rn tk 4 rfl ?_;obtain ⟨v28,h29,hr⟩:=zaa hr;refine wih tk h29 rfl rfl rfl rfl rfl ?_;obtain ⟨v30,h31,hr⟩:=zaa hr;refine wq (Wqa (F:=cI) (l:=s11.2.2) (n:=j20.2.1) (j:=0) rfl rfl jCa rfl h31 rfl) rfl rfl rfl<|rn tk 1 rfl ?_;obtain ⟨v32,h33,hr⟩:=zaa hr;refine wih tk h33 rfl rfl rfl rfl rfl ?_;obtain ⟨v34,h35,hr⟩:=zaa hr;refine wo (wKa (F:=cI) (l:=s11.2.2) (n:=j20.2.1) (j:=0) (v:=v34) (v' :=((w64 (v30+1)))) (pcs:=[pI ((w64 (v30+1)))]) rfl rfl rfl jCa rfl h35 rfl rfl) rfl ?_;exact jx 5 hr
    refine rn tk 5 rfl<|wz cI ([1]:List Int) tk rfl rfl (fun _=>rfl) rfl rfl rfl ?_;obtain ⟨v36,h37,hr⟩:=zaa hr;refine wa tk h37 rfl rfl rfl rfl (fun _=>rfl) rfl rfl<|rn tk 5 rfl<|wn tk rfl rfl rfl ?_;exact jx 3 hr
   exact cx 4 hr
  exact ox 2 hr
 refine clx 5 hr zla fun v38 _ hr=>?_
 refine rn tk 4 rfl ?_;refine jaa 1007 rfl (hC ?_);refine qwa (d:=4) (F:=cI) (l:=b12) rfl rfl (hC ?_);exact kx 1 hr
theorem str_argN{g:G}{s:Str}{v:Value}(h:Rel g (.s s) v):v=.string (strB s):=z6a h
theorem pow_tab {g : G} (hg : Gl g) : Lib.TabIs prog g.w "internal/strconv.uint64pow10" .u64 Lib.pow10Tab := by
 obtain ⟨t,fz,h⟩:=hg.2.1 (0,(Lib.pow10Tab.map fun z=>Value.int .u64 z).toArray) (by simp[globK]);have hn : prog.globalNamed "internal/strconv.uint64pow10" = some 0 := by kernel_rfl
 unfold Lib.TabIs World.var?;rw[hn];simp only[jAb];simp only at h;rw[h]
theorem vHb(g:G)(q:Nat)(os:Array Obj):Old (fun _=>False) g ⟨Go.Sort.grow (g.w.drewN q) os,g.u,g.loc⟩:=by
 have hb:∀k,k < g.w.heap.size->(Go.Sort.grow (g.w.drewN q) os).heap[k]? =g.w.heap[k]? :=by
  intro k hk;show (g.w.heap++os)[k]? =_;rw[jBf hk]
 refine ⟨rfl,rfl,rfl,⟨?_,fun _ _=>jAq _,fun k i hk hi=>?_,fun r hr=>(hb r (zNa hr)).trans hr⟩,fun k hk _=>⟨hb k hk,rfl⟩⟩
 .show g.w.heap.size<=(g.w.heap++os).size;simp
 simp only[World.cell?];rw[hb k hk]
theorem q4a(n:Int)(r:Str)(hr:kda n=some r):Run prog 33 [.i n] (.s r):=by
 unfold kda at hr;split at hr
 case isFalse=>cases hr
 rename_i hlen;cases hr;refine ⟨⟨_,_,⟨func33,rfl,by kernel_rfl⟩⟩,fun g vs hw hg ha=>?_⟩;obtain ⟨hsz,hrel⟩:=ha;obtain ⟨l⟩:=vs
 match l,hsz with
 | [x],_=>
  have e2:x=.int .i64 n:=z6a (hrel 0 _ rfl);subst e2;refine callsIn_wide.2 ((Tryz.strconv_Itoa n hlen.1 hlen.2 g.w (pow_tab hg)).mono ?_);rintro e w' ⟨rfl,q,os,rfl⟩;exact ⟨⟨Go.Sort.grow (g.w.drewN q) os,g.u,g.loc⟩,_,rfl,rfl,vHb g q os,fun k hk=>hw k (jBg (vHb g q os).ext.size hk),rfl,.pv (.b rfl)⟩
theorem YCa(a0:Int)(r:Bool)(hr:jEa a0=some r):Run prog 60 [.i a0] (.bo r):=by
 unfold jEa at hr;refine YHa (fn:=f60) ⟨func60,rfl,by kernel_rfl⟩ rfl (fun _=>rfl) fun g0 hg=>?_
 refine k4b ?_;refine Vda ?_;refine kua rfl (qYa (d:=2) rfl rfl Qka) ?_;refine Wma<|zob ?_;obtain ⟨j1,hx,hy⟩:=zaa hr;refine Jsa (fun j1=>[(2,.bo j1)]) (fun j1=>[]) (fun z=>j1=z) ?_ ?_
 .have hr:=hx;clear hx hy;refine Vda ?_;refine kua rfl (qYa (d:=3) rfl rfl Vea) ?_;refine kua rfl (qYa (d:=4) rfl rfl (ev_geq rfl rfl)) ?_;refine kua rfl (qYa (d:=5) rfl rfl Vea)<|v3a (decide ((-68719476736)<=a0)) (fun c2=>?_) (fun c2=>?_)
  .replace hr:=VMa c2 hr
   refine Jqa (d:=5) rfl rfl rfl c2 (qYa (d:=6) rfl rfl Vea) ?_;refine Jqa (d:=5) rfl rfl rfl c2 (qYa (d:=7) rfl rfl (ev_leq rfl rfl)) ?_;refine kua rfl (qYa (d:=8) rfl rfl (Zna rfl c2)) ?_;refine kua rfl (qYa (d:=2) rfl rfl Qka) ?_;refine Wma ?_;cases hr;exact VOa _ rfl (Qja rfl Qia) zLa
  replace hr:=VNa c2 hr
  refine Jra (d:=5) rfl rfl rfl c2 ?_;refine Jra (d:=5) rfl rfl rfl c2 ?_;refine kua rfl (qYa (d:=8) rfl rfl (Qla rfl c2)) ?_;refine kua rfl (qYa (d:=2) rfl rfl Qka) ?_;refine Wma ?_;cases hr;exact VOa _ rfl (Qja rfl Qia) zLa
 rintro _ rfl;have hr:=hy;clear hx hy;refine wPb ?_;cases hr;exact kret' rfl (.cons (wWb rfl) .nil) rfl
theorem Zea(a0:Int)(r:Int)(hr:v6a a0=some r):Run prog 97 [.i a0] (.i r):=by
 unfold v6a at hr;refine rfx (fn:=f97) func97 fun g0 hg=>?_
 refine rn tk 17 rfl<|wq (Zra rfl rfl rfl) rfl rfl rfl<|rn tk 2 rfl<|wq (Zra rfl rfl rfl) rfl rfl rfl<|rn tk 2 rfl<|wq (Zra rfl rfl rfl) rfl rfl rfl ?_;exact kx 5 hr
theorem YDa(a0:Int)(r:Bool)(hr:jIa a0=some r):Run prog 131 [.i a0] (.bo r):=by
 unfold jIa at hr;refine rfx (fn:=f131) func131 fun g0 hg=>?_
 refine rn tk 5 rfl<|jb hr (fun j1=>[(2,.bo j1)]) (fun j1=>[]) (fun j1 hr=>?_) (fun j1 hr=>?_)
 .refine rn tk 2 rfl<|wq (Zsa rfl rfl rfl) rfl rfl rfl ?_;refine bx 2 6 hr (fun c2 hr=>?_) fun c2 hr=>?_
  .refine rn tk 1 rfl<|ug rfl rfl rfl<|wq (Zsa rfl rfl rfl) rfl rfl rfl ?_;refine bx 2 10 hr (fun c3 hr=>?_) fun c3 hr=>?_
   .exact jx 7 hr
   refine rn tk 1 rfl<|ug rfl rfl rfl<|wq (Zsa rfl rfl rfl) rfl rfl rfl ?_;exact jx 5 hr
  exact jx 11 hr
 exact kx 1 hr
theorem Zfa(a0:Int)(a1:Int)(r:Int)(hr:v7a a0 a1=some r):Run prog 98 [.i a0,.i a1] (.i r):=by
 unfold v7a at hr;refine rfx (fn:=f98) func98 fun g0 hg=>?_
 refine rn tk 7 rfl<|wq (WMa (cs:=[.i 31,.i 28,.i 31,.i 30,.i 31,.i 30,.i 31,.i 31,.i 30,.i 31,.i 30,.i 31]) Vqa jCa (.inr ⟨rfl,rfl⟩) (by kernel_rfl)) rfl rfl rfl<|rn tk 2 rfl ?_;obtain ⟨v1,h2,hr⟩:=zaa hr;refine wq (qsb (f:=cI) (L:=([31,28,31,30,31,30,31,31,30,31,30,31]:List Int)) rfl rfl Vqa jCa rfl rfl (fun _=>rfl) h2 rfl) rfl rfl rfl<|rn tk 3 rfl<|jb hr (fun j3=>[(5,.i j3)]) (fun j3=>[]) (fun j3 hr=>?_) (fun j3 hr=>?_)
 .refine jb hr (fun j4=>[(5,.i v1),(15,.bo j4)]) (fun j4=>[]) (fun j4 hr=>?_) (fun j4 hr=>?_)
  .refine bx 4 12 hr (fun c5 hr=>?_) fun c5 hr=>?_
   .refine rn tk 1 rfl ?_;obtain ⟨v6,h7,hr⟩:=zaa hr;refine ug rfl rfl rfl<|cl (YDa _ _ h7) rfl rfl ?_;exact jx 2 hr
   exact jx 4 hr
  refine ax 0 15 hr (fun hr=>?_) fun hr=>?_
  .exact jx 5 hr
  exact jx 1 hr
 exact kx 7 hr
theorem vza(a0:Int)(a1:Int)(a2:Int)(r:Int)(hr:vla a0 a1 a2=some r):Run prog 63 [.i a0,.i a1,.i a2] (.i r):=by
 unfold vla at hr;refine rfx (fn:=f63) func63 fun g0 hg=>?_
 refine clx 8 hr (Zea _) fun v1 _ hr=>?_
 refine clx 0 hr (Zea _) fun v3 _ hr=>?_
 refine rn tk 14 rfl<|al1 hr (fun s5=>[(0,.i a0),(1,.i a1),(7,.i s5.1),(8,.i s5.2)]) (fun s5=>[]) (.exit 0) (fun b6=>[(7,.i b6)]) (fun b6=>[]) rfl rfl (fun s5 x7 hr=>?_) (fun b6 hr=>?_)
 .unfold v8a at hr;refine ax 8 18 hr (fun hr=>?_) fun hr=>?_
  .refine clx 8 hr (Zfa _ _) fun v9 _ hr=>?_
   exact cx 10 hr
  exact ox 2 hr
 exact kx 9 hr
theorem Z1a(a0:Int)(a1:Int)(r:Int × Int)(hr:wPa a0 a1=some r):Run prog 62 [.i a0,.i a1] (.tup [.i r.1,.i r.2]):=by
 unfold wPa at hr;refine rfx (fn:=f62) func62 fun g0 hg=>?_
 refine rn tk 10 rfl ?_;obtain ⟨v1,h2,hr⟩:=zaa hr;refine wq (Zsa rfl rfl (qkb h2)) rfl rfl rfl<|rn tk 3 rfl ?_;obtain ⟨v3,h4,hr⟩:=zaa hr;refine wq (Zsa rfl rfl (qkb h4)) rfl rfl rfl<|rn tk 9 rfl ?_;obtain ⟨v5,h6,hr⟩:=zaa hr;refine wq (Zra rfl rfl (qkb h6)) rfl rfl rfl ?_;exact kx 6 hr
theorem zQa(a0:Int)(a1:Int)(a2:Int)(r:Bool)(hr:kta a0 a1 a2=some r):Run prog 61 [.i a0,.i a1,.i a2] (.bo r):=by
 unfold kta at hr;refine rfx (fn:=f61) func61 fun g0 hg=>?_
 refine rn tk 5 rfl<|jb hr (fun j1=>[(6,.bo j1)]) (fun j1=>[]) (fun j1 hr=>?_) (fun j1 hr=>?_)
 .refine bx 5 10 hr (fun c2 hr=>?_) fun c2 hr=>?_
  .exact jx 6 hr
  exact jx 6 hr
 exact kx 1 hr
theorem Z2a(a0:Int)(a1:Int)(r:jBa × zoa)(hr:kCa a0 a1=some r):Run prog 31 [.i a0,.i a1] (.tup [.agg (zN0 r.1),.agg [.i r.2.Code,.i r.2.Index]]):=by
 unfold kCa at hr;refine rfx (fn:=f31) func31 fun g0 hg=>?_
 refine clx 10 hr (YCa _) fun v1 _ hr=>?_
 refine ax 3 13 hr (fun hr=>?_) fun hr=>?_
 .refine clx 3 hr (zga _ _) fun v4 _ hr=>?_
  exact kx 6 hr
 refine clx 6 hr (zQa _ _ _) fun v6 _ hr=>?_
 refine ax 3 18 hr (fun hr=>?_) fun hr=>?_
 .refine clx 3 hr (zga _ _) fun v9 _ hr=>?_
  exact kx 6 hr
 refine clx 8 hr (Z1a _ _) fun v11 _ hr=>?_
 refine rn tk 8 rfl<|jb hr (fun j13=>[(1,.i a1),(4,.ptr 4 0),(5,.ptr 5 0),(6,.i v11.1),(7,.i v11.2),(36,.bo j13)]) (fun j13=>[(5,.cells [.i 0,.i 0]),(4,.cells [.i 0,.i 0,.i 0,.i 0,.i 0,.i 0,.i 0])]) (fun j13 hr=>?_) (fun j13 hr=>?_)
 .refine clx 2 hr (vza _ _ _) fun v14 _ hr=>?_
  refine bx 2 32 hr (fun c16 hr=>?_) fun c16 hr=>?_
  .exact jx 5 hr
  refine rn tk 1 rfl ?_;obtain ⟨v17,h18,hr⟩:=zaa hr;refine ug rfl rfl rfl<|cl (vza _ _ _ _ h18) rfl rfl ?_;exact jx 3 hr
 refine ax 0 36 hr (fun hr=>?_) fun hr=>?_
 .refine clx 3 hr (zga _ _) fun v20 _ hr=>?_
  exact kx 6 hr
 refine rn tk 14 rfl<|al1 hr (fun s22=>[(1,.i a1),(4,.ptr 4 0),(5,.ptr 5 0),(6,.i v11.1),(7,.i v11.2),(8,.i s22.1),(9,.i s22.2)]) (fun s22=>[(5,.cells [.i 0,.i 0]),(4,.cells [.i 0,.i 0,.i 0,.i 0,.i 0,.i 0,.i 0])]) (.exit 0) (fun b23=>[(1,.i a1),(4,.ptr 4 0),(5,.ptr 5 0),(6,.i v11.1),(7,.i v11.2),(8,.i b23)]) (fun b23=>[(5,.cells [.i 0,.i 0]),(4,.cells [.i 0,.i 0,.i 0,.i 0,.i 0,.i 0,.i 0])]) rfl rfl (fun s22 x24 hr=>?_) (fun b23 hr=>?_)
 .unfold q6a at hr;refine ax 7 40 hr (fun hr=>?_) fun hr=>?_
  .refine rn tk 2 rfl<|jb hr (fun j26=>[(1,.i a1),(4,.ptr 4 0),(5,.ptr 5 0),(6,.i v11.1),(7,.i v11.2),(8,.i j26),(9,.i s22.2)]) (fun j26=>[(5,.cells [.i 0,.i 0]),(4,.cells [.i 0,.i 0,.i 0,.i 0,.i 0,.i 0,.i 0])]) (fun j26 hr=>?_) (fun j26 hr=>?_)
   .refine rn tk 1 rfl<|jb hr (fun j27=>[(1,.i a1),(4,.ptr 4 0),(5,.ptr 5 0),(6,.i v11.1),(7,.i v11.2),(8,.i s22.1),(9,.i s22.2),(54,.bo j27)]) (fun j27=>[(5,.cells [.i 0,.i 0]),(4,.cells [.i 0,.i 0,.i 0,.i 0,.i 0,.i 0,.i 0])]) (fun j27 hr=>?_) (fun j27 hr=>?_)
    .refine bx 6 47 hr (fun c28 hr=>?_) fun c28 hr=>?_
     .refine rn tk 3 rfl ?_;obtain ⟨v29,h30,hr⟩:=zaa hr;refine ug rfl rfl rfl<|cl (vza _ _ _ _ h30) rfl rfl ?_;exact jx 4 hr
     exact jx 8 hr
    refine ax 0 54 hr (fun hr=>?_) fun hr=>?_
    .exact jx 7 hr
    exact jx 2 hr
   refine rn tk 2 rfl<|wq (Zra rfl rfl rfl) rfl rfl rfl ?_;exact cx 2 hr
  exact ox 2 hr
 refine rn tk 9 rfl<|al1 hr (fun s32=>[(1,.i a1),(4,.ptr 4 0),(5,.ptr 5 0),(6,.i v11.1),(7,.i v11.2),(8,.i b23),(10,.i s32)]) (fun s32=>[(5,.cells [.i 0,.i 0]),(4,.cells [.i 0,.i 0,.i 0,.i 0,.i 0,.i 0,.i 0])]) (.exit 2) (fun b33=>[(1,.i a1),(4,.ptr 4 0),(5,.ptr 5 0),(6,.i v11.1),(7,.i v11.2),(8,.i b23),(10,.i b33)]) (fun b33=>[(5,.cells [.i 0,.i 0]),(4,.cells [.i 0,.i 0,.i 0,.i 0,.i 0,.i 0,.i 0])]) rfl rfl (fun s32 x34 hr=>?_) (fun b33 hr=>?_)
 .unfold q7a at hr;refine clx 5 hr (vza _ _ _) fun v35 _ hr=>?_
  refine ax 4 62 hr (fun hr=>?_) fun hr=>?_
  .exact cx 9 hr
  exact ox 2 hr
 refine clx 9 hr (vza _ _ _) fun v38 _ hr=>?_
 refine rn tk 3 rfl<|wq (Zra rfl rfl rfl) rfl rfl rfl<|rn tk 1 rfl<|wq (Zra rfl rfl rfl) rfl rfl rfl<|wq (Zsa rfl rfl rfl) rfl rfl rfl<|rn tk 1 rfl<|wq (Zsa rfl rfl rfl) rfl rfl rfl ?_;refine clx 2 hr zla fun v40 _ hr=>?_
 exact kx 5 hr
theorem jtb{g:G}{w' :World}(h:Below g.w.heap.size g.w w'):Old (fun _=>False) g ⟨w',g.u,g.loc⟩:=
 ⟨h.os,h.tape,h.output,⟨h.size,fun _ _=>jAq _,fun k i hk _=>by simp only[World.cell?];rw[h.block k hk],fun r hr=>(h.block r (zNa hr)).trans hr⟩,fun k hk _=>⟨h.block k hk,rfl⟩⟩
theorem str_argJ{g:G}{s:Str}{v:Value}(h:Rel g (.s s) v):v=.string (strB s):=z6a h
theorem jub{g:G}{l:List Str}{v:Value}(h:Rel g (.l cS l) v):∃ad cap,v=.slice ad l.length cap/\l.length<=cap/\(l≠ []->∃b off,ad=some ⟨b,off,none⟩/\b < g.w.heap.size/\∀(i:Nat) s,l[i]? =some s->g.w.cell? ⟨b,off+i,none⟩=some (.string (strB s))):=by
 cases h with
 | pv h=>
  generalize hE:l.map cS=elems at h;have hEl:elems.length=l.length:=by rw[<-hE];simp
  unfold pL at h;rw[hE]at h;cases h with
  | @sl _ _ a cap size b off val hn h0 hc hz ha hu hcell h=>
   refine ⟨a,cap,by rw[hEl],by omega,fun hne=>?_⟩;have hne' :elems≠ []:=by rw[<-hE];simpa using hne
   refine ⟨b,off,ha hne',(hu hne').2,fun i s hi=>?_⟩;have hget:elems[i]? =some (cS s):=by rw[<-hE];simp[hi]
   have hs1:size=1:=by
    have:=hz _ (jAf hget);simpa[cS]using this.symm
   subst hs1;have hlt:i < elems.length:=(jAc.1 hget).1;rw[hcell i (by omega)];have:=h i 0 _ (.b (.string (strB s))) hget rfl;simp only[jCo,jBw]at this;have e:=z6a (g:=g) (.pv this);rw[e]
theorem Waa(l:List Str)(s:Str)(r:Str)(hr:vka l s=some r):Run prog 66 [.l cS l,.s s] (.s r):=by
 unfold vka at hr;split at hr
 case isFalse=>cases hr
 rename_i hlen;cases hr;refine ⟨⟨_,_,⟨func66,rfl,by kernel_rfl⟩⟩,fun g vs hw hg ha=>?_⟩;obtain ⟨hsz,hrel⟩:=ha;obtain ⟨vl⟩:=vs
 match vl,hsz with
 | [x,y],_=>
  have h0:Rel g (.l cS l) x:=hrel 0 _ rfl;obtain rfl:=str_argJ (hrel 1 _ rfl);obtain ⟨ad,cap,rfl,hcap,hcell⟩:=jub h0;refine callsIn_wide.2 ?_
  suffices hs:Calls prog 66 #[.slice ad l.length cap,.string (strB s)] g.w fun e w' =>e=.returned (.string (strB (Lib.join l s)))/\Below g.w.heap.size g.w w' by
   refine hs.mono ?_;rintro e w' ⟨rfl,hb⟩;exact ⟨⟨w',g.u,g.loc⟩,_,rfl,rfl,jtb hb,fun k hk=>hw k (jBg hb.size hk),rfl,.pv (.b rfl)⟩
  cases l with
  | nil=>exact (Tryz.strings_Join_none ad cap (strB s) g.w).mono fun e w' ⟨he,hw⟩=>⟨he,hw▸Below.refl _ _⟩
  | cons a l=>
   obtain ⟨b,off,rfl,hb,hc⟩:=hcell (by simp);have e1:((a::l).map strB).map (·.data.toList)=a::l:=by
    rw[List.map_map]
    conv=>rhs;rw[<-List.map_id (a::l)]
    exact List.map_congr_left fun x _=>rfl
   have:=Tryz.strings_Join b off cap ((a::l).map strB) (strB s) g.w (fun j x hx=>by
    simp only[jAj,jAh]at hx;obtain ⟨y,hy,rfl⟩:=hx;exact hc j y hy) hb (by rw[jAu];exact hlen.1) (by rw[jAu];exact hcap) (by rw[e1];exact hlen.2)
   rw[e1,jAu]at this;exact this
theorem Q1a(a0:jBa)(r:zoa)(hr:vIa a0=some r):Run prog 99 [.agg (zN0 a0)] (.agg [.i r.Code,.i r.Index]):=by
 unfold vIa at hr;refine rfx (fn:=Tryz.f99) func99 fun g0 hg=>?_
 refine rn tk 6 rfl<|jb hr (fun j1=>[(2,.ptr 2 0),(3,.bo j1)]) (fun j1=>[(2,.cells [.i 0,.i 0])]) (fun j1 hr=>?_) (fun j1 hr=>?_)
 .obtain ⟨v2,h3,hr⟩:=zaa hr;refine v3a v2 (fun c4=>?_) (fun c4=>?_)
  .replace hr:=VMa c4 hr
   obtain ⟨v5,h6,hr⟩:=zaa hr;refine v3a v5 (fun c7=>?_) (fun c7=>?_)
   .replace hr:=VMa c7 hr
    obtain ⟨v8,h9,hr⟩:=zaa hr;refine dr 18 [(21,.i v8),(20,.i ((min ((max a0.Month 1)) 12))),(19,.i ((max a0.Month 1))),(18,.i a0.Month),(17,.ptr 1 1),(16,.i a0.Year),(15,.ptr 1 0),(14,.i a0.Day),(13,.ptr 1 2),(12,.bo v5),(11,.bo v5),(10,.bo v5),(9,.i a0.Month),(8,.ptr 1 1),(7,.bo v2),(6,.bo v2),(5,.i a0.Year),(4,.ptr 1 0)] mixed (by kernel_rfl) rfl rfl (pq tk rfl (.plain rfl) (pq tk rfl (.plain rfl) (.run (.plain rfl) (zWa (zQa a0.Year 1 4000 v2 h3) rfl) (pq tk rfl (.plain rfl) (pq tk rfl (.yes (d:=7) rfl rfl rfl c4) (pq tk rfl (.yes (d:=7) rfl rfl rfl c4) (.run (.yes (d:=7) rfl rfl rfl c4) (zWa (zQa a0.Month 1 12 v5 h6) rfl) (.run (.plain rfl) (qxa (Zna rfl c4)) (pq tk rfl (.plain rfl) (pq tk rfl (.yes (d:=12) rfl rfl rfl c7) (pq tk rfl (.yes (d:=12) rfl rfl rfl c7) (pq tk rfl (.yes (d:=12) rfl rfl rfl c7) (pq tk rfl (.yes (d:=12) rfl rfl rfl c7) (pq tk rfl (.yes (d:=12) rfl rfl rfl c7) (pq tk rfl (.yes (d:=12) rfl rfl rfl c7) (.run (.yes (d:=12) rfl rfl rfl c7) (qxa (vmb rfl rfl)) (.run (.yes (d:=12) rfl rfl rfl c7) (qxa (ev_min rfl rfl)) (.run (.yes (d:=12) rfl rfl rfl c7) (zWa (Zfa a0.Year ((min ((max a0.Month 1)) 12)) v8 h9) rfl) .nil)))))))))))))))))) rfl<|kn 12 c7 rfl ?_;obtain ⟨v10,h11,hr⟩:=zaa hr;refine ug rfl rfl rfl<|cl (zQa _ _ _ _ h11) rfl rfl ?_;refine bx 2 24 hr (fun c12 hr=>?_) fun c12 hr=>?_
    .refine rn tk 2 rfl ?_;obtain ⟨v13,h14,hr⟩:=zaa hr;refine ug rfl rfl rfl<|cl (zQa _ _ _ _ h14) rfl rfl ?_;refine bx 2 29 hr (fun c15 hr=>?_) fun c15 hr=>?_
     .refine rn tk 2 rfl ?_;obtain ⟨v16,h17,hr⟩:=zaa hr;refine ug rfl rfl rfl<|cl (zQa _ _ _ _ h17) rfl rfl ?_;refine bx 2 34 hr (fun c18 hr=>?_) fun c18 hr=>?_
      .refine rn tk 2 rfl ?_;obtain ⟨v19,h20,hr⟩:=zaa hr;refine ug rfl rfl rfl<|cl (zQa _ _ _ _ h20) rfl rfl ?_;refine bx 2 39 hr (fun c21 hr=>?_) fun c21 hr=>?_
       .refine rn tk 2 rfl ?_;obtain ⟨v22,h23,hr⟩:=zaa hr;refine ug rfl rfl rfl<|cl (zQa _ _ _ _ h23) rfl rfl ?_;exact jx 3 hr
       exact jx 6 hr
      exact jx 11 hr
     exact jx 16 hr
    exact jx 21 hr
   replace hr:=VNa c7 hr
   refine dr 18 [(21,.tup []),(20,.tup []),(19,.tup []),(18,.tup []),(17,.tup []),(16,.tup []),(15,.tup []),(14,.tup []),(13,.tup []),(12,.bo v5),(11,.bo v5),(10,.bo v5),(9,.i a0.Month),(8,.ptr 1 1),(7,.bo v2),(6,.bo v2),(5,.i a0.Year),(4,.ptr 1 0)] mixed (by kernel_rfl) rfl rfl (pq tk rfl (.plain rfl) (pq tk rfl (.plain rfl) (.run (.plain rfl) (zWa (zQa a0.Year 1 4000 v2 h3) rfl) (pq tk rfl (.plain rfl) (pq tk rfl (.yes (d:=7) rfl rfl rfl c4) (pq tk rfl (.yes (d:=7) rfl rfl rfl c4) (.run (.yes (d:=7) rfl rfl rfl c4) (zWa (zQa a0.Month 1 12 v5 h6) rfl) (.run (.plain rfl) (qxa (Zna rfl c4)) (pq tk rfl (.plain rfl) (.skip (.no (d:=12) rfl rfl rfl c7) (.skip (.no (d:=12) rfl rfl rfl c7) (.skip (.no (d:=12) rfl rfl rfl c7) (.skip (.no (d:=12) rfl rfl rfl c7) (.skip (.no (d:=12) rfl rfl rfl c7) (.skip (.no (d:=12) rfl rfl rfl c7) (.skip (.no (d:=12) rfl rfl rfl c7) (.skip (.no (d:=12) rfl rfl rfl c7) (.skip (.no (d:=12) rfl rfl rfl c7) .nil)))))))))))))))))) rfl<|kn 12 c7 rfl ?_;exact jx 24 hr
  replace hr:=VNa c4 hr
  refine dr 18 [(21,.tup []),(20,.tup []),(19,.tup []),(18,.tup []),(17,.tup []),(16,.tup []),(15,.tup []),(14,.tup []),(13,.tup []),(12,.bo false),(11,.bo false),(10,.tup []),(9,.tup []),(8,.tup []),(7,.bo v2),(6,.bo v2),(5,.i a0.Year),(4,.ptr 1 0)] mixed (by kernel_rfl) rfl rfl (pq tk rfl (.plain rfl) (pq tk rfl (.plain rfl) (.run (.plain rfl) (zWa (zQa a0.Year 1 4000 v2 h3) rfl) (pq tk rfl (.plain rfl) (.skip (.no (d:=7) rfl rfl rfl c4) (.skip (.no (d:=7) rfl rfl rfl c4) (.skip (.no (d:=7) rfl rfl rfl c4) (.run (.plain rfl) (qxa (Qla rfl c4)) (pq tk rfl (.plain rfl) (.skip (.no (d:=12) rfl rfl rfl rfl) (.skip (.no (d:=12) rfl rfl rfl rfl) (.skip (.no (d:=12) rfl rfl rfl rfl) (.skip (.no (d:=12) rfl rfl rfl rfl) (.skip (.no (d:=12) rfl rfl rfl rfl) (.skip (.no (d:=12) rfl rfl rfl rfl) (.skip (.no (d:=12) rfl rfl rfl rfl) (.skip (.no (d:=12) rfl rfl rfl rfl) (.skip (.no (d:=12) rfl rfl rfl rfl) .nil)))))))))))))))))) rfl ?_;exact jx 24 hr
 refine ax 7 45 hr (fun hr=>?_) fun hr=>?_
 .refine clx 2 hr (zga _ _) fun v25 _ hr=>?_
  exact kx 5 hr
 refine clx 4 hr zla fun v27 _ hr=>?_
 exact kx 4 hr
theorem VBa(a0:jBa)(r:Int × zoa)(hr:woa a0=some r):Run prog 64 [.agg (zN0 a0)] (.tup [.i r.1,.agg [.i r.2.Code,.i r.2.Index]]):=by
 unfold woa at hr;refine rfx (fn:=f64) func64 fun g0 hg=>?_
 refine clx 11 hr (Q1a _) fun v1 _ hr=>?_
 refine clx 7 hr (zha _) fun v3 _ hr=>?_
 refine ax 2 10 hr (fun hr=>?_) fun hr=>?_
 .refine rn tk 1 rfl<|dr 2 [(2,.i 0),(11,.agg [.i v1.Code,.i v1.Index])] mixed (by kernel_rfl) rfl rfl (pq tk rfl (.plain rfl) (pq tk rfl (.plain rfl) .nil)) rfl ?_;exact kx 5 hr
 refine clx 10 hr (vza _ _ _) fun v6 _ hr=>?_
 refine clx 1 hr (Z1a _ _) fun v8 _ hr=>?_
 refine clx 10 hr zla fun v10 _ hr=>?_
 exact kx 5 hr
theorem Wba(r:Str × Str × Str × Str × Str × Str × Str × Str × Str × Str × Str × Str)(hr:yda=some r):Run prog 68 [] (.agg [.s r.1,.s r.2.1,.s r.2.2.1,.s r.2.2.2.1,.s r.2.2.2.2.1,.s r.2.2.2.2.2.1,.s r.2.2.2.2.2.2.1,.s r.2.2.2.2.2.2.2.1,.s r.2.2.2.2.2.2.2.2.1,.s r.2.2.2.2.2.2.2.2.2.1,.s r.2.2.2.2.2.2.2.2.2.2.1,.s r.2.2.2.2.2.2.2.2.2.2.2]):=by
 unfold yda at hr;refine rfx (fn:=f68) func68 fun g0 hg=>?_
 refine rn tk 7 rfl<|wq (WMa (cs:=[.s (([74,97,110]:Str)),.s (([70,101,98]:Str)),.s (([77,97,114]:Str)),.s (([65,112,114]:Str)),.s (([77,97,121]:Str)),.s (([74,117,110]:Str)),.s (([74,117,108]:Str)),.s (([65,117,103]:Str)),.s (([83,101,112]:Str)),.s (([79,99,116]:Str)),.s (([78,111,118]:Str)),.s (([68,101,99]:Str))]) jXa zJa (.inr ⟨rfl,rfl⟩) (by kernel_rfl)) rfl rfl rfl ?_;exact kx 4 hr
theorem wFb{g:G}{w' :World}(h:Below g.w.heap.size g.w w'):Old (fun _=>False) g ⟨w',g.u,g.loc⟩:=
 ⟨h.os,h.tape,h.output,⟨h.size,fun _ _=>jAq _,fun k i hk _=>by simp only[World.cell?];rw[h.block k hk],fun r hr=>(h.block r (zNa hr)).trans hr⟩,fun k hk _=>⟨h.block k hk,rfl⟩⟩
theorem str_argP{g:G}{s:Str}{v:Value}(h:Rel g (.s s) v):v=.string (strB s):=z6a h
theorem Q2a(s:Str)(n:Int)(r:Str)(hr:qma s n=some r):Run prog 100 [.s s,.i n] (.s r):=by
 unfold qma at hr;split at hr
 case isFalse=>cases hr
 rename_i hlen;cases hr;refine ⟨⟨_,_,⟨func100,rfl,by kernel_rfl⟩⟩,fun g vs hw hg ha=>?_⟩;obtain ⟨hsz,hrel⟩:=ha;obtain ⟨vl⟩:=vs
 match vl,hsz with
 | [x,y],_=>
  obtain rfl:=str_argP (hrel 0 _ rfl);have e2:y=.int .i64 n:=z6a (hrel 1 _ rfl);subst e2;have e3:((n.toNat:Nat):Int)=n:=by omega
  have h:=Tryz.strings_Repeat (strB s) n.toNat g.w (by omega) (by rw[zDa];exact hlen.2.2);rw[e3]at h;refine callsIn_wide.2 (h.mono ?_);rintro e w' ⟨rfl,hb⟩;exact ⟨⟨w',g.u,g.loc⟩,_,rfl,rfl,wFb hb,fun k hk=>hw k (jBg hb.size hk),rfl,.pv (.b rfl)⟩
theorem qXa(a0:Int)(a1:Int)(r:Str)(hr:k1a a0 a1=some r):Run prog 65 [.i a0,.i a1] (.s r):=by
 unfold k1a at hr;refine rfx (fn:=f65) func65 fun g0 hg=>?_
 refine clx 8 hr (q4a _) fun v1 _ hr=>?_
 refine rn tk 9 rfl<|wq (vmb rfl rfl) rfl rfl rfl ?_;refine clx 0 hr (Q2a _ _) fun v3 _ hr=>?_
 refine rn tk 1 rfl ?_;obtain ⟨v5,h6,hr⟩:=zaa hr;refine wc h6 rfl rfl rfl ?_;exact kx 4 hr
theorem Q3a(r:Str × Str × Str × Str × Str × Str × Str)(hr:vJa=some r):Run prog 67 [] (.agg [.s r.1,.s r.2.1,.s r.2.2.1,.s r.2.2.2.1,.s r.2.2.2.2.1,.s r.2.2.2.2.2.1,.s r.2.2.2.2.2.2]):=by
 unfold vJa at hr;refine rfx (fn:=f67) func67 fun g0 hg=>?_
 refine rn tk 7 rfl<|wq (WMa (cs:=[.s (([83,117,110]:Str)),.s (([77,111,110]:Str)),.s (([84,117,101]:Str)),.s (([87,101,100]:Str)),.s (([84,104,117]:Str)),.s (([70,114,105]:Str)),.s (([83,97,116]:Str))]) ZCa zJa (.inr ⟨rfl,rfl⟩) (by kernel_rfl)) rfl rfl rfl ?_;exact kx 4 hr
theorem Z3a(a0:jBa)(r:Str × zoa)(hr:vma a0=some r):Run prog 32 [.agg (zN0 a0)] (.tup [.s r.1,.agg [.i r.2.Code,.i r.2.Index]]):=by
 unfold vma at hr;refine rfx (fn:=f32) func32 fun g0 hg=>?_
 refine clx 10 hr (VBa _) fun v1 _ hr=>?_
 refine clx 12 hr (zha _) fun v3 _ hr=>?_
 refine ax 2 15 hr (fun hr=>?_) fun hr=>?_
 .refine rn tk 1 rfl<|dr 2 [(2,.s (([]:Str))),(16,.agg [.i v1.2.Code,.i v1.2.Index])] mixed (by kernel_rfl) rfl rfl (pq tk rfl (.plain rfl) (pq tk rfl (.plain rfl) .nil)) rfl ?_;exact kx 5 hr
 refine rn tk 3 rfl<|dr 3 [(6,.s (([43]:Str))),(18,.i a0.Zone),(17,.ptr 1 6)] mixed (by kernel_rfl) rfl rfl (pq tk rfl (.plain rfl) (pq tk rfl (.plain rfl) (pq tk rfl (.plain rfl) .nil))) rfl<|rn tk 3 rfl<|jb hr (fun j6=>[(1,.ptr 1 0),(3,.ptr 3 0),(4,.i v1.1),(6,.s j6.1),(7,.i j6.2)]) (fun j6=>[(3,.cells [.i 0,.i 0]),(1,.cells (zN0 a0))]) (fun j6 hr=>?_) (fun j6 hr=>?_)
 .refine ax 7 21 hr (fun hr=>?_) fun hr=>?_
  .refine dr 4 [(6,.s (([45]:Str))),(24,.i ((w64 (0 - a0.Zone)))),(23,.i a0.Zone),(22,.ptr 1 6)] mixed (by kernel_rfl) rfl rfl (pq tk rfl (.plain rfl) (pq tk rfl (.plain rfl) (.run (.plain rfl) (qxa (ev_ineg rfl)) (pq tk rfl (.plain rfl) .nil)))) rfl ?_;exact jx 2 hr
  exact jx 1 hr
 refine rn tk 4 rfl<|wq (Zra rfl rfl rfl) rfl rfl rfl ?_;refine clx 0 hr (qXa _ _) fun v8 _ hr=>?_
 refine rn tk 1 rfl<|wq (Zsa rfl rfl rfl) rfl rfl rfl ?_;refine clx 0 hr (qXa _ _) fun v10 _ hr=>?_
 obtain ⟨v12,h13,hr⟩:=zaa hr;refine wc h13 rfl rfl rfl ?_;obtain ⟨v14,h15,hr⟩:=zaa hr;refine wc h15 rfl rfl rfl<|rn tk 4 rfl ?_;obtain ⟨v16,h17,hr⟩:=zaa hr;obtain ⟨v18,h19,hr⟩:=zaa hr;obtain ⟨v20,h21,hr⟩:=zaa hr;obtain ⟨v22,h23,hr⟩:=zaa hr;obtain ⟨v24,h25,hr⟩:=zaa hr;obtain ⟨v26,h27,hr⟩:=zaa hr;refine dr 12 [(45,.s v26),(44,.i a0.Second),(43,.ptr 1 5),(42,.s v24),(41,.s v22),(40,.s v20),(39,.i a0.Minute),(38,.ptr 1 4),(37,.s v18),(36,.s v16),(35,.i a0.Hour),(34,.ptr 1 3)] mixed (by kernel_rfl) rfl rfl (pq tk rfl (.plain rfl) (pq tk rfl (.plain rfl) (.run (.plain rfl) (zWa (qXa a0.Hour 2 v16 h17) rfl) (.run (.plain rfl) (qxa (zvb rfl rfl h19)) (pq tk rfl (.plain rfl) (pq tk rfl (.plain rfl) (.run (.plain rfl) (zWa (qXa a0.Minute 2 v20 h21) rfl) (.run (.plain rfl) (qxa (zvb rfl rfl h23)) (.run (.plain rfl) (qxa (zvb rfl rfl h25)) (pq tk rfl (.plain rfl) (pq tk rfl (.plain rfl) (.run (.plain rfl) (zWa (qXa a0.Second 2 v26 h27) rfl) .nil)))))))))))) rfl ?_;obtain ⟨v28,h29,hr⟩:=zaa hr;refine wc h29 rfl rfl rfl<|rn tk 4 rfl ?_;obtain ⟨v30,h31,hr⟩:=zaa hr;obtain ⟨v32,h33,hr⟩:=zaa hr;obtain ⟨v34,h35,hr⟩:=zaa hr;obtain ⟨v36,h37,hr⟩:=zaa hr;obtain ⟨v38,h39,hr⟩:=zaa hr;obtain ⟨v40,h41,hr⟩:=zaa hr;obtain ⟨v42,h43,hr⟩:=zaa hr;refine dr 17 [(63,.s v14),(62,.s v28),(61,.s v42),(60,.i a0.Year),(59,.ptr 1 0),(58,.s v40),(57,.i ((w64 (a0.Month - 1)))),(56,.i a0.Month),(55,.ptr 1 1),(54,.agg [.s v38.1,.s v38.2.1,.s v38.2.2.1,.s v38.2.2.2.1,.s v38.2.2.2.2.1,.s v38.2.2.2.2.2.1,.s v38.2.2.2.2.2.2.1,.s v38.2.2.2.2.2.2.2.1,.s v38.2.2.2.2.2.2.2.2.1,.s v38.2.2.2.2.2.2.2.2.2.1,.s v38.2.2.2.2.2.2.2.2.2.2.1,.s v38.2.2.2.2.2.2.2.2.2.2.2]),(53,.s v36),(52,.i a0.Day),(51,.ptr 1 2),(50,.s v34),(49,.s v32),(48,.i v1.1),(47,.agg [.s v30.1,.s v30.2.1,.s v30.2.2.1,.s v30.2.2.2.1,.s v30.2.2.2.2.1,.s v30.2.2.2.2.2.1,.s v30.2.2.2.2.2.2])] mixed (by kernel_rfl) rfl rfl (.run (.plain rfl) (zWa (Q3a v30 h31) rfl) (pq tk rfl (.plain rfl) (.run (.plain rfl) (qxa (qsb (f:=cS) (L:=([v30.1,v30.2.1,v30.2.2.1,v30.2.2.2.1,v30.2.2.2.2.1,v30.2.2.2.2.2.1,v30.2.2.2.2.2.2]:List Str)) rfl rfl ZCa zJa rfl rfl (fun _=>rfl) h33 rfl)) (.run (.plain rfl) (qxa (zvb rfl rfl h35)) (pq tk rfl (.plain rfl) (pq tk rfl (.plain rfl) (.run (.plain rfl) (zWa (qXa a0.Day 2 v36 h37) rfl) (.run (.plain rfl) (zWa (Wba v38 h39) rfl) (pq tk rfl (.plain rfl) (pq tk rfl (.plain rfl) (pq tk rfl (.plain rfl) (.run (.plain rfl) (qxa (qsb (f:=cS) (L:=([v38.1,v38.2.1,v38.2.2.1,v38.2.2.2.1,v38.2.2.2.2.1,v38.2.2.2.2.2.1,v38.2.2.2.2.2.2.1,v38.2.2.2.2.2.2.2.1,v38.2.2.2.2.2.2.2.2.1,v38.2.2.2.2.2.2.2.2.2.1,v38.2.2.2.2.2.2.2.2.2.2.1,v38.2.2.2.2.2.2.2.2.2.2.2]:List Str)) rfl rfl jXa zJa rfl rfl (fun _=>rfl) h41 rfl)) (pq tk rfl (.plain rfl) (pq tk rfl (.plain rfl) (.run (.plain rfl) (zWa (qXa a0.Year 4 v42 h43) rfl) (pq tk rfl (.plain rfl) (pq tk rfl (.plain rfl) .nil))))))))))))))))) rfl<|wz cS ([v34,v36,v40,v42,v28,v14]:List Str) tk rfl rfl (fun _=>rfl) rfl rfl rfl ?_;refine clx 0 hr (Waa _ _) fun v44 _ hr=>?_
 refine clx 0 hr zla fun v46 _ hr=>?_
 exact kx 5 hr
theorem yUa(s t:Str)(r:Str × Str × Bool)(hr:kZa s t=some r):Run prog 93 [.s s,.s t] (.tup [.s r.1,.s r.2.1,.bo r.2.2]):=by
 unfold kZa at hr;split at hr
 case isFalse=>cases hr
 rename_i hlen;cases hr;refine ⟨⟨_,_,⟨func93,rfl,by kernel_rfl⟩⟩,fun g vs hw hg ha=>?_⟩;obtain ⟨hsz,hrel⟩:=ha;obtain ⟨l⟩:=vs
 match l,hsz with
 | [x,y],_=>
  obtain rfl:=K9a (hrel 0 _ rfl);obtain rfl:=K9a (hrel 1 _ rfl);obtain ⟨_,_,m,hm⟩:=hg.1 (1,0) (by simp[wNb]);refine callsIn_wide.2 ((Tryz.strings_Cut (strB s) (strB t) m g.w (by rw[zDa];exact hlen) hm).mono ?_);rintro e w' ⟨rfl,q,rfl⟩;refine ⟨⟨g.w.drewN q,g.u,g.loc⟩,_,rfl,rfl,kLb g q,hw,rfl,.tup rfl fun i c hi=>?_⟩
  match i,hi with
  | 0,rfl=>exact .pv (.b rfl)
  | 1,rfl=>exact .pv (.b rfl)
  | 2,rfl=>exact .pv (.b rfl)
theorem Zga(a0:UInt8)(r:Bool)(hr:v4a a0=some r):Run prog 91 [.u8 a0] (.bo r):=by
 unfold v4a at hr;refine rfx (fn:=f91) func91 fun g0 hg=>?_
 refine jq 5 hr [] [] (fun j1=>[(2,.bo j1)]) (fun _=>[]) (fun j1 hr=>?_) (fun j1 hr=>?_)
 .refine bx 4 5 hr (fun c2 hr=>?_) fun c2 hr=>?_
  .refine bx 4 9 hr (fun c3 hr=>?_) fun c3 hr=>?_
   .exact jx 17 hr
   refine bx 3 12 hr (fun c4 hr=>?_) fun c4 hr=>?_
   .refine bx 5 17 hr (fun c5 hr=>?_) fun c5 hr=>?_
    .exact jx 9 hr
    refine bx 3 20 hr (fun c6 hr=>?_) fun c6 hr=>?_
    .exact jx 6 hr
    exact jx 6 hr
   refine bx 8 20 hr (fun c7 hr=>?_) fun c7 hr=>?_
   .exact jx 6 hr
   exact jx 6 hr
  refine bx 7 12 hr (fun c8 hr=>?_) fun c8 hr=>?_
  .refine bx 5 17 hr (fun c9 hr=>?_) fun c9 hr=>?_
   .exact jx 9 hr
   refine bx 3 20 hr (fun c10 hr=>?_) fun c10 hr=>?_
   .exact jx 6 hr
   exact jx 6 hr
  refine bx 8 20 hr (fun c11 hr=>?_) fun c11 hr=>?_
  .exact jx 6 hr
  exact jx 6 hr
 exact kx 1 hr
theorem Kva(s t:Str)(r:Bool)(hr:kMa s t=some r):Run prog 130 [.s s,.s t] (.bo r):=by
 unfold kMa at hr;split at hr
 case isFalse=>cases hr
 rename_i hlen;cases hr;refine ⟨⟨_,_,⟨func130,rfl,by kernel_rfl⟩⟩,fun g vs hw hg ha=>?_⟩;obtain ⟨hsz,hrel⟩:=ha;obtain ⟨l⟩:=vs
 match l,hsz with
 | [x,y],_=>
  obtain rfl:=K9a (hrel 0 _ rfl);obtain rfl:=K9a (hrel 1 _ rfl);obtain ⟨_,_,m,hm⟩:=hg.1 (1,0) (by simp[wNb]);refine callsIn_wide.2 ((Tryz.strings_Contains (strB s) (strB t) m g.w (by rw[zDa];exact hlen) hm).mono ?_);rintro e w' ⟨rfl,rfl⟩;exact ⟨g,_,rfl,rfl,Old.refl _ g,hw,rfl,.pv (.b rfl)⟩
theorem wba(a0:Str)(a1:Str)(r:Bool)(hr:kba a0 a1=some r):Run prog 147 [.s a0,.s a1] (.bo r):=by
 unfold kba at hr;refine rfx (fn:=f147) func147 fun g0 hg=>?_
 refine jq 5 hr [] [] (fun j1=>[(4,.bo j1)]) (fun _=>[]) (fun j1 hr=>?_) (fun j1 hr=>?_)
 .refine bx 7 10 hr (fun c2 hr=>?_) fun c2 hr=>?_
  .refine rn tk 3 rfl ?_;obtain ⟨v3,h4,hr⟩:=zaa hr;refine ug rfl rfl rfl<|wscH tk h4 rfl rfl rfl rfl ?_;exact jx 5 hr
  exact jx 9 hr
 exact kx 1 hr
theorem yja(a0:Str)(a1:Str)(r:Bool)(hr:kja a0 a1=some r):Run prog 113 [.s a0,.s a1] (.bo r):=by
 unfold kja at hr;refine rfx (fn:=f113) func113 fun g0 hg=>?_
 refine clx 9 hr (wba _ _) fun v1 _ hr=>?_
 exact kx 4 hr
theorem wca(a0:Str)(a1:Str)(r:Bool)(hr:kca a0 a1=some r):Run prog 168 [.s a0,.s a1] (.bo r):=by
 unfold kca at hr;refine rfx (fn:=f168) func168 fun g0 hg=>?_
 refine jq 5 hr [] [] (fun j1=>[(4,.bo j1)]) (fun _=>[]) (fun j1 hr=>?_) (fun j1 hr=>?_)
 .refine bx 7 10 hr (fun c2 hr=>?_) fun c2 hr=>?_
  .refine rn tk 6 rfl ?_;obtain ⟨v3,h4,hr⟩:=zaa hr;refine ug rfl rfl rfl<|wscL tk h4 rfl rfl rfl rfl ?_;exact jx 5 hr
  exact jx 12 hr
 exact kx 1 hr
theorem yka(a0:Str)(a1:Str)(r:Bool)(hr:z7a a0 a1=some r):Run prog 129 [.s a0,.s a1] (.bo r):=by
 unfold z7a at hr;refine rfx (fn:=Tryz.f129) func129 fun g0 hg=>?_
 refine clx 9 hr (wca _ _) fun v1 _ hr=>?_
 exact kx 4 hr
theorem Qaa(a0:Str)(r:Bool)(hr:vja a0=some r):Run prog 96 [.s a0] (.bo r):=by
 unfold vja at hr;refine rfx (fn:=f96) func96 fun g0 hg=>?_
 refine jq 10 hr [] [] (fun j1=>[(2,.bo j1)]) (fun _=>[]) (fun j1 hr=>?_) (fun j1 hr=>?_)
 .refine bx 4 6 hr (fun c2 hr=>?_) fun c2 hr=>?_
  .refine bx 5 11 hr (fun c3 hr=>?_) fun c3 hr=>?_
   .refine rn tk 2 rfl<|ug rfl rfl rfl ?_;refine ctq 0 hr [0,11] [] (fun j4=>[(14,.bo j4)]) (fun _=>[]) (fun j4 hr jump4=>?_) (fun j4 hr=>?_)
    .refine iq 0 400000 [0,11] (fn:=f89) ⟨func89,rfl,by kernel_rfl⟩ fun T4 ds4=>?_
     refine aq2 14 hr [0,1,7] [499999,400000,400011] (fun s5=>[(8,.i s5)]) (fun _=>[]) (.exit 0) [] [499999,400000,400011] (fun _=>[]) (fun _=>[]) .ret [4] [499999,400000,400011] (fun _=>[]) (fun _=>[]) (fun s5 x9 hr=>?_) (fun b6 hr=>?_) (fun b7 hr=>?_)
     .unfold qda at hr;refine ax 6 9 hr (fun hr=>?_) fun hr=>?_
      .refine rn tk 15 rfl ?_;obtain ⟨v11,h12,hr⟩:=zaa hr;refine ws tk h12 rfl rfl rfl rfl ?_;refine iq 0 600000 [0,1,7,8] (fn:=f128) ⟨func128,rfl,by kernel_rfl⟩ fun T6 ds6=>?_
       refine jq 5 hr [] [699999,600000,600001,600007,600008,499999,400000,400011] (fun j13=>[(2,.bo j13)]) (fun _=>[]) (fun j13 hr=>?_) (fun j13 hr=>?_)
       .refine bx 4 5 hr (fun c14 hr=>?_) fun c14 hr=>?_
        .refine bx 4 9 hr (fun c15 hr=>?_) fun c15 hr=>?_
         .exact jx 17 hr
         refine bx 3 12 hr (fun c16 hr=>?_) fun c16 hr=>?_
         .refine bx 5 17 hr (fun c17 hr=>?_) fun c17 hr=>?_
          .exact jx 9 hr
          refine bx 4 21 hr (fun c18 hr=>?_) fun c18 hr=>?_
          .exact jx 5 hr
          exact jx 5 hr
         refine bx 9 21 hr (fun c19 hr=>?_) fun c19 hr=>?_
         .exact jx 5 hr
         exact jx 5 hr
        refine bx 7 12 hr (fun c20 hr=>?_) fun c20 hr=>?_
        .refine bx 5 17 hr (fun c21 hr=>?_) fun c21 hr=>?_
         .exact jx 9 hr
         refine bx 4 21 hr (fun c22 hr=>?_) fun c22 hr=>?_
         .exact jx 5 hr
         exact jx 5 hr
        refine bx 9 21 hr (fun c23 hr=>?_) fun c23 hr=>?_
        .exact jx 5 hr
        exact jx 5 hr
       refine ieq 1 (hO ?_);refine ax 3 16 hr (fun hr=>?_) fun hr=>?_
       .exact ox 8 hr
       exact cx 7 hr
      exact ox 2 hr
     .refine ieq 8 ?_;cases hr;exact jump4 _ _ rfl rfl
     refine ieq 2 ?_;cases hr;exact jump4 _ _ rfl rfl
    refine bx 2 16 hr (fun c25 hr=>?_) fun c25 hr=>?_
    .refine rn tk 1 rfl ?_;obtain ⟨v26,h27,hr⟩:=zaa hr;refine ug rfl rfl rfl<|cl (yja _ _ _ h27) rfl rfl ?_;refine bx 3 21 hr (fun c28 hr=>?_) fun c28 hr=>?_
     .refine rn tk 1 rfl ?_;obtain ⟨v29,h30,hr⟩:=zaa hr;refine ug rfl rfl rfl<|cl (yka _ _ _ h30) rfl rfl ?_;refine bx 3 26 hr (fun c31 hr=>?_) fun c31 hr=>?_
      .refine rn tk 1 rfl ?_;obtain ⟨v32,h33,hr⟩:=zaa hr;refine ug rfl rfl rfl<|cl (Kva _ _ _ h33) rfl rfl ?_;exact jx 4 hr
      exact jx 6 hr
     exact jx 11 hr
    exact jx 16 hr
   exact jx 21 hr
  exact jx 26 hr
 exact kx 1 hr
theorem Q4a(a0:Str)(r:Str × Str × Bool)(hr:vHa a0=some r):Run prog 59 [.s a0] (.tup [.s r.1,.s r.2.1,.bo r.2.2]):=by
 unfold vHa at hr;refine rfx (fn:=f59) func59 fun g0 hg=>?_
 refine clx 10 hr (yUa _ _) fun v1 _ hr=>?_
 refine jq 14 hr [2,3] [] (fun j3=>[(4,.bo j3)]) (fun _=>[]) (fun j3 hr=>?_) (fun j3 hr=>?_)
 .refine bx 5 15 hr (fun c4 hr=>?_) fun c4 hr=>?_
  .refine bx 4 19 hr (fun c5 hr=>?_) fun c5 hr=>?_
   .refine bx 5 24 hr (fun c6 hr=>?_) fun c6 hr=>?_
    .refine rn tk 2 rfl<|ug rfl rfl rfl ?_;refine ctq 0 hr [3,12,13,24] [] (fun j7=>[(27,.bo j7)]) (fun _=>[]) (fun j7 hr jump4=>?_) (fun j7 hr=>?_)
     .refine iq 0 400000 [3,12,13,24] (fn:=f89) ⟨func89,rfl,by kernel_rfl⟩ fun T4 ds4=>?_
      refine aq2 14 hr [0,1,7] [499999,400003,400012,400013,400024] (fun s8=>[(8,.i s8)]) (fun _=>[]) (.exit 0) [] [499999,400003,400012,400013,400024] (fun _=>[]) (fun _=>[]) .ret [4] [499999,400003,400012,400013,400024] (fun _=>[]) (fun _=>[]) (fun s8 x12 hr=>?_) (fun b9 hr=>?_) (fun b10 hr=>?_)
      .unfold qza at hr;refine ax 6 9 hr (fun hr=>?_) fun hr=>?_
       .refine rn tk 15 rfl ?_;obtain ⟨v14,h15,hr⟩:=zaa hr;refine ws tk h15 rfl rfl rfl rfl ?_;refine iq 0 600000 [0,1,7,8] (fn:=f94) ⟨func94,rfl,by kernel_rfl⟩ fun T6 ds6=>?_
        refine jq 5 hr [] [699999,600000,600001,600007,600008,499999,400003,400012,400013,400024] (fun j16=>[(2,.bo j16)]) (fun _=>[]) (fun j16 hr=>?_) (fun j16 hr=>?_)
        .refine clx 2 hr (Zga _) fun v17 _ hr=>?_
         refine bx 1 5 hr (fun c19 hr=>?_) fun c19 hr=>?_
         .exact jx 6 hr
         refine rn tk 1 rfl ?_;obtain ⟨v20,h21,hr⟩:=zaa hr;refine ug rfl rfl rfl<|cl (z5a _ _ _ h21) rfl rfl ?_;exact jx 4 hr
        refine ieq 1 (hO ?_);refine ax 3 16 hr (fun hr=>?_) fun hr=>?_
        .exact ox 8 hr
        exact cx 7 hr
       exact ox 2 hr
      .refine ieq 8 ?_;cases hr;exact jump4 _ _ rfl rfl
      refine ieq 2 ?_;cases hr;exact jump4 _ _ rfl rfl
     refine bx 2 29 hr (fun c23 hr=>?_) fun c23 hr=>?_
     .refine rn tk 1 rfl ?_;obtain ⟨v24,h25,hr⟩:=zaa hr;refine ug rfl rfl rfl<|cl (Qaa _ _ h25) rfl rfl ?_;exact jx 5 hr
     exact jx 7 hr
    exact jx 12 hr
   exact jx 17 hr
  exact jx 21 hr
 exact kx 1 hr
theorem Kwa(a0:Str)(r:Bool)(hr:q0a a0=some r):Run prog 27 [.s a0] (.bo r):=by
 unfold q0a at hr;refine rfx (fn:=f27) func27 fun g0 hg=>?_
 refine clx 8 hr (Q4a _) fun v1 _ hr=>?_
 exact kx 16 hr
section
def PV.flat:PV->Bool
 | .b _=>true
 | _=>false
def AV.flat1:AV->Bool
 | .pv p=>p.flat
 | .hs _ _=>true
 | _=>false
def AV.flat2:AV->Bool
 | .agg l=>l.all AV.flat1
 | c=>c.flat1
def AV.flat:AV->Bool
 | .tup l=>l.all AV.flat2
 | c=>c.flat2
section
variable {g g' :G} {c:AV} {v:Value}
theorem kNb{w:World}{u u' :Nat->Nat}{p:PV}{v:Value}(hp:p.flat=true)(h:RelP w u p v):RelP w u' p v:=by
 cases h with
 | b hv=>exact .b hv
 | sl=>cases hp
theorem kOb(hw:g'.w=g.w)(hl:g'.loc=g.loc)(hc:c.flat1=true)(h:Rel g c v):Rel g' c v:=by
 cases h with
 | pv h=>exact .pv (by rw[hw];exact kNb hc h)
 | hsNil a h=>exact .hsNil a (by rw[hl];exact h)
 | hs h ha=>exact .hs (by rw[hl];exact h) ha
 | _=>cases hc
theorem kPb(hw:g'.w=g.w)(hl:g'.loc=g.loc)(hc:c.flat2=true)(h:Rel g c v):Rel g' c v:=by
 unfold AV.flat2 at hc;split at hc
 .cases h with
  | agg h1 h2 h3=>exact .agg h1 h2 fun i c hi=>kOb hw hl (jAp.1 hc c (jAf hi)) (h3 i c hi)
 exact kOb hw hl hc h
theorem rel_flat(hw:g'.w=g.w)(hl:g'.loc=g.loc)(hc:c.flat=true)(h:Rel g c v):Rel g' c v:=by
 unfold AV.flat at hc;split at hc
 .cases h with
  | tup h1 h3=>exact .tup h1 fun i c hi=>kPb hw hl (jAp.1 hc c (jAf hi)) (h3 i c hi)
 exact kPb hw hl hc h
end
theorem runS_mu0{P:Program}{f:FuncId}{args:List AV}{r:AV}{e:TypeId}{size R O:Nat}{rows:List Nat}{E:List (List PV)}(h:RunS P f args [] r [(R,.row e false size E)] O rows)(hr:r.flat=true)
 (hF:∀x∈E,∀c∈x,c.flat=true):RunS P f args [] r [(R,.row e true size E)] O rows:=by
 have hget:∀{mu:Bool} {E:List (List PV)} {o:Nat} {ob:AO},Sto.get [(R,.row e mu size E)] o=some ob->o=R/\ob=.row e mu size E:=by
  intro mu E o ob ho;have:=jDg.1 (Sto.get_mem ho);cases this;exact ⟨rfl,rfl⟩
 have hself:∀{mu:Bool},Sto.get [(R,.row e mu size E)] R=some (.row e mu size E):=by intro mu;simp[Sto.get]
 refine ⟨h.ok,h.ok0,h.ok1,fun g vs hw hg ho ha=>(h.run g vs hw hg ho ha).mono ?_⟩;rintro e' w' ⟨g',v,rfl,hl,hold,hwf,rfl,hrel,hobj, -,hmine⟩;have hR:=hobj R _ hself;cases hR with
 | nil hn=>
  refine ⟨g',v,rfl,hl,hold,hwf,rfl,hrel,fun o ob ho=>?_,fun o o' ob ob' b h1 h2 _ _=>(hget h1).1.trans (hget h2).1.symm,fun o ob b h1 h2=>?_⟩
  .obtain ⟨rfl,rfl⟩:=hget ho;exact .nil hn
  obtain ⟨rfl,rfl⟩:=hget h1;exact hmine _ _ b hself h2
 | @row _ _ _ _ b off cap vs h1 h2 h3 h4 h5 h6 h7 h8 h9=>
  have hb:g.w.heap.size<=b:=by
   rcases hmine R _ b hself (by show (g'.loc R).block=some b;rw[h1];rfl) with hb | ⟨o,ob,hx,_⟩
   .exact hb
   cases hx
  refine ⟨⟨g'.w,fun k=>if k=b then 0 else g'.u k,g'.loc⟩,v,rfl,hl,⟨hold.os,hold.tape,hold.output,⟨hold.ext.size,fun k hk=>?_,hold.ext.cell,hold.ext.df⟩,fun k hk hs=>?_⟩,fun k hk=>?_,rfl,rel_flat (g:=g') rfl rfl hr hrel,fun o ob ho=>?_,fun o o' ob ob' b h1 h2 _ _=>(hget h1).1.trans (hget h2).1.symm,fun o ob b h1 h2=>?_⟩
  .show g.u k<=if k=b then 0 else g'.u k;rw[if_neg (by omega)];exact hold.ext.pub k hk
  .show _/\(if k=b then 0 else g'.u k)=_;rw[if_neg (by omega)];exact hold.block k hk hs
  .show (if k=b then 0 else g'.u k)=0;split
   .rfl
   exact hwf k hk
  .obtain ⟨rfl,rfl⟩:=hget ho;refine .row h1 h2 h3 h4 h5 h6 (by show (if b=b then 0 else _)<=_;rw[if_pos rfl];exact jBz _) (fun _=>by show (if b=b then 0 else _)=0;rw[if_pos rfl]) fun i j x c hi hj=>kNb (hF x (jAf hi) c (jAf hj)) (h9 i j x c hi hj)
  obtain ⟨rfl,rfl⟩:=hget h1;exact hmine _ _ b hself h2
theorem runS_mu{α:Type}{F:α->List PV}{P:Program}{f:FuncId}{args:List AV}{r:AV}{e:TypeId}{size R O:Nat}{rows:List Nat}{l:List α}(h:RunS P f args [] r [(R,.row e false size (l.map F))] O rows)(hr:r.flat=true)
 (hF:∀x,(F x).all PV.flat=true:=by exact fun _=>rfl):RunS P f args [] r [(R,.row e true size (l.map F))] O rows:=
 runS_mu0 h hr fun x hx c hc=>by
  obtain ⟨y,_,rfl⟩:=jBl.1 hx;exact jAp.1 (hF y) c hc
theorem VCa{P:Program}{ρ:Operand->AV}{σ:Sto}{x:Operand}{nl:Option Bool}{t e ty:TypeId}{dst:Option Tmp}{pos:String}{af:Array Edge}{gu:Option (Nat × Bool)}(hx:ρ x=.pv (.sl nl []))(ht:P.underlying t=some (.slice e)):EvQ P ⟨dst,.call ⟨.builtin .len, #[x], #[t]⟩,ty,pos,af,gu⟩ ρ σ (.i 0):=
 wZb (f:=fun _:Unit=>[]) (l:=[]) hx ht
theorem St.dropc{E:Env}{fr:Fr}{σ:Sto}{g:G}{a:Act}(o:Nat)(h:St E g a fr σ):St E g a (fr.clrs [o]) ((σ.clrs [o]).dels [o]):=by
 have hget:∀o' ob,((σ.clrs [o]).dels [o]).get o' =some ob->o' ∉ [o]/\∃ob1,σ.get o' =some ob1/\ob=ob1.clrs [o]:=by
  intro o' ob ho;rw[Sto.get_dels]at ho;split at ho
  .cases ho
  rename_i hn;rw[Sto.get_clrs,jAh]at ho;obtain ⟨ob1,h1,rfl⟩:=ho;exact ⟨hn,ob1,h1,rfl⟩
 refine ⟨fun d=>?_,h.n,h.df,⟨fun o' ob ho=>?_,fun o1 o2 ob1 ob2 b h1 h2 h3 h4=>?_,fun o' ob b h1 h2=>?_,h.so.old,h.so.wf⟩⟩
 .rw[Fr.get_clrs];exact Wta (Ext.refl _ _) (fun _ _=>rfl) (h.fr d)
 .obtain ⟨hn,ob1,h1,rfl⟩:=hget o' ob ho;exact zTb (h.so.obj o' ob1 h1) (Ext.refl _ _) (fun _ _=>rfl) hn fun _ _=>⟨rfl,rfl⟩
 .obtain ⟨_,p1,q1,rfl⟩:=hget o1 ob1 h1;obtain ⟨_,p2,q2,rfl⟩:=hget o2 ob2 h2;rw[AO.own_clrs]at h3 h4;exact h.so.apart o1 o2 p1 p2 b q1 q2 h3 h4
 obtain ⟨_,p1,q1,rfl⟩:=hget o' ob h1;rw[AO.own_clrs]at h2;exact h.so.mine o' p1 b q1 h2
theorem kQb{E:Env}{fr:Fr}{σ:Sto}{K:Post}{c:Code}(o:Nat)(h:AWP E c (fr.clrs [o]) ((σ.clrs [o]).dels [o]) K):AWP E c fr σ K:=⟨fun g a hst=>h.go g a (hst.dropc o)⟩
theorem Jha{E:Env}{fr:Fr}{σ:Sto}{K:Post}{ops:Array Oper}{ol:List Oper}(o:Nat)(h:AWPL E ops ol (fr.clrs [o]) ((σ.clrs [o]).dels [o]) K):AWPL E ops ol fr σ K:=⟨fun g a hst=>h.go g a (hst.dropc o)⟩
end
theorem Z4a(a0:Str)(r:Str)(hr:wOa a0=some r):Run prog 148 [.s a0] (.s r):=by
 unfold wOa at hr;refine rfx (fn:=f148) func148 fun g0 hg=>?_
 refine rn tk 8 rfl<|wo (v3b (k:=7) (s:=a0) 1007 rfl rfl rfl rfl zJa zva zRa) rfl<|rn tk 7 rfl<|wq (yrb (l:=a0) rfl rfl zva.u) rfl rfl rfl ?_;refine aq1 4 hr [3,8,9] [] (fun s1=>[(10,.i s1.1)]) (fun s1=>[(1007,.buf s1.2)]) (.exit 0) [3] [] (fun _=>[]) (fun b2=>[(1007,.buf b2)]) (fun s1 x3 hr=>?_) (fun b2 hr=>?_)
 .unfold qla at hr;refine ax 6 11 hr (fun hr=>?_) fun hr=>?_
  .refine jq 2 hr [3,8,9,10] [] (fun _=>[]) (fun j5=>[(1007,.buf j5)]) (fun j5 hr=>?_) (fun j5 hr=>?_)
   .refine rn tk 4 rfl ?_;obtain ⟨v6,h7,hr⟩:=zaa hr;refine wq (zGb (l:=s1.2) (n:=s1.1) rfl rfl rfl zva zRa h7) rfl rfl rfl ?_;obtain ⟨v8,h9,hr⟩:=zaa hr;refine wq (v2b (l:=s1.2) (n:=s1.1) rfl rfl zRa h9) rfl rfl rfl ?_;refine jq 4 hr [3,4,5,8,9,10] [1007] (fun j10=>[(20,.bo j10)]) (fun _=>[]) (fun j10 hr=>?_) (fun j10 hr=>?_)
    .refine bx 4 17 hr (fun c11 hr=>?_) fun c11 hr=>?_
     .exact jx 4 hr
     exact jx 4 hr
    refine ax 0 20 hr (fun hr=>?_) fun hr=>?_
    .refine rn tk 4 rfl<|wq (ev_u8add (a:=v8) (b:=(97:UInt8)) rfl rfl) rfl rfl rfl<|wq (ev_u8sub (a:=((v8+(97:UInt8)))) (b:=(65:UInt8)) rfl rfl) rfl rfl rfl ?_;obtain ⟨v13,h14,hr⟩:=zaa hr;refine wq (zGb (l:=s1.2) (n:=s1.1) rfl rfl rfl zva zRa h14) rfl rfl rfl ?_;obtain ⟨v15,h16,hr⟩:=zaa hr;refine wo (JIa (l:=s1.2) (n:=s1.1) (v:=v15) (v' :=(((v8+(97:UInt8)) - (65:UInt8)))) rfl rfl rfl zRa h16) rfl ?_;exact jx 2 hr
    exact jx 2 hr
   exact cx 4 hr
  exact ox 2 hr
 refine rn tk 5 rfl<|wq (ev_buf2s (l:=b2) rfl rfl zva zRa zJa) rfl rfl rfl ?_;exact kx 4 hr
theorem kla(a0:Str)(a1:Str)(r:Bool)(hr:kBa a0 a1=some r):Run prog 114 [.s a0,.s a1] (.bo r):=by
 unfold kBa at hr;refine rfx (fn:=f114) func114 fun g0 hg=>?_
 refine rn tk 5 rfl<|jb hr (fun j1=>[(4,.bo j1)]) (fun j1=>[]) (fun j1 hr=>?_) (fun j1 hr=>?_)
 .refine bx 7 10 hr (fun c2 hr=>?_) fun c2 hr=>?_
  .refine rn tk 1 rfl ?_;obtain ⟨v3,h4,hr⟩:=zaa hr;refine ug rfl rfl rfl<|cl (Z4a _ _ h4) rfl rfl<|rn tk 1 rfl ?_;obtain ⟨v5,h6,hr⟩:=zaa hr;refine ug rfl rfl rfl<|cl (Z4a _ _ h6) rfl rfl ?_;exact jx 4 hr
  exact jx 8 hr
 exact kx 1 hr
theorem wza(a0:Str)(r:Bool)(hr:k2a a0=some r):Run prog 150 [.s a0] (.bo r):=by
 unfold k2a at hr;refine rfx (fn:=Tryz.f150) func150 fun g0 hg=>?_
 refine jq 5 hr [] [] (fun j1=>[(2,.bo j1)]) (fun _=>[]) (fun j1 hr=>?_) (fun j1 hr=>?_)
 .refine bx 4 5 hr (fun c2 hr=>?_) fun c2 hr=>?_
  .refine bx 5 10 hr (fun c3 hr=>?_) fun c3 hr=>?_
   .refine rn tk 1 rfl<|ug rfl rfl rfl ?_;refine ctq 0 hr [10] [] (fun j4=>[(12,.bo j4)]) (fun _=>[]) (fun j4 hr jump4=>?_) (fun j4 hr=>?_)
    .refine iq 0 400000 [10] (fn:=f89) ⟨func89,rfl,by kernel_rfl⟩ fun T4 ds4=>?_
     refine aq2 14 hr [0,1,7] [499999,400010] (fun s5=>[(8,.i s5)]) (fun _=>[]) (.exit 0) [] [499999,400010] (fun _=>[]) (fun _=>[]) .ret [4] [499999,400010] (fun _=>[]) (fun _=>[]) (fun s5 x9 hr=>?_) (fun b6 hr=>?_) (fun b7 hr=>?_)
     .unfold vPa at hr;refine ax 6 9 hr (fun hr=>?_) fun hr=>?_
      .refine rn tk 15 rfl ?_;obtain ⟨v11,h12,hr⟩:=zaa hr;refine ws tk h12 rfl rfl rfl rfl ?_;refine iq 0 600000 [0,1,7,8] (fn:=f186) ⟨func186,rfl,by kernel_rfl⟩ fun T6 ds6=>?_
       refine jq 5 hr [] [699999,600000,600001,600007,600008,499999,400010] (fun j13=>[(2,.bo j13)]) (fun _=>[]) (fun j13 hr=>?_) (fun j13 hr=>?_)
       .refine bx 4 5 hr (fun c14 hr=>?_) fun c14 hr=>?_
        .refine bx 4 9 hr (fun c15 hr=>?_) fun c15 hr=>?_
         .refine rn tk 1 rfl ?_;obtain ⟨v16,h17,hr⟩:=zaa hr;refine ug rfl rfl rfl<|cl (z5a _ _ _ h17) rfl rfl ?_;exact jx 4 hr
         exact jx 6 hr
        exact jx 10 hr
       refine ieq 1 (hO ?_);refine ax 3 16 hr (fun hr=>?_) fun hr=>?_
       .exact ox 8 hr
       exact cx 7 hr
      exact ox 2 hr
     .refine ieq 8 ?_;cases hr;exact jump4 _ _ rfl rfl
     refine ieq 2 ?_;cases hr;exact jump4 _ _ rfl rfl
    exact jx 3 hr
   exact jx 5 hr
  exact jx 10 hr
 exact kx 1 hr
theorem yCa(a0:Str)(r:Bool)(hr:kJa a0=some r):Run prog 153 [.s a0] (.bo r):=by
 unfold kJa at hr;refine rfx (fn:=Tryz.f153) func153 fun g0 hg=>?_
 refine aq1 7 hr [] [] (fun s1=>[(0,.s s1)]) (fun _=>[]) (.exit 0) [] [] (fun _=>[]) (fun _=>[]) (fun s1 x3 hr=>?_) (fun b2 hr=>?_)
 .unfold z2a at hr;refine ax 8 9 hr (fun hr=>?_) fun hr=>?_
  .refine rn tk 6 rfl ?_;obtain ⟨v5,h6,hr⟩:=zaa hr;refine ws tk h6 rfl rfl rfl rfl ?_;refine ax 10 13 hr (fun hr=>?_) fun hr=>?_
   .refine rn tk 3 rfl ?_;obtain ⟨v8,h9,hr⟩:=zaa hr;refine wscL tk h9 rfl rfl rfl rfl ?_;refine bx 10 19 hr (fun c10 hr=>?_) fun c10 hr=>?_
    .refine rn tk 1 rfl ?_;cases hr
    exact cx 13 hr
   refine rn tk 5 rfl ?_;cases hr
  exact ox 2 hr
 exact kx 8 hr
theorem wAa(a0:kEa)(r:zoa)(hr:qoa a0=some r):Run prog 116 [.agg [.s a0.Type_,.s a0.Sub,.l zna.pc a0.Params]] (.agg [.i r.Code,.i r.Index]):=by
 unfold qoa at hr;refine rfx (fn:=f116) func116 fun g0 hg=>?_
 refine jq 7 hr [1,2] [2,1] (fun j1=>[(14,.bo j1)]) (fun _=>[]) (fun j1 hr=>?_) (fun j1 hr=>?_)
 .refine clx 3 hr (wza _) fun v2 _ hr=>?_
  refine bx 2 9 hr (fun c4 hr=>?_) fun c4 hr=>?_
  .exact jx 6 hr
  refine rn tk 2 rfl ?_;obtain ⟨v5,h6,hr⟩:=zaa hr;refine ug rfl rfl rfl<|cl (wza _ _ h6) rfl rfl ?_;exact jx 3 hr
 refine ax 0 14 hr (fun hr=>?_) fun hr=>?_
 .refine clx 2 hr (zga _ _) fun v8 _ hr=>?_
  exact kx 5 hr
 refine rn tk 7 rfl<|wn tk rfl rfl rfl ?_;refine ax 3 19 hr (fun hr=>?_) fun hr=>?_
 .refine clx 2 hr (zga _ _) fun v11 _ hr=>?_
  exact kx 5 hr
 refine rn tk 7 rfl<|wn tk rfl rfl rfl ?_;refine aq2 4 hr [1,2,22,23] [2,1] (fun s13=>[(24,.i s13)]) (fun _=>[]) (.exit 0) [2] [2] (fun _=>[]) (fun _=>[]) .ret [2] [] (fun _=>[]) (fun b15=>[(2,.cells [.i b15.Code,.i b15.Index])]) (fun s13 x17 hr=>?_) (fun b14 hr=>?_) (fun b15 hr=>?_)
 .unfold qDa at hr;refine ax 6 25 hr (fun hr=>?_) fun hr=>?_
  .refine rn tk 7 rfl ?_;obtain ⟨v19,h20,hr⟩:=zaa hr;refine wi tk h20 rfl rfl rfl rfl rfl ?_;refine jq 7 hr [1,2,3,4,22,23,24] [4,2,1] (fun j21=>[(29,.bo j21)]) (fun _=>[]) (fun j21 hr=>?_) (fun j21 hr=>?_)
   .refine clx 3 hr (wza _) fun v22 _ hr=>?_
    refine bx 2 34 hr (fun c24 hr=>?_) fun c24 hr=>?_
    .exact jx 7 hr
    exact jx 7 hr
   refine ax 0 29 hr (fun hr=>?_) fun hr=>?_
   .refine clx 3 hr (zga _ _) fun v26 _ hr=>?_
    exact ox 7 hr
   refine rn tk 5 rfl ?_;obtain ⟨v28,h29,hr⟩:=zaa hr;refine wlH tk h29 rfl rfl rfl (fun _=>rfl) rfl ?_;refine iq 1 500000 [1,2,3,4,22,23,24] (fn:=Tryz.f151) ⟨func151,rfl,by kernel_rfl⟩ fun T5 ds5=>?_
   refine ctq 9 hr [] [599999,500001,500002,500003,500004,500022,500023,500024,4,2,1] (fun j30=>[(7,.i j30)]) (fun _=>[]) (fun j30 hr jump6=>?_) (fun j30 hr=>?_)
   .refine iq 0 600000 [] (fn:=Tryz.f165) ⟨func165,rfl,by kernel_rfl⟩ fun T6 ds6=>?_
    refine rn tk 9 rfl<|wn tk rfl rfl rfl ?_;refine aq2 4 hr [0,1,7] [699999,599999,500001,500002,500003,500004,500022,500023,500024,4,2,1] (fun s31=>[(8,.i s31)]) (fun _=>[]) (.exit 0) [] [699999,599999,500001,500002,500003,500004,500022,500023,500024,4,2,1] (fun _=>[]) (fun _=>[]) .ret [] [699999,599999,500001,500002,500003,500004,500022,500023,500024,4,2,1] (fun b33=>[(4,.i b33)]) (fun _=>[]) (fun s31 x35 hr=>?_) (fun b32 hr=>?_) (fun b33 hr=>?_)
    .unfold wQa at hr;refine ax 6 9 hr (fun hr=>?_) fun hr=>?_
     .refine rn tk 15 rfl ?_;obtain ⟨v37,h38,hr⟩:=zaa hr;refine wi tk h38 rfl rfl rfl rfl rfl ?_;refine iq 1 800000 [0,1,5,7,8] (fn:=Tryz.f152) ⟨func152,rfl,by kernel_rfl⟩ fun T8 ds8=>?_
      refine rn tk 2 rfl<|wo (wea (k:=2) 1002 rfl rfl rfl rfl rfl) rfl ?_;refine clx 9 hr (kla _ _) fun v39 _ hr=>?_
      refine ieq 4 (hO ?_);refine ax 2 16 hr (fun hr=>?_) fun hr=>?_
      .exact ox 9 hr
      exact cx 7 hr
     exact ox 2 hr
    .refine ieq 8 ?_;cases hr;exact jump6 _ _ rfl rfl
    refine ieq 2 ?_;cases hr;exact jump6 _ _ rfl rfl
   refine ieq 5 (hO ?_);refine ax 3 42 hr (fun hr=>?_) fun hr=>?_
   .refine clx 3 hr (zga _ _) fun v43 _ hr=>?_
    exact ox 7 hr
   refine ax 9 51 hr (fun hr=>?_) fun hr=>?_
   .refine clx 3 hr (zga _ _) fun v46 _ hr=>?_
    exact ox 7 hr
   refine clx 4 hr (yCa _) fun v48 _ hr=>?_
   refine ax 4 58 hr (fun hr=>?_) fun hr=>?_
   .refine clx 3 hr (zga _ _) fun v51 _ hr=>?_
    exact ox 7 hr
   exact cx 8 hr
  exact ox 2 hr
 .refine clx 4 hr zla fun v53 _ hr=>?_
  exact kx 4 hr
 exact kx 2 hr
theorem Z5a(a0:kEa)(a1:Str)(r:Str × Bool × zoa)(hr:v2a a0 a1=some r):Run prog 143 [.agg [.s a0.Type_,.s a0.Sub,.l zna.pc a0.Params],.s a1] (.tup [.s r.1,.bo r.2.1,.agg [.i r.2.2.Code,.i r.2.2.Index]]):=by
 unfold v2a at hr;refine rfx (fn:=Tryz.f143) func143 fun g0 hg=>?_
 refine clx 12 hr (wAa _) fun v1 _ hr=>?_
 refine clx 7 hr (zha _) fun v3 _ hr=>?_
 refine ax 2 13 hr (fun hr=>?_) fun hr=>?_
 .refine dq 1 3 [] [] .nil .nil ?_ mixed;exact kx 5 hr
 refine rn tk 7 rfl<|wn tk rfl rfl rfl ?_;refine aq2 4 hr [1,6,16,17] [6] (fun s6=>[(18,.i s6)]) (fun _=>[]) (.exit 0) [6] [6] (fun _=>[]) (fun _=>[]) .ret [6] [] (fun b8=>[(4,.s b8.1),(5,.bo b8.2.1)]) (fun b8=>[(6,.cells [.i b8.2.2.Code,.i b8.2.2.Index])]) (fun s6 x10 hr=>?_) (fun b7 hr=>?_) (fun b8 hr=>?_)
 .unfold joa at hr;refine ax 6 19 hr (fun hr=>?_) fun hr=>?_
  .refine rn tk 6 rfl ?_;obtain ⟨v12,h13,hr⟩:=zaa hr;refine wi tk h13 rfl rfl rfl rfl rfl ?_;refine clx 10 hr (kla _ _) fun v14 _ hr=>?_
   refine ax 2 25 hr (fun hr=>?_) fun hr=>?_
   .refine rn tk 1 rfl ?_;obtain ⟨v17,h18,hr⟩:=zaa hr;refine dq 0 3 [] [(2,.agg [.i v17.Code,.i v17.Index])] .nil (.cons rfl rfl (zWa (zla v17 h18) rfl) .nil) ?_ mixed;exact ox 8 hr
   exact cx 7 hr
  exact ox 2 hr
 .refine clx 4 hr zla fun v19 _ hr=>?_
  exact kx 6 hr
 exact kx 2 hr
theorem Wca(a0:List zia)(r:zna × Bool)(hr:ZRa a0=some r):Run prog 218 [.l zia.pc a0] (.tup [.agg [.s r.1.Name,.s r.1.Value],.bo r.2]):=by
 unfold ZRa at hr;refine rfx (fn:=f218) func218 fun g0 hg=>?_
 refine rn tk 7 rfl ?_;obtain ⟨v1,h2,hr⟩:=zaa hr;obtain ⟨v3,h4,hr⟩:=zaa hr;refine drA 10 [(4,.ptr 4 0),(15,.agg [.s v1.name,.s v3.value]),(14,.s v3.value),(13,.ep [pS v3.value]),(12,.ep [pS v3.name,pI v3.number,pB v3.star,pS v3.value]),(11,.l zia.pc a0),(10,.s v1.name),(9,.ep [pS v1.name,pI v1.number,pB v1.star,pS v1.value]),(8,.ep [pS v1.name,pI v1.number,pB v1.star,pS v1.value]),(7,.l zia.pc a0)] mixed (by kernel_rfl) rfl rfl (pqA tk rfl (.plain rfl) (.run (.plain rfl) (qxa (Qna (f:=zia.pc) rfl rfl yoa jla rfl h2)) (pqA tk rfl (.plain rfl) (pqA tk rfl (.plain rfl) (pqA tk rfl (.plain rfl) (.run (.plain rfl) (qxa (Qna (f:=zia.pc) rfl rfl yoa jla rfl h4)) (pqA tk rfl (.plain rfl) (pqA tk rfl (.plain rfl) (pqA tk rfl (.plain rfl) (pnA 4 tk rfl rfl rfl (.plain rfl) .nil)))))))))) rfl rfl rfl<|rn tk 7 rfl ?_;obtain ⟨v5,h6,hr⟩:=zaa hr;refine wi tk h6 rfl rfl rfl rfl rfl ?_;refine ax 5 20 hr (fun hr=>?_) fun hr=>?_
 .refine rn tk 4 rfl<|wn tk rfl rfl rfl ?_;exact kx 7 hr
 refine rn tk 5 rfl ?_;cases hr
theorem kRb{g:G}{s:Str}{v:Value}(h:Rel g (.s s) v):v=.string (strB s):=z6a h
theorem q7b{g:G}{w' :World}(h:Below g.w.heap.size g.w w'):Old (fun _=>False) g ⟨w',g.u,g.loc⟩:=
 ⟨h.os,h.tape,h.output,⟨h.size,fun _ _=>jAq _,fun k i hk _=>by simp only[World.cell?];rw[h.block k hk],fun r hr=>(h.block r (zNa hr)).trans hr⟩,fun k hk _=>⟨h.block k hk,rfl⟩⟩
theorem Kxa(s t:Str)(r:Str)(hr:vXa s t=some r):Run prog 215 [.s s,.s t] (.s r):=by
 unfold vXa at hr;split at hr
 case isFalse=>cases hr
 rename_i hc;obtain ⟨h1,h2,h3⟩:=hc;cases hr;refine ⟨⟨_,_,⟨func215,rfl,by kernel_rfl⟩⟩,fun g vs hw hg ha=>?_⟩;obtain ⟨hsz,hrel⟩:=ha;obtain ⟨l⟩:=vs
 match l,hsz with
 | [x,y],_=>
  obtain rfl:=kRb (hrel 0 _ rfl);obtain rfl:=kRb (hrel 1 _ rfl);have h116:(prog.info? 261).map (fun i=>(i.zero,i.size))=some (some (.agg (Array.replicate 256 (.bool false))),256):=by kernel_rfl
  refine callsIn_wide.2 ((Any.strings_TrimLeft_laid Tryz.lays161 h116 (strB s) (strB t) g.w (by rw[zDa];exact h2) (ascii_of_all (by simpa[YVa,strB]using h3))).mono ?_);rintro e w' ⟨rfl,hb⟩;refine ⟨⟨w',g.u,g.loc⟩,_,rfl,(by intros;rfl),q7b hb,fun k hk=>hw k (jBg hb.size hk),rfl,?_⟩;rw[show (strB s).data.toList=s by simp[strB],show (strB t).data.toList=t by simp[strB]];exact .pv (.b rfl)
theorem z9a(a0:zfa)(r:zfa)(hr:zEa a0=some r):RunS prog 189 [.ptr 90008000 0] (zfa.sto a0) (.tup []) (zfa.sto r) 90008000 []:=by
 unfold zEa at hr;refine rfS (fn:=f189) (H:=90008999) (.ptr 90008000 0) ⟨func189,rfl,by kernel_rfl⟩ rfl (hasT rfl) (.inl ⟨rfl,rfl⟩) rfl rfl rfl rfl fun g0 hg S sg T=>?_
 refine clx 6 hr (Kxa _ _) fun v1 _ hr=>?_
 exact sxx 4 hr
theorem kSb{g:G}{s:Str}{v:Value}(h:Rel g (.s s) v):v=.string (strB s):=z6a h
theorem Z6a(s t:Str)(r:Str × Bool)(hr:kWa s t=some r):Run prog 213 [.s s,.s t] (.tup [.s r.1,.bo r.2]):=by
 unfold kWa at hr;split at hr
 case isFalse=>cases hr
 rename_i hlen;cases hr;refine ⟨⟨_,_,⟨func213,rfl,by kernel_rfl⟩⟩,fun g vs hw hg ha=>?_⟩;obtain ⟨hsz,hrel⟩:=ha;obtain ⟨l⟩:=vs
 match l,hsz with
 | [x,y],_=>
  obtain rfl:=kSb (hrel 0 _ rfl);obtain rfl:=kSb (hrel 1 _ rfl);refine callsIn_wide.2 ((Tryz.strings_CutSuffix (strB s) (strB t) g.w (by rw[zDa];exact hlen)).mono ?_);rintro e w' ⟨rfl,rfl⟩;refine ⟨g,_,rfl,rfl,Old.refl _ g,hw,rfl,.tup rfl fun i c hi=>?_⟩
  match i,hi with
  | 0,rfl=>exact .pv (.b rfl)
  | 1,rfl=>exact .pv (.b rfl)
theorem kTb(g:G)(e:TypeId)(s:ByteArray):Old (fun _=>False) g ⟨Lib.bytesWorld g.w e s,g.u,g.loc⟩:=by
 generalize hw:Lib.bytesWorld g.w e s=w';unfold Lib.bytesWorld at hw;have hother:∀q,q < g.w.heap.size->w'.heap[q]? =g.w.heap[q]? :=by
  intro q hq;subst hw;simp only[World.freeze,Nat.one_ne_zero,if_false,jBm];rw[if_neg (by omega)];exact Below.heap_alloc g.w.drew _ _ hq
 have hws:w'.heap.size=g.w.heap.size+1:=by subst hw;simp[World.freeze]
 refine ⟨by subst hw;first | (simp[World.freeze];done) | (simp[World.freeze];rfl),by subst hw;first | (simp[World.freeze];done) | (simp[World.freeze];rfl),by subst hw;first | (simp[World.freeze];done) | (simp[World.freeze];rfl),⟨by show g.w.heap.size<=w'.heap.size;omega,fun _ _=>jAq _,fun k i hk hi=>?_,fun r hr=>(hother r (zNa hr)).trans hr⟩,fun k hk _=>⟨hother k hk,rfl⟩⟩;simp only[World.cell?];rw[hother k hk]
theorem wGb{g:G}{w' :World}(h:Below g.w.heap.size g.w w'):Old (fun _=>False) g ⟨w',g.u,g.loc⟩:=
 ⟨h.os,h.tape,h.output,⟨h.size,fun _ _=>jAq _,fun k i hk _=>by simp only[World.cell?];rw[h.block k hk],fun r hr=>(h.block r (zNa hr)).trans hr⟩,fun k hk _=>⟨h.block k hk,rfl⟩⟩
theorem err_var {g : G} (hg : Gl g) : ∃ tp p, g.w.var? prog "strconv.ErrSyntax" = some #[.iface tp p] := by
 obtain ⟨tp,x,t,fz,h⟩:=hg.2.2 6 (by simp[vMb]);have hn : prog.globalNamed "strconv.ErrSyntax" = some 6 := by kernel_rfl
 refine ⟨tp,x,?_⟩;unfold World.var?;rw[hn];simp only[jAb];rw[h]
theorem Wda(s:Str)(r:Int × Bool)(hr:v5a s=some r):Run prog 231 [.s s] (.tup [.i r.1,.ifc r.2]):=by
 unfold v5a at hr;split at hr
 case isFalse=>cases hr
 rename_i hlen;refine ⟨⟨_,_,⟨func231,rfl,by kernel_rfl⟩⟩,fun g vs hw hg ha=>?_⟩;obtain ⟨hsz,hrel⟩:=ha;obtain ⟨l⟩:=vs
 match l,hsz with
 | [x],_=>
  obtain rfl:=str_argN (hrel 0 _ rfl);cases hn:Lib.atoi s with
  | none=>
   rw[hn]at hr;cases hr;obtain ⟨tp,p,hvar⟩:=err_var hg;refine callsIn_wide.2 ((Tryz.strconv_Atoi_err_var (strB s) (by rw[zDa];exact hlen) (by simpa[strB]using hn) tp p g.w hvar).mono ?_);rintro e w' ⟨N,rfl,_,_,hb⟩;exact ⟨⟨w',g.u,g.loc⟩,_,rfl,rfl,wGb hb,fun k hk=>hw k (jBg hb.size hk),rfl,.tup rfl fun i c hi=>by
    match i,hi with
    | 0,rfl=>exact .pv (.b rfl)
    | 1,rfl=>exact .ifc rfl⟩
  | some n=>
   rw[hn]at hr;cases hr;refine callsIn_wide.2 ((Tryz.strconv_Atoi (strB s) n (by rw[zDa];exact hlen) (by simpa[strB]using hn) g.w).mono ?_);rintro e w' ⟨rfl,t,rfl⟩;exact ⟨⟨_,g.u,g.loc⟩,_,rfl,rfl,kTb g _ _,fun k hk=>hw k (jBg (kTb g _ _).ext.size hk),rfl,.tup rfl fun i c hi=>by
    match i,hi with
    | 0,rfl=>exact .pv (.b rfl)
    | 1,rfl=>exact .ifc rfl⟩
theorem Wea(a0:Str)(a1:Int)(r:Int × Bool)(hr:ZQa a0 a1=some r):Run prog 214 [.s a0,.i a1] (.tup [.i r.1,.bo r.2]):=by
 unfold ZQa at hr;refine rfx (fn:=f214) func214 fun g0 hg=>?_
 refine clx 9 hr (Wda _) fun v1 _ hr=>?_
 refine jq 8 hr [6] [] (fun j3=>[(29,.bo j3)]) (fun _=>[]) (fun j3 hr=>?_) (fun j3 hr=>?_)
 .refine rn tk 2 rfl<|wq (ev_ifneq rfl rfl vvb) rfl rfl rfl ?_;refine bx 1 15 hr (fun c4 hr=>?_) fun c4 hr=>?_
  .exact jx 15 hr
  refine rn tk 1 rfl ?_;obtain ⟨v5,h6,hr⟩:=zaa hr;refine ug rfl rfl rfl<|cl (q4a _ _ h6) rfl rfl ?_;refine bx 4 21 hr (fun c7 hr=>?_) fun c7 hr=>?_
  .exact jx 9 hr
  refine bx 4 25 hr (fun c8 hr=>?_) fun c8 hr=>?_
  .exact jx 5 hr
  exact jx 5 hr
 refine ax 0 29 hr (fun hr=>?_) fun hr=>?_
 .exact kx 8 hr
 exact kx 10 hr
theorem qga(a0:zfa)(a1:UInt8)(r:Bool × zfa)(hr:zMa a0 a1=some r):RunS prog 187 [.ptr 90008000 0,.u8 a1] (zfa.sto a0) (.bo r.1) (zfa.sto r.2) 90008000 []:=by
 unfold zMa at hr;refine rfS (fn:=Tryz.f187) (H:=90008999) (.ptr 90008000 0) ⟨func187,rfl,by kernel_rfl⟩ rfl (hasT rfl) (.inl ⟨rfl,rfl⟩) rfl rfl rfl rfl fun g0 hg S sg T=>?_
 refine csx 8 hr (z9a a0) fun v1 _ hr=>?_
 refine jq 3 hr [0] [90008000,90008999] (fun j3=>[(20,.bo j3)]) (fun _=>[]) (fun j3 hr=>?_) (fun j3 hr=>?_)
 .refine bx 7 12 hr (fun c4 hr=>?_) fun c4 hr=>?_
  .exact jx 9 hr
  refine rn tk 4 rfl ?_;obtain ⟨v5,h6,hr⟩:=zaa hr;refine ug rfl rfl rfl<|ws tk h6 rfl rfl rfl rfl ?_;exact jx 4 hr
 refine ax 0 20 hr (fun hr=>?_) fun hr=>?_
 .exact sxx 7 hr
 refine rn tk 9 rfl ?_;obtain ⟨v8,h9,hr⟩:=zaa hr;refine wscL tk h9 rfl rfl rfl rfl ?_;exact sxx 11 hr
theorem yVa(a0:UInt8)(r:Bool)(hr:qBa a0=some r):Run prog 186 [.u8 a0] (.bo r):=by
 unfold qBa at hr;refine rfx (fn:=f186) func186 fun g0 hg=>?_
 refine jq 5 hr [] [] (fun j1=>[(2,.bo j1)]) (fun _=>[]) (fun j1 hr=>?_) (fun j1 hr=>?_)
 .refine bx 4 5 hr (fun c2 hr=>?_) fun c2 hr=>?_
  .refine bx 4 9 hr (fun c3 hr=>?_) fun c3 hr=>?_
   .refine rn tk 1 rfl ?_;obtain ⟨v4,h5,hr⟩:=zaa hr;refine ug rfl rfl rfl<|cl (z5a _ _ _ h5) rfl rfl ?_;exact jx 4 hr
   exact jx 6 hr
  exact jx 10 hr
 exact kx 1 hr
theorem Zla(a0:zfa)(r:Str × Bool × zfa)(hr:qfa a0=some r):RunS prog 212 [.ptr 90008000 0] (zfa.sto a0) (.tup [.s r.1,.bo r.2.1]) (zfa.sto r.2.2) 90008000 []:=by
 unfold qfa at hr;refine rfS (fn:=Tryz.f212) (H:=90008999) (.ptr 90008000 0) ⟨func212,rfl,by kernel_rfl⟩ rfl (hasT rfl) (.inl ⟨rfl,rfl⟩) rfl rfl rfl rfl fun g0 hg S sg T=>?_
 refine csx 10 hr (qga _ _) fun v1 _ hr=>?_
 refine ax 3 9 hr (fun hr=>?_) fun hr=>?_
 .refine iq 3 100000 [] (fn:=Tryz.f185) ⟨func185,rfl,by kernel_rfl⟩ fun T1 ds1=>?_
  refine csx 8 hr (z9a v1.2) fun v4 _ hr=>?_
  refine aq1 9 hr [0,1] [90008000,199999,90008999] (fun s6=>[(5,.i s6)]) (fun _=>[]) (.exit 0) [0] [90008000,199999,90008999] (fun b7=>[(5,.i b7)]) (fun _=>[]) (fun s6 x8 hr=>?_) (fun b7 hr=>?_)
  .unfold kGa at hr;refine jq 1 hr [0,1,5] [90008000,199999,90008999] (fun j9=>[(25,.bo j9)]) (fun _=>[]) (fun j9 hr=>?_) (fun j9 hr=>?_)
   .refine bx 9 16 hr (fun c10 hr=>?_) fun c10 hr=>?_
    .refine rn tk 6 rfl ?_;obtain ⟨v11,h12,hr⟩:=zaa hr;refine ug rfl rfl rfl<|ws tk h12 rfl rfl rfl rfl<|ug rfl rfl rfl ?_;refine iq 0 500000 [0,1,5,16,17,18,19,20,21,22,23] (fn:=f229) ⟨func229,rfl,by kernel_rfl⟩ fun T5 ds5=>?_
     refine jq 5 hr [] [599999,500000,500001,500005,500016,500017,500018,500019,500020,500021,500022,500023,90008000,199999,90008999] (fun j13=>[(2,.bo j13)]) (fun _=>[]) (fun j13 hr=>?_) (fun j13 hr=>?_)
     .refine clx 2 hr (yVa _) fun v14 _ hr=>?_
      refine bx 1 5 hr (fun c16 hr=>?_) fun c16 hr=>?_
      .exact jx 13 hr
      refine bx 4 9 hr (fun c17 hr=>?_) fun c17 hr=>?_
      .exact jx 9 hr
      refine bx 4 13 hr (fun c18 hr=>?_) fun c18 hr=>?_
      .exact jx 5 hr
      exact jx 5 hr
     refine ieq 1 (hO ?_);exact jx 2 hr
    exact jx 10 hr
   refine ax 0 25 hr (fun hr=>?_) fun hr=>?_
   .exact cx 9 hr
   exact ox 2 hr
  refine rn tk 9 rfl ?_;obtain ⟨v20,h21,hr⟩:=zaa hr;refine wscH tk h21 rfl rfl rfl rfl<|rn tk 11 rfl ?_;obtain ⟨v22,h23,hr⟩:=zaa hr;refine wscL tk h23 rfl rfl rfl rfl ?_;refine ieq 12 (hO ?_);exact sxx 6 hr
 refine rn tk 5 rfl ?_;refine kVa 1004 (d:=4) 5 1 rfl rfl rfl (hO ?_);refine aq2 9 hr [0,4] [90008000,90008999] (fun s24=>[(5,.i s24.1)]) (fun s24=>[(1004,.row 5 false 1 (List.map cU s24.2))]) (.exit 0) [] [90008000,90008999] (fun _=>[]) (fun _=>[]) .ret [] [90008999] (fun b26=>[(2,.s b26.1),(3,.bo b26.2.1)]) (fun b26=>zfa.sto b26.2.2) (fun s24 x28 hr=>?_) (fun b25 hr=>?_) (fun b26 hr=>?_)
 .unfold yfa at hr;refine ax 12 18 hr (fun hr=>?_) fun hr=>?_
  .refine jkq 2 [0,4] [90008000,90008999] (fun j30=>[(5,.i j30.1)]) (fun j30=>[(1004,.row 5 false 1 (List.map cU j30.2))]) (fun j30=>qea j30=some x28) ?_ ?_
   .refine rn tk 8 rfl ?_;obtain ⟨v31,h32,hr⟩:=zaa hr;refine ws tk h32 rfl rfl rfl rfl ?_;refine ax 15 32 hr (fun hr=>?_) fun hr=>?_
    .refine rn tk 9 rfl ?_;obtain ⟨v34,h35,hr⟩:=zaa hr;refine wscL tk h35 rfl rfl rfl rfl<|rn tk 8 rfl ?_;refine Qqa (d:=44) (F:=cU) (l:=s24.2) rfl rfl (hO ?_);refine wb tk rfl rfl rfl ?_;exact ox 8 hr
    refine ax 6 46 hr (fun hr=>?_) fun hr=>?_
    .refine ax 19 56 hr (fun hr=>?_) fun hr=>?_
     .exact ox 11 hr
     refine rn tk 9 rfl ?_;obtain ⟨v38,h39,hr⟩:=zaa hr;refine ws tk h39 rfl rfl rfl rfl<|wz cU ([v38]:List UInt8) tk rfl rfl (fun _=>rfl) rfl rfl rfl ?_;obtain ⟨v40,h41,hr⟩:=zaa hr;refine wa tk h41 rfl rfl rfl rfl (fun _=>rfl) rfl rfl<|rn tk 4 rfl<|jn (((w64 (s24.1+1)),v40)) hr rfl rfl
    refine rn tk 3 rfl<|wz cU ([v31]:List UInt8) tk rfl rfl (fun _=>rfl) rfl rfl rfl ?_;obtain ⟨v42,h43,hr⟩:=zaa hr;refine wa tk h43 rfl rfl rfl rfl (fun _=>rfl) rfl rfl<|rn tk 4 rfl<|jn ((s24.1,v42)) hr rfl rfl
   intro j30 hr;unfold qea at hr;exact cx 5 hr
  exact ox 2 hr
 .exact sxx 9 hr
 exact sxx 2 hr
theorem Z7a(a0:zfa)(r:zia × Bool × zfa)(hr:qCa a0=some r):RunS prog 188 [.ptr 90008000 0] (zfa.sto a0) (.tup [.agg [.s r.1.name,.i r.1.number,.bo r.1.star,.s r.1.value],.bo r.2.1]) (zfa.sto r.2.2) 90008000 []:=by
 unfold qCa at hr;refine rfS (fn:=f188) (H:=90008999) (.ptr 90008000 0) ⟨func188,rfl,by kernel_rfl⟩ rfl (hasT rfl) (.inl ⟨rfl,rfl⟩) rfl rfl rfl rfl fun g0 hg S sg T=>?_
 refine iq 9 100000 [0,2] (fn:=Tryz.f185) ⟨func185,rfl,by kernel_rfl⟩ fun T1 ds1=>?_
 refine csx 8 hr (z9a a0) fun v1 _ hr=>?_
 refine aq1 9 hr [0,1] [90008000,199999,100000,100002,2,90008999] (fun s3=>[(5,.i s3)]) (fun _=>[]) (.exit 0) [0] [90008000,199999,100000,100002,2,90008999] (fun b4=>[(5,.i b4)]) (fun _=>[]) (fun s3 x5 hr=>?_) (fun b4 hr=>?_)
 .unfold kQa at hr;refine jq 1 hr [0,1,5] [90008000,199999,100000,100002,2,90008999] (fun j6=>[(25,.bo j6)]) (fun _=>[]) (fun j6 hr=>?_) (fun j6 hr=>?_)
  .refine bx 9 16 hr (fun c7 hr=>?_) fun c7 hr=>?_
   .refine rn tk 6 rfl ?_;obtain ⟨v8,h9,hr⟩:=zaa hr;refine ug rfl rfl rfl<|ws tk h9 rfl rfl rfl rfl<|ug rfl rfl rfl ?_;refine iq 0 500000 [0,1,5,16,17,18,19,20,21,22,23] (fn:=Tryz.f211) ⟨func211,rfl,by kernel_rfl⟩ fun T5 ds5=>?_
    refine jq 5 hr [] [599999,500000,500001,500005,500016,500017,500018,500019,500020,500021,500022,500023,90008000,199999,100000,100002,2,90008999] (fun j10=>[(2,.bo j10)]) (fun _=>[]) (fun j10 hr=>?_) (fun j10 hr=>?_)
    .refine clx 2 hr (yVa _) fun v11 _ hr=>?_
     refine bx 1 5 hr (fun c13 hr=>?_) fun c13 hr=>?_
     .exact jx 5 hr
     exact jx 5 hr
    refine ieq 1 (hO ?_);exact jx 2 hr
   exact jx 10 hr
  refine ax 0 25 hr (fun hr=>?_) fun hr=>?_
  .exact cx 9 hr
  exact ox 2 hr
 refine rn tk 9 rfl ?_;obtain ⟨v15,h16,hr⟩:=zaa hr;refine wscH tk h16 rfl rfl rfl rfl<|rn tk 11 rfl ?_;obtain ⟨v17,h18,hr⟩:=zaa hr;refine wscL tk h18 rfl rfl rfl rfl ?_;refine ieq 12 (hO ?_);refine csx 7 hr (qga _ _) fun v19 _ hr=>?_
 refine ax 3 17 hr (fun hr=>?_) fun hr=>?_
 .exact sxx 9 hr
 refine csx 5 hr (Zla v19.2) fun v22 _ hr=>?_
 refine clx 18 hr (yUa _ _) fun v24 _ hr=>?_
 refine jq 16 hr [2,7,8] [90008000,2,90008999] (fun j26=>[(6,.bo j26.1)]) (fun j26=>[(7,.cells [.s v24.1,.i j26.2.1,.bo j26.2.2,.s v22.1])]) (fun j26 hr=>?_) (fun j26 hr=>?_)
 .refine ax 5 34 hr (fun hr=>?_) fun hr=>?_
  .refine clx 3 hr (Z6a _ _) fun v28 _ hr=>?_
   refine clx 11 hr (Wea _ _) fun v30 _ hr=>?_
   refine bx 17 49 hr (fun c32 hr=>?_) fun c32 hr=>?_
   .exact jx 4 hr
   exact jx 4 hr
  exact jx 1 hr
 refine jq 0 hr [2] [90008000,90008999] (fun j33=>[(3,.bo j33)]) (fun _=>[(2,.cells [.s v24.1,.i j26.2.1,.bo j26.2.2,.s v22.1])]) (fun j33 hr=>?_) (fun j33 hr=>?_)
 .refine bx 4 54 hr (fun c34 hr=>?_) fun c34 hr=>?_
  .exact jx 6 hr
  exact jx 6 hr
 exact sxx 1 hr
theorem Yfa(a0:Str)(r:kEa × Bool)(hr:yPa a0=some r):RunS prog 149 [.s a0] [] (.tup [.agg [.s r.1.Type_,.s r.1.Sub,.hs 90011003 0],.bo r.2]) [(90011003,.row 131 false 2 (List.map zna.pc r.1.Params))] 90011000 [90011003]:=by
 unfold yPa at hr;refine rfS (fn:=f149) (H:=90011999) .any ⟨func149,rfl,by kernel_rfl⟩ rfl (hasT rfl) (.inr ⟨rfl,rfl⟩) rfl rfl rfl rfl fun g0 hg S sg T=>?_
 refine rn tk 3 rfl ?_;refine zGa 1002 (o:=2) (j:=2) 131 2 rfl rfl rfl rfl (hO ?_);refine rn tk 7 rfl<|wo (wea (k:=13) 90008000 rfl rfl rfl rfl rfl) rfl<|rn tk 6 rfl ?_;refine zGa 1005 (o:=5) (j:=2) 131 2 rfl rfl rfl rfl (hO ?_);refine JNa 1005 90011003 rfl rfl rfl rfl rfl rfl (hO ?_);refine iq 5 100000 [2,4,5] (fn:=Tryz.f185) ⟨func185,rfl,by kernel_rfl⟩ fun T1 ds1=>?_
 refine csx 8 hr (z9a _) fun v1 _ hr=>?_
 refine aq1 9 hr [0,1] [90008000,199999,100002,100004,100005,90011003,5,1002,2,90011999] (fun s3=>[(5,.i s3)]) (fun _=>[]) (.exit 0) [0] [90008000,199999,100002,100004,100005,90011003,5,1002,2,90011999] (fun b4=>[(5,.i b4)]) (fun _=>[]) (fun s3 x5 hr=>?_) (fun b4 hr=>?_)
 .unfold vMa at hr;refine jq 1 hr [0,1,5] [90008000,199999,100002,100004,100005,90011003,5,1002,2,90011999] (fun j6=>[(25,.bo j6)]) (fun _=>[]) (fun j6 hr=>?_) (fun j6 hr=>?_)
  .refine bx 9 16 hr (fun c7 hr=>?_) fun c7 hr=>?_
   .refine rn tk 6 rfl ?_;obtain ⟨v8,h9,hr⟩:=zaa hr;refine ug rfl rfl rfl<|ws tk h9 rfl rfl rfl rfl<|ug rfl rfl rfl ?_;refine iq 0 500000 [0,1,5,16,17,18,19,20,21,22,23] (fn:=f186) ⟨func186,rfl,by kernel_rfl⟩ fun T5 ds5=>?_
    refine jq 5 hr [] [599999,500000,500001,500005,500016,500017,500018,500019,500020,500021,500022,500023,90008000,199999,100002,100004,100005,90011003,5,1002,2,90011999] (fun j10=>[(2,.bo j10)]) (fun _=>[]) (fun j10 hr=>?_) (fun j10 hr=>?_)
    .refine bx 4 5 hr (fun c11 hr=>?_) fun c11 hr=>?_
     .refine bx 4 9 hr (fun c12 hr=>?_) fun c12 hr=>?_
      .refine rn tk 1 rfl ?_;obtain ⟨v13,h14,hr⟩:=zaa hr;refine ug rfl rfl rfl<|cl (z5a _ _ _ h14) rfl rfl ?_;exact jx 4 hr
      exact jx 6 hr
     exact jx 10 hr
    refine ieq 1 (hO ?_);exact jx 2 hr
   exact jx 10 hr
  refine ax 0 25 hr (fun hr=>?_) fun hr=>?_
  .exact cx 9 hr
  exact ox 2 hr
 refine rn tk 9 rfl ?_;obtain ⟨v16,h17,hr⟩:=zaa hr;refine wscH tk h17 rfl rfl rfl rfl<|rn tk 11 rfl ?_;obtain ⟨v18,h19,hr⟩:=zaa hr;refine wscL tk h19 rfl rfl rfl rfl ?_;refine ieq 12 (hO ?_);refine csx 7 hr (qga _ _) fun v20 _ hr=>?_
 refine iq 6 600000 [2,4,5,6] (fn:=Tryz.f185) ⟨func185,rfl,by kernel_rfl⟩ fun T6 ds6=>?_
 refine csx 8 hr (z9a v20.2) fun v22 _ hr=>?_
 refine aq1 9 hr [0,1] [90008000,699999,600002,600004,600005,600006,90011003,5,1002,2,90011999] (fun s24=>[(5,.i s24)]) (fun _=>[]) (.exit 0) [0] [90008000,699999,600002,600004,600005,600006,90011003,5,1002,2,90011999] (fun b25=>[(5,.i b25)]) (fun _=>[]) (fun s24 x26 hr=>?_) (fun b25 hr=>?_)
 .unfold vNa at hr;refine jq 1 hr [0,1,5] [90008000,699999,600002,600004,600005,600006,90011003,5,1002,2,90011999] (fun j27=>[(25,.bo j27)]) (fun _=>[]) (fun j27 hr=>?_) (fun j27 hr=>?_)
  .refine bx 9 16 hr (fun c28 hr=>?_) fun c28 hr=>?_
   .refine rn tk 6 rfl ?_;obtain ⟨v29,h30,hr⟩:=zaa hr;refine ug rfl rfl rfl<|ws tk h30 rfl rfl rfl rfl<|ug rfl rfl rfl ?_;refine iq 0 1000000 [0,1,5,16,17,18,19,20,21,22,23] (fn:=f186) ⟨func186,rfl,by kernel_rfl⟩ fun T10 ds10=>?_
    refine jq 5 hr [] [1099999,1000000,1000001,1000005,1000016,1000017,1000018,1000019,1000020,1000021,1000022,1000023,90008000,699999,600002,600004,600005,600006,90011003,5,1002,2,90011999] (fun j31=>[(2,.bo j31)]) (fun _=>[]) (fun j31 hr=>?_) (fun j31 hr=>?_)
    .refine bx 4 5 hr (fun c32 hr=>?_) fun c32 hr=>?_
     .refine bx 4 9 hr (fun c33 hr=>?_) fun c33 hr=>?_
      .refine rn tk 1 rfl ?_;obtain ⟨v34,h35,hr⟩:=zaa hr;refine ug rfl rfl rfl<|cl (z5a _ _ _ h35) rfl rfl ?_;exact jx 4 hr
      exact jx 6 hr
     exact jx 10 hr
    refine ieq 1 (hO ?_);exact jx 2 hr
   exact jx 10 hr
  refine ax 0 25 hr (fun hr=>?_) fun hr=>?_
  .exact cx 9 hr
  exact ox 2 hr
 refine rn tk 9 rfl ?_;obtain ⟨v37,h38,hr⟩:=zaa hr;refine wscH tk h38 rfl rfl rfl rfl<|rn tk 11 rfl ?_;obtain ⟨v39,h40,hr⟩:=zaa hr;refine wscL tk h40 rfl rfl rfl rfl ?_;refine ieq 12 (hO ?_);refine jq 5 hr [2,4,5] [90008000,90011003,5,1002,2,90011999] (fun j41=>[(33,.bo j41)]) (fun _=>[]) (fun j41 hr=>?_) (fun j41 hr=>?_)
 .refine bx 5 25 hr (fun c42 hr=>?_) fun c42 hr=>?_
  .exact jx 9 hr
  refine bx 4 29 hr (fun c43 hr=>?_) fun c43 hr=>?_
  .exact jx 5 hr
  exact jx 5 hr
 refine ax 0 33 hr (fun hr=>?_) fun hr=>?_
 .exact sxx 9 hr
 refine rn tk 5 rfl ?_;refine kVa 1007 (d:=7) 231 4 rfl rfl rfl (hO ?_);refine aq2 4 hr [2,4,5,7] [90011003,5,1002,2,90011999] (fun _=>[]) (fun s45=>(zfa.sto s45.1)++ [(1007,.row 231 false 4 (List.map zia.pc s45.2))]) (.exit 0) [2,4,5,7] [90011003,5,1002,2,90011999] (fun _=>[]) (fun b46=>(zfa.sto b46.1)++ [(1007,.row 231 false 4 (List.map zia.pc b46.2))]) .ret [2] [90011003,90011999] (fun _=>[(3,.bo false)]) (fun _=>[(2,.cells [.s v16,.s v37,.hs 90011003 0])]) (fun s45 x49 hr=>?_) (fun b46 hr=>?_) (fun b47 hr=>?_)
 .unfold q8a at hr;refine csx 4 hr (qga _ _) fun v50 _ hr=>?_
  refine ax 2 36 hr (fun hr=>?_) fun hr=>?_
  .refine csx 6 hr (Z7a v50.2) fun v53 _ hr=>?_
   refine ax 15 43 hr (fun hr=>?_) fun hr=>?_
   .exact ox 10 hr
   refine rn tk 5 rfl<|wz zia.pc ([v53.1]:List zia) tk rfl rfl (fun _=>rfl) rfl rfl rfl ?_;obtain ⟨v56,h57,hr⟩:=zaa hr;refine wa tk h57 rfl rfl rfl rfl (fun _=>rfl) rfl rfl ?_;exact cx 3 hr
  exact ox 2 hr
 .refine csx 5 hr (z9a b46.1) fun v58 _ hr=>?_
  refine iq 10 1100000 [2,4,5] (fn:=f190) ⟨func190,rfl,by kernel_rfl⟩ fun T11 ds11=>?_
  refine rn tk 9 rfl ?_;refine kVa 1004 (d:=4) 131 2 rfl rfl rfl (hO ?_);refine rn tk 6 rfl<|wnh tk rfl rfl rfl rfl<|rn tk 4 rfl ?_;refine qwa (d:=13) (F:=zia.pc) (l:=b46.2) rfl rfl (hC ?_);refine aq2 0 hr [0,4,13,14] [1199999,1100002,1100004,1100005,90008000,1007,90011003,5,1002,2,90011999] (fun s61=>[(15,.i s61.1)]) (fun s61=>[(1004,.row 131 false 2 (List.map zna.pc s61.2))]) (.exit 0) [4] [1199999,1100002,1100004,1100005,90008000,90011003,5,1002,2,90011999] (fun _=>[]) (fun b62=>[(1004,.row 131 false 2 (List.map zna.pc b62))]) .ret [3] [1199999,1100002,1100004,1100005,90008000,90011003,5,1002,2,90011999] (fun _=>[(2,.pv (.sl (some true) []))]) (fun _=>[]) (fun s61 x65 hr=>?_) (fun b62 hr=>?_) (fun b63 hr=>?_)
  .unfold vOa at hr;refine ax 6 16 hr (fun hr=>?_) fun hr=>?_
   .refine jkq 2 [0,4,13,14,15] [1199999,1100002,1100004,1100005,90008000,1007,90011003,5,1002,2,90011999] (fun _=>[]) (fun j67=>[(1004,.row 131 false 2 (List.map zna.pc j67))]) (fun j67=>wYa s61 j67=some x65) ?_ ?_
    .refine rn tk 4 rfl ?_;obtain ⟨v68,h69,hr⟩:=zaa hr;refine wi tk h69 rfl rfl rfl rfl rfl<|rn tk 17 rfl ?_;refine Qqa (d:=21) (F:=zia.pc) (l:=b46.2) rfl rfl (hO ?_);obtain ⟨v70,h71,hr⟩:=zaa hr;refine wlH tk h71 rfl rfl rfl (fun _=>rfl) rfl ?_;refine iq 1 9600000 [0,4,6,7,13,14,15] (fn:=Tryz.f217) ⟨func217,rfl,by kernel_rfl⟩ fun T96 ds96=>?_
     refine ctq 9 hr [] [9699999,9600000,9600004,9600013,9600014,9600015,9600006,9600007,6,1004,1199999,1100002,1100004,1100005,90008000,1007,90011003,5,1002,2,90011999] (fun j72=>[(7,.i j72)]) (fun _=>[]) (fun j72 hr jump97=>?_) (fun j72 hr=>?_)
     .refine iq 0 9700000 [] (fn:=Tryz.f232) ⟨func232,rfl,by kernel_rfl⟩ fun T97 ds97=>?_
      refine rn tk 9 rfl<|wn tk rfl rfl rfl ?_;refine aq2 4 hr [0,1,7] [9799999,9699999,9600000,9600004,9600013,9600014,9600015,9600006,9600007,6,1004,1199999,1100002,1100004,1100005,90008000,1007,90011003,5,1002,2,90011999] (fun s73=>[(8,.i s73)]) (fun _=>[]) (.exit 0) [] [9799999,9699999,9600000,9600004,9600013,9600014,9600015,9600006,9600007,6,1004,1199999,1100002,1100004,1100005,90008000,1007,90011003,5,1002,2,90011999] (fun _=>[]) (fun _=>[]) .ret [] [9799999,9699999,9600000,9600004,9600013,9600014,9600015,9600006,9600007,6,1004,1199999,1100002,1100004,1100005,90008000,1007,90011003,5,1002,2,90011999] (fun b75=>[(4,.i b75)]) (fun _=>[]) (fun s73 x77 hr=>?_) (fun b74 hr=>?_) (fun b75 hr=>?_)
      .unfold jna at hr;refine ax 6 9 hr (fun hr=>?_) fun hr=>?_
       .refine rn tk 15 rfl ?_;obtain ⟨v79,h80,hr⟩:=zaa hr;refine wi tk h80 rfl rfl rfl rfl rfl ?_;refine iq 1 9900000 [0,1,5,7,8] (fn:=f216) ⟨func216,rfl,by kernel_rfl⟩ fun T99 ds99=>?_
        refine rn tk 2 rfl<|wo (wea (k:=2) 2002 rfl rfl rfl rfl rfl) rfl ?_;refine clx 9 hr (kla _ _) fun v81 _ hr=>?_
        refine ieq 4 (hO ?_);refine ax 2 16 hr (fun hr=>?_) fun hr=>?_
        .exact ox 9 hr
        exact cx 7 hr
       exact ox 2 hr
      .refine ieq 8 ?_;cases hr;exact jump97 _ _ rfl rfl
      refine ieq 2 ?_;cases hr;exact jump97 _ _ rfl rfl
     refine ieq 5 (hO ?_);refine ax 2 25 hr (fun hr=>?_) fun hr=>?_
     .refine rn tk 3 rfl<|jn s61.2 hr rfl rfl
     refine rn tk 5 rfl ?_;refine kVa 1008 (d:=8) 231 4 rfl rfl rfl (hO ?_);refine rn tk 6 rfl<|wnh tk rfl rfl rfl rfl<|rn tk 4 rfl ?_;refine qwa (d:=26) (F:=zia.pc) (l:=b46.2) rfl rfl (hC ?_);refine aq1 0 hr [0,4,6,7,8,13,14,15,26,27] [6,1004,1199999,1100002,1100004,1100005,90008000,1007,90011003,5,1002,2,90011999] (fun s86=>[(28,.i s86.1)]) (fun s86=>[(1008,.row 231 false 4 (List.map zia.pc s86.2))]) (.exit 2) [0,4,6,8,13,14,15] [6,1004,1199999,1100002,1100004,1100005,90008000,1007,90011003,5,1002,2,90011999] (fun _=>[]) (fun b87=>[(1008,.row 231 false 4 (List.map zia.pc b87))]) (fun s86 x88 hr=>?_) (fun b87 hr=>?_)
     .unfold wZa at hr;refine ax 6 29 hr (fun hr=>?_) fun hr=>?_
      .refine jq 2 hr [0,4,6,7,8,13,14,15,26,27,28] [6,1004,1199999,1100002,1100004,1100005,90008000,1007,90011003,5,1002,2,90011999] (fun _=>[]) (fun j90=>[(1008,.row 231 false 4 (List.map zia.pc j90))]) (fun j90 hr=>?_) (fun j90 hr=>?_)
       .refine rn tk 3 rfl ?_;obtain ⟨v91,h92,hr⟩:=zaa hr;refine wi tk h92 rfl rfl rfl rfl rfl ?_;refine iq 9 10700000 [0,4,6,7,8,10,13,14,15,26,27,28] (fn:=f216) ⟨func216,rfl,by kernel_rfl⟩ fun T107 ds107=>?_
        refine rn tk 2 rfl<|wo (wea (k:=2) 2002 rfl rfl rfl rfl rfl) rfl ?_;refine clx 9 hr (kla _ _) fun v93 _ hr=>?_
        refine ieq 4 (hO ?_);refine ax 2 34 hr (fun hr=>?_) fun hr=>?_
        .refine rn tk 3 rfl<|wz zia.pc ([v91]:List zia) tk rfl rfl (fun _=>rfl) rfl rfl rfl ?_;obtain ⟨v96,h97,hr⟩:=zaa hr;refine wa tk h97 rfl rfl rfl rfl (fun _=>rfl) rfl rfl ?_;exact jx 3 hr
        exact jx 2 hr
       exact cx 4 hr
      exact ox 2 hr
     refine rn tk 5 rfl ?_;refine Qqa (d:=41) (F:=zia.pc) (l:=b87) rfl rfl (hO ?_);refine clx 0 hr (Wca _) fun v98 _ hr=>?_
     refine ax 15 46 hr (fun hr=>?_) fun hr=>?_
     .exact ox 10 hr
     refine rn tk 13 rfl<|wz zna.pc ([(zna.mk v68.name v98.1.Value)]:List zna) tk rfl rfl (fun _=>rfl) rfl rfl rfl ?_;obtain ⟨v101,h102,hr⟩:=zaa hr;refine wa tk h102 rfl rfl rfl rfl (fun _=>rfl) rfl rfl<|rn tk 3 rfl<|jn v101 hr rfl rfl
    intro j67 hr;unfold wYa at hr;exact cx 4 hr
   exact ox 2 hr
  .refine ieq 10 (hO ?_);refine rn tk 6 rfl ?_;refine Jha 90011003 ?_;refine JNa 1004 90011003 rfl rfl rfl rfl rfl rfl (hO ?_);refine rn tk 3 rfl<|drX 9 10 8 948 [3,4,5,6,7,8] [(65,.bo ((v58.s==([]:Str)))),(64,.bo ((v58.s==([]:Str)))),(63,.s v58.s),(62,.ptr 90008000 0),(61,.ptr 90008000 0),(60,.ptr 90008000 0),(59,.bo true),(58,.bo true),(57,.agg [.s v16,.s v37,.hs 90011003 0])] [(2,.ptr 2 0),(65,.bo ((v58.s==([]:Str))))] [(90011003,.row 131 false 2 (List.map zna.pc b62)),(90008000,.cells [.s v58.s]),(5,.cells [.s v16,.s v37,.hs 90011003 0]),(1002,.row 131 false 2 (List.map zna.pc (([]:List zna)))),(2,.cells [.s v16,.s v37,.hs 90011003 0]),(90011999,.hold (.any) (T.getD 0 undef))] tk mixed (by kernel_rfl) rfl rfl rfl (pqX tk rfl (.plain rfl) (pqX tk rfl (.plain rfl) (pqX tk rfl (.plain rfl) (pqX tk rfl (.yes (d:=59) rfl rfl rfl rfl) (pqX tk rfl (.yes (d:=59) rfl rfl rfl rfl) (pqX tk rfl (.yes (d:=59) rfl rfl rfl rfl) (pqX tk rfl (.yes (d:=59) rfl rfl rfl rfl) (pqX tk rfl (.yes (d:=59) rfl rfl rfl rfl) (pqX tk rfl (.plain rfl) .nil))))))))) rfl rfl rfl rfl (by kernel_rfl) ?_;exact sxx 4 hr
  refine ieq 2 (hO ?_);refine rn tk 5 rfl ?_;refine zGa 1005 (o:=5) (j:=2) 131 2 rfl rfl rfl rfl (hO ?_);refine rn tk 1 rfl ?_;refine Jha 90011003 ?_;refine JNa 1005 90011003 rfl rfl rfl rfl rfl rfl (hO ?_);refine rn tk 3 rfl<|drX 9 10 8 948 [3,4,5,6,7,8] [(65,.bo false),(64,.tup []),(63,.tup []),(62,.tup []),(61,.tup []),(60,.tup []),(59,.bo false),(58,.bo false),(57,.agg [.s v16,.s v37,.hs 90011003 0])] [(2,.ptr 2 0),(65,.bo false)] [(90011003,.row 131 false 2 (List.map zna.pc (([]:List zna)))),(90008000,.cells [.s v58.s]),(5,.cells [.s v16,.s v37,.hs 90011003 0]),(1002,.row 131 false 2 (List.map zna.pc (([]:List zna)))),(2,.cells [.s v16,.s v37,.hs 90011003 0]),(90011999,.hold (.any) (T.getD 0 undef))] tk mixed (by kernel_rfl) rfl rfl rfl (pqX tk rfl (.plain rfl) (pqX tk rfl (.plain rfl) (pqX tk rfl (.plain rfl) (.skip (.no (d:=59) rfl rfl rfl rfl) (.skip (.no (d:=59) rfl rfl rfl rfl) (.skip (.no (d:=59) rfl rfl rfl rfl) (.skip (.no (d:=59) rfl rfl rfl rfl) (.skip (.no (d:=59) rfl rfl rfl rfl) (pqX tk rfl (.plain rfl) .nil))))))))) rfl rfl rfl rfl (by kernel_rfl) ?_;exact sxx 4 hr
 exact sxx 2 hr
theorem Yga(a0:Str)(r:kEa × zoa)(hr:wRa a0=some r):RunS prog 115 [.s a0] [] (.tup [.agg [.s r.1.Type_,.s r.1.Sub,.hs 90011003 0],.agg [.i r.2.Code,.i r.2.Index]]) [(90011003,.row 131 false 2 (List.map zna.pc r.1.Params))] 90011000 [90011003]:=by
 unfold wRa at hr;refine rfS (fn:=Tryz.f115) (H:=90011999) .any ⟨func115,rfl,by kernel_rfl⟩ rfl (hasT rfl) (.inr ⟨rfl,rfl⟩) rfl rfl rfl rfl fun g0 hg S sg T=>?_
 refine rn tk 3 rfl ?_;refine zGa 1002 (o:=2) (j:=2) 131 2 rfl rfl rfl rfl (hO ?_);refine ax 11 9 hr (fun hr=>?_) fun hr=>?_
 .refine clx 3 hr (zga _ _) fun v2 _ hr=>?_
  refine rn tk 1 rfl ?_;refine zGa 2002 (o:=2) (j:=2) 131 2 rfl rfl rfl rfl (hO ?_);refine rn tk 3 rfl ?_;refine WNa 2002 90011003 rfl rfl rfl rfl rfl rfl (hC ?_);exact sxx 2 hr
 refine csx 5 hr (Yfa a0) fun v4 _ hr=>?_
 refine rn tk 4 rfl ?_;refine zGa 1004 (o:=4) (j:=2) 131 2 rfl rfl rfl rfl (hO ?_);refine ax 11 18 hr (fun hr=>?_) fun hr=>?_
 .refine clx 3 hr (zga _ _) fun v7 _ hr=>?_
  refine rn tk 1 rfl ?_;refine zGa 2002 (o:=2) (j:=2) 131 2 rfl rfl rfl rfl (hO ?_);refine rn tk 3 rfl ?_;refine kQb 90011003 ?_;refine WNa 2002 90011003 rfl rfl rfl rfl rfl rfl (hC ?_);exact sxx 2 hr
 refine rn tk 6 rfl ?_;refine yLa (d' :=21) (j:=2) (F:=zna.pc) (l:=v4.1.Params) rfl rfl rfl (hO ?_);refine clx 0 hr (wAa _) fun v9 _ hr=>?_
 refine clx 7 hr (zha _) fun v11 _ hr=>?_
 refine ax 2 24 hr (fun hr=>?_) fun hr=>?_
 .refine clx 5 hr (zga _ _) fun v14 _ hr=>?_
  refine rn tk 1 rfl ?_;refine zGa 2002 (o:=2) (j:=2) 131 2 rfl rfl rfl rfl (hO ?_);refine rn tk 3 rfl ?_;refine kQb 90011003 ?_;refine WNa 2002 90011003 rfl rfl rfl rfl rfl rfl (hC ?_);exact sxx 2 hr
 refine rn tk 3 rfl ?_;obtain ⟨v16,h17,hr⟩:=zaa hr;refine drF 1 0 [(29,.agg [.s v4.1.Type_,.s v4.1.Sub,.hs 90011003 0])] [(29,.any)] [(2,.ptr 2 0),(3,.ptr 3 0),(29,.agg [.s v4.1.Type_,.s v4.1.Sub,.hs 90011003 0]),(30,.agg [.i v16.Code,.i v16.Index])] [(6,.cells [.i v9.Code,.i v9.Index]),(1004,.row 131 false 2 (List.map zna.pc (([]:List zna)))),(4,.cells [.s v4.1.Type_,.s v4.1.Sub,.hs 90011003 0]),(90011003,.row 131 false 2 (List.map zna.pc v4.1.Params)),(3,.cells [.i 0,.i 0]),(1002,.row 131 false 2 (List.map zna.pc (([]:List zna)))),(2,.cells [.s (([]:Str)),.s (([]:Str)),.hs 1002 0]),(90011999,.hold (.any) (T.getD 0 undef))] mixed (by kernel_rfl) rfl rfl rfl rfl rfl (pqF tk rfl (.plain rfl) .nil) rfl rfl rfl rfl rfl (fun hJ=>?_) (fun hJ=>?_) ?_
 .refine cl (zla _ h17) rfl rfl ?_;exact hJ _ _ rfl rfl
 .refine cl (zla _ h17) rfl rfl<|rn tk 1 rfl ?_;exact hJ _ _ rfl rfl
 exact sxx 5 hr
theorem w0a(a0:List zca)(r:kEa × Int × Bool)(hr:vya a0=some r):RunS prog 77 [.l zca.pc a0] [] (.tup [.agg [.s r.1.Type_,.s r.1.Sub,.hs 90011003 0],.i r.2.1,.bo r.2.2]) [(90011003,.row 131 false 2 (List.map zna.pc r.1.Params))] 90011000 [90011003]:=by
 unfold vya at hr;refine rfS (fn:=f77) (H:=90011999) .any ⟨func77,rfl,by kernel_rfl⟩ rfl (hasT rfl) (.inr ⟨rfl,rfl⟩) rfl rfl rfl rfl fun g0 hg S sg T=>?_
 refine rn tk 3 rfl ?_;refine zGa 1002 (o:=2) (j:=2) 131 2 rfl rfl rfl rfl (hO ?_);refine rn tk 13 rfl<|wn tk rfl rfl rfl ?_;refine aq2 4 hr [0,2,10,11] [1002,2,90011999] (fun s1=>[(5,.i s1.1),(12,.i s1.2)]) (fun _=>[]) (.exit 0) [0,2] [1002,2,90011999] (fun b2=>[(5,.i b2)]) (fun _=>[]) .ret [2,3,4] [90011999] (fun _=>[]) (fun _=>[(90011003,.row 131 false 2 (List.map zna.pc (([]:List zna)))),(2,.cells [.s (([]:Str)),.s (([]:Str)),.hs 90011003 0])]) (fun s1 x5 hr=>?_) (fun b2 hr=>?_) (fun b3 hr=>?_)
 .unfold jYa at hr;refine ax 6 13 hr (fun hr=>?_) fun hr=>?_
  .refine jkq 2 [0,2,10,11,12] [1002,2,90011999] (fun j7=>[(5,.i j7)]) (fun _=>[]) (fun j7=>yza s1 j7=some x5) ?_ ?_
   .refine rn tk 4 rfl ?_;obtain ⟨v8,h9,hr⟩:=zaa hr;refine wi tk h9 rfl rfl rfl rfl rfl ?_;refine clx 10 hr (kla _ _) fun v10 _ hr=>?_
    refine ax 2 19 hr (fun hr=>?_) fun hr=>?_
    .refine ax 7 21 hr (fun hr=>?_) fun hr=>?_
     .refine rn tk 4 rfl ?_;refine zGa 2002 (o:=2) (j:=2) 131 2 rfl rfl rfl rfl (hO ?_);refine rn tk 4 rfl ?_;refine WNa 2002 90011003 rfl rfl rfl rfl rfl rfl (hC ?_);exact ox 4 hr
     refine rn tk 7 rfl<|jn s1.2 hr rfl rfl
    refine rn tk 2 rfl<|jn s1.1 hr rfl rfl
   intro j7 hr;unfold yza at hr;exact cx 4 hr
  exact ox 2 hr
 .refine ax 9 26 hr (fun hr=>?_) fun hr=>?_
  .refine rn tk 4 rfl ?_;refine zGa 2002 (o:=2) (j:=2) 131 2 rfl rfl rfl rfl (hO ?_);refine rn tk 4 rfl ?_;refine WNa 2002 90011003 rfl rfl rfl rfl rfl rfl (hC ?_);exact sxx 2 hr
  refine rn tk 6 rfl ?_;obtain ⟨v15,h16,hr⟩:=zaa hr;refine wi tk h16 rfl rfl rfl rfl rfl ?_;refine csx 2 hr (Yga v15.Value) fun v17 _ hr=>?_
  refine rn tk 4 rfl ?_;refine zGa 1008 (o:=8) (j:=2) 131 2 rfl rfl rfl rfl (hO ?_);refine rn tk 6 rfl ?_;obtain ⟨v19,h20,hr⟩:=zaa hr;refine drX 5 7 5 14 [1,4] [(41,.bo ((!v19))),(40,.bo v19),(39,.agg [.i v17.2.Code,.i v17.2.Index]),(38,.i b2),(37,.agg [.s v17.1.Type_,.s v17.1.Sub,.hs 90011003 0])] [(2,.ptr 2 0),(3,.i b2),(41,.bo ((!v19)))] [(9,.cells [.i v17.2.Code,.i v17.2.Index]),(1008,.row 131 false 2 (List.map zna.pc (([]:List zna)))),(8,.cells [.s v17.1.Type_,.s v17.1.Sub,.hs 90011003 0]),(90011003,.row 131 false 2 (List.map zna.pc v17.1.Params)),(1002,.row 131 false 2 (List.map zna.pc (([]:List zna)))),(2,.cells [.s v17.1.Type_,.s v17.1.Sub,.hs 90011003 0]),(90011999,.hold (.any) (T.getD 0 undef))] tk mixed (by kernel_rfl) rfl rfl rfl (pqX tk rfl (.plain rfl) (pqX tk rfl (.plain rfl) (pqX tk rfl (.plain rfl) (.run (.plain rfl) (zWa (zha v17.2 v19 h20) rfl) (pqX tk rfl (.plain rfl) .nil))))) rfl rfl rfl rfl (by kernel_rfl) ?_;exact sxx 4 hr
 exact sxx 2 hr
theorem Q5a(a0:List zca)(r:Str × Bool)(hr:vRa a0=some r):Run prog 121 [.l zca.pc a0] (.tup [.s r.1,.bo r.2]):=by
 unfold vRa at hr;refine rfx (fn:=f121) func121 fun g0 hg=>?_
 refine csx 9 hr (w0a a0) fun v1 _ hr=>?_
 refine rn tk 5 rfl ?_;refine zGa 1004 (o:=4) (j:=2) 131 2 rfl rfl rfl rfl (hO ?_);refine jq 6 hr [4] [4,90011003] (fun j3=>[(24,.bo j3)]) (fun _=>[]) (fun j3 hr=>?_) (fun j3 hr=>?_)
 .refine bx 4 19 hr (fun c4 hr=>?_) fun c4 hr=>?_
  .exact jx 6 hr
  refine rn tk 2 rfl ?_;obtain ⟨v5,h6,hr⟩:=zaa hr;refine ug rfl rfl rfl<|cl (kla _ _ _ h6) rfl rfl ?_;exact jx 3 hr
 refine ax 0 24 hr (fun hr=>?_) fun hr=>?_
 .exact kx 8 hr
 refine rn tk 5 rfl ?_;refine yLa (d' :=26) (j:=2) (F:=zna.pc) (l:=v1.1.Params) rfl rfl rfl (hO ?_);refine clx 0 hr (Z5a _ _) fun v8 _ hr=>?_
 refine jq 10 hr [7,8] [] (fun j10=>[(10,.bo j10)]) (fun _=>[]) (fun j10 hr=>?_) (fun j10 hr=>?_)
 .refine bx 4 33 hr (fun c11 hr=>?_) fun c11 hr=>?_
  .refine bx 5 38 hr (fun c12 hr=>?_) fun c12 hr=>?_
   .refine rn tk 1 rfl<|ug rfl rfl rfl ?_;refine ctq 0 hr [7,8,38] [] (fun j13=>[(40,.bo j13)]) (fun _=>[]) (fun j13 hr jump4=>?_) (fun j13 hr=>?_)
    .refine iq 0 400000 [7,8,38] (fn:=f89) ⟨func89,rfl,by kernel_rfl⟩ fun T4 ds4=>?_
     refine aq2 14 hr [0,1,7] [499999,400007,400008,400038] (fun s14=>[(8,.i s14)]) (fun _=>[]) (.exit 0) [] [499999,400007,400008,400038] (fun _=>[]) (fun _=>[]) .ret [4] [499999,400007,400008,400038] (fun _=>[]) (fun _=>[]) (fun s14 x18 hr=>?_) (fun b15 hr=>?_) (fun b16 hr=>?_)
     .unfold qEa at hr;refine ax 6 9 hr (fun hr=>?_) fun hr=>?_
      .refine rn tk 15 rfl ?_;obtain ⟨v20,h21,hr⟩:=zaa hr;refine ws tk h21 rfl rfl rfl rfl ?_;refine iq 0 600000 [0,1,7,8] (fn:=f163) ⟨func163,rfl,by kernel_rfl⟩ fun T6 ds6=>?_
       refine jq 5 hr [] [699999,600000,600001,600007,600008,499999,400007,400008,400038] (fun j22=>[(2,.bo j22)]) (fun _=>[]) (fun j22 hr=>?_) (fun j22 hr=>?_)
       .refine bx 4 5 hr (fun c23 hr=>?_) fun c23 hr=>?_
        .exact jx 5 hr
        exact jx 5 hr
       refine ieq 1 (hO ?_);refine ax 3 16 hr (fun hr=>?_) fun hr=>?_
       .exact ox 8 hr
       exact cx 7 hr
      exact ox 2 hr
     .refine ieq 8 ?_;cases hr;exact jump4 _ _ rfl rfl
     refine ieq 2 ?_;cases hr;exact jump4 _ _ rfl rfl
    refine bx 2 42 hr (fun c25 hr=>?_) fun c25 hr=>?_
    .refine rn tk 1 rfl ?_;obtain ⟨v26,h27,hr⟩:=zaa hr;refine ug rfl rfl rfl<|cl (yka _ _ _ h27) rfl rfl ?_;exact jx 4 hr
    exact jx 6 hr
   exact jx 10 hr
  exact jx 15 hr
 refine jq 0 hr [] [] (fun j28=>[(2,.s v8.1),(3,.bo j28)]) (fun _=>[]) (fun j28 hr=>?_) (fun j28 hr=>?_)
 .refine bx 4 49 hr (fun c29 hr=>?_) fun c29 hr=>?_
  .exact jx 5 hr
  exact jx 5 hr
 exact kx 1 hr
def nums(l:List UInt8):List Int:=l.map fun c=>(c.toNat:Int)
theorem VDa(l:List UInt8):Lib.bytesOf (nums l)=l:=by simp[Lib.bytesOf,nums,Function.comp_def]
theorem Jia(l:List UInt8):∀x∈nums l,0<=x/\x < 256:=by
 intro x hx;obtain ⟨c,_,rfl⟩:=jBl.1 hx;have:=c.toNat_lt;omega
theorem jvb(l:List UInt8)(i:Nat)(h:i < l.length):(nums l).getD i 0=(l[i].toNat:Int):=by simp[nums,h]
theorem Qba{g:G}{l:List UInt8}{v:Value}(h:Rel g (.l cU l) v):∃ad cap,v=.slice ad l.length cap/\l.length<=cap/\(l≠ []->∃b off,ad=some ⟨b,off,none⟩/\∀i,i < l.length->g.w.cell? ((⟨b,off,none⟩:Addr).add i)=some (.int .u8 ((nums l).getD i 0))):=by
 cases h with
 | pv h=>
  generalize hE:l.map cU=elems at h;have hEl:elems.length=l.length:=by rw[<-hE];simp
  unfold pL at h;rw[hE]at h;cases h with
  | @sl _ _ a cap size b off val hn h0 hc hz ha hu hcell h=>
   refine ⟨a,cap,by rw[hEl],by omega,fun hne=>⟨b,off,ha (by rw[<-hE];simpa using hne),fun i hi=>?_⟩⟩;have hget:elems[i]? =some (cU l[i]):=by rw[<-hE];simp[hi]
   have hs1:size=1:=by
    have:=hz _ (jAf hget);simpa[cU]using this.symm
   subst hs1;rw[qIa,hcell i (by omega),jvb l i hi];have:=h i 0 _ (.b (.int .u8 (l[i].toNat:Int))) hget rfl;simp only[jCo,jBw]at this;have e:=z6a (g:=g) (.pv this);rw[e]
theorem Z8a(a b:List UInt8)(r:Int)(hr:v0a a b=some r):Run prog 146 [.l cU a,.l cU b] (.i r):=by
 unfold v0a at hr;split at hr
 case isFalse=>cases hr
 rename_i hlen;cases hr;refine ⟨⟨_,_,⟨func146,rfl,by kernel_rfl⟩⟩,fun g vs hw hg ha=>?_⟩;obtain ⟨hsz,hrel⟩:=ha;obtain ⟨l⟩:=vs
 match l,hsz with
 | [x,y],_=>
  have h0:Rel g (.l cU a) x:=hrel 0 _ rfl;have h1:Rel g (.l cU b) y:=hrel 1 _ rfl;obtain ⟨ad,cap,rfl,hcap,hcell⟩:=Qba h0;obtain ⟨ad2,cap2,rfl,hcap2,hcell2⟩:=Qba h1;have hb2:=hlen.2;obtain ⟨b2,o2,rfl,hc2⟩:=hcell2 (by rintro rfl;simp at hb2);refine callsIn_wide.2 ?_
  suffices hs:Calls prog 146 #[.slice ad a.length cap,.slice (some ⟨b2,o2,none⟩) b.length cap2] g.w fun e w' =>e=.returned (.int .i64 (Lib.index a b))/\∃q,w' =g.w.drewN q by
   refine hs.mono ?_;rintro e w' ⟨rfl,q,rfl⟩;exact ⟨⟨g.w.drewN q,g.u,g.loc⟩,_,rfl,rfl,kLb g q,hw,rfl,.pv (.b rfl)⟩
  by_cases hs:a.length < 2
  .have hi:Lib.index a b= -1:=by
    match a,b,hs,hb2 with
    | [],[p,q],_,_=>rfl
    | [c],[p,q],_,_=>simp[Lib.index]
   rw[hi];exact (Tryz.bytes_Index_longer ad (some ⟨b2,o2,none⟩) a.length cap b.length cap2 g.w (by omega) (by omega) (by omega)).mono fun e w' ⟨h1,h2⟩=>⟨h1,0,h2⟩
  obtain ⟨b1,o1,rfl,hc1⟩:=hcell (by rintro rfl;simp at hs);obtain ⟨_,_,m,hm⟩:=hg.1 (1,0) (by simp[wNb]);have:=Tryz.bytes_Index_at ⟨b1,o1,none⟩ ⟨b2,o2,none⟩ a.length cap b.length cap2 (nums a) (nums b) m g.w (by simp[nums]) (by simp[nums]) (Jia a) (Jia b) hc1 hc2 hcap hlen.1 (by omega) hm;rw[VDa,VDa]at this;exact this
theorem kUb{g:G}{s:Str}{v:Value}(h:Rel g (.s s) v):v=.string (strB s):=z6a h
theorem q8b{g:G}{w' :World}(h:Below g.w.heap.size g.w w'):Old (fun _=>False) g ⟨w',g.u,g.loc⟩:=
 ⟨h.os,h.tape,h.output,⟨h.size,fun _ _=>jAq _,fun k i hk _=>by simp only[World.cell?];rw[h.block k hk],fun r hr=>(h.block r (zNa hr)).trans hr⟩,fun k hk _=>⟨h.block k hk,rfl⟩⟩
theorem yla(s t:Str)(r:Str)(hr:kXa s t=some r):Run prog 196 [.s s,.s t] (.s r):=by
 unfold kXa at hr;split at hr
 case isFalse=>cases hr
 rename_i hc;obtain ⟨h1,h2,h3⟩:=hc;cases hr;refine ⟨⟨_,_,⟨func196,rfl,by kernel_rfl⟩⟩,fun g vs hw hg ha=>?_⟩;obtain ⟨hsz,hrel⟩:=ha;obtain ⟨l⟩:=vs
 match l,hsz with
 | [x,y],_=>
  obtain rfl:=kUb (hrel 0 _ rfl);obtain rfl:=kUb (hrel 1 _ rfl);have h116:(prog.info? 261).map (fun i=>(i.zero,i.size))=some (some (.agg (Array.replicate 256 (.bool false))),256):=by kernel_rfl
  refine callsIn_wide.2 ((Any.strings_TrimRight_laid Tryz.lays162 h116 (strB s) (strB t) g.w (by rw[zDa];exact h1) (by rw[zDa];exact h2) (ascii_of_all (by simpa[YVa,strB]using h3))).mono ?_);rintro e w' ⟨rfl,hb⟩;refine ⟨⟨w',g.u,g.loc⟩,_,rfl,(by intros;rfl),q8b hb,fun k hk=>hw k (jBg hb.size hk),rfl,?_⟩;rw[show (strB s).data.toList=s by simp[strB],show (strB t).data.toList=t by simp[strB]];exact .pv (.b rfl)
theorem YEa(a0:Str)(a1:Str)(r:Int)(hr:qFa a0 a1=some r):Run prog 164 [.s a0,.s a1] (.i r):=by
 unfold qFa at hr;refine rfx (fn:=f164) func164 fun g0 hg=>?_
 refine clx 9 hr (yla _ _) fun v1 _ hr=>?_
 refine rn tk 6 rfl ?_;obtain ⟨v3,h4,hr⟩:=zaa hr;refine wc h4 rfl rfl rfl ?_;refine ax 4 7 hr (fun hr=>?_) fun hr=>?_
 .exact kx 8 hr
 refine rn tk 3 rfl ?_;obtain ⟨v6,h7,hr⟩:=zaa hr;refine wc h7 rfl rfl rfl ?_;obtain ⟨v8,h9,hr⟩:=zaa hr;refine wc h9 rfl rfl rfl ?_;refine ax 4 11 hr (fun hr=>?_) fun hr=>?_
 .exact kx 8 hr
 exact kx 9 hr
theorem Qca(a0:List UInt8)(a1:Str)(r:List (List UInt8))(hr:k3a a0 a1=some r):Run prog 122 [.l cU a0,.s a1] (.l (cL cU) r):=by
 unfold k3a at hr;refine rfx (fn:=f122) func122 fun g0 hg=>?_
 refine rn tk 10 rfl ?_;refine zGa 1005 (o:=5) (j:=0) 24 1 rfl rfl rfl rfl (hO ?_);refine iq 12 700000 [2,3,4,5,6] (fn:=f112) ⟨func112,rfl,by kernel_rfl⟩ fun T7 ds7=>?_
 refine ieq 13 (hO ?_);refine rn tk 3 rfl ?_;refine Kia (fn0:=Tryz.f145) 800000 899998 899999 [(2,.ptr 2 0),(3,.ptr 3 0),(4,.ptr 4 0),(5,.ptr 5 0),(6,.ptr 6 0),(11,.fn (.func 145) [] [.ptr 1 0])] rfl rfl rfl ⟨func145,rfl,by kernel_rfl⟩ rfl rfl rfl rfl rfl (.cons rfl (.cons rfl (.cons rfl (.cons rfl (.cons rfl (.cons rfl .nil)))))) fun T8 rb8 L8 ds8 hT8 hLs8 hLp8 hLt8 hLq8 hLa8 hLb8=>hB Wra ?_
 refine aq2 6 hr [0,1] [899999,899998,800002,800003,800004,800005,800006,800011,1,5,3,2] (fun s1=>[(3,.i s1.1)]) (fun s1=>[(6,.cells [.i s1.2.1]),(1005,.row 24 false 1 (List.map (cL cU) s1.2.2)),(4,.cells [.pv (.sl (some true) [])])]) (.exit 0) [] [899999,899998,800002,800003,800004,800005,800006,800011,1,5,3,2] (fun _=>[]) (fun b2=>[(6,.cells [.i b2.1]),(1005,.row 24 false 1 (List.map (cL cU) b2.2)),(4,.cells [.pv (.sl (some true) [])])]) .ret [] [899999,800002,800003,800004,800005,800006,800011,1,5,3,2] (fun _=>[]) (fun b3=>[(899998,.lp rb8 ((stop L8 .ret))),(6,.cells [.i b3.1]),(1005,.row 24 false 1 (List.map (cL cU) b3.2.1)),(4,.cells [.l (cL cU) b3.2.2])]) (fun s1 x5 hr=>?_) (fun b2 hr=>?_) (fun b3 hr=>?_)
 .unfold zXa at hr;refine rn tk 5 rfl<|wn tk rfl rfl rfl ?_;refine ax 3 10 hr (fun hr=>?_) fun hr=>?_
  .refine rn tk 7 rfl ?_;obtain ⟨v7,h8,hr⟩:=zaa hr;refine wlL tk h8 rfl rfl rfl (fun _=>rfl) rfl ?_;refine y9a rfl (Qsa (F:=cU) (l:=([(13:UInt8),(10:UInt8)]:List UInt8)) zva zRa rfl (fun _=>rfl) rfl rfl) zva zRa (z1a rfl) (z1a rfl) rfl (hO ?_);refine clx 0 hr (Z8a _ _) fun v9 _ hr=>?_
   refine rn tk 6 rfl<|wn tk rfl rfl rfl ?_;refine jq 9 hr [0,1,3] [899999,899998,800002,800003,800004,800005,800006,800011,1,6,1005,5,3,2] (fun j11=>[(5,.i j11.1),(6,.i j11.2)]) (fun _=>[(4,.cells [.pv (.sl (some true) [])])]) (fun j11 hr=>?_) (fun j11 hr=>?_)
   .refine ax 6 21 hr (fun hr=>?_) fun hr=>?_
    .exact jx 11 hr
    exact jx 1 hr
   refine rn tk 8 rfl ?_;obtain ⟨v13,h14,hr⟩:=zaa hr;refine wlLH tk h14 rfl rfl rfl rfl (fun _=>rfl) rfl<|wb tk rfl rfl rfl ?_;refine wJa (ps:=[12,13]) (args:=[.i s1.1,.s v13]) 800000 1200000 899998 1299999 [(2,.ptr 2 0),(3,.ptr 3 0),(4,.ptr 4 0),(5,.ptr 5 0),(6,.ptr 6 0),(11,.fn (.func 145) [] [.ptr 1 0])] [(0,.fn (.yield rb8) [] []),(1,.ptr 1 0),(6,.i j11.2)] (z1a rfl) rfl rfl hLs8 hLp8 hLt8 hLq8 hLa8 hLb8 hT8 rfl rfl rfl rfl (.cons rfl (.cons rfl (.cons rfl .nil))) (.cons rfl (.cons rfl (.cons rfl (.cons rfl (.cons rfl (.cons rfl .nil)))))) fun T12 ds12 hT12=>hB Kka ?_
   refine rn tk 8 rfl ?_;refine asgK kPa zAa rfl (hB Kja ?_);refine clx 5 hr (YEa _ _) fun v15 _ hr=>?_
   refine ax 10 18 hr (fun hr=>?_) fun hr=>?_
   .refine rn tk 3 rfl ?_;refine rndK (fr' :=[]) (fr'' :=[(0,.fn (.yield rb8) [] []),(1,.ptr 1 0),(6,.i j11.2)]) (σ'' :=[(899999,.sus g0.w.heap.size ds8),(899998,.lp rb8 L8),(800002,.hold (.ptr 2 0) (T8.getD 2 undef)),(800003,.hold (.ptr 3 0) (T8.getD 3 undef)),(800004,.hold (.ptr 4 0) (T8.getD 4 undef)),(800005,.hold (.ptr 5 0) (T8.getD 5 undef)),(800006,.hold (.ptr 6 0) (T8.getD 6 undef)),(800011,.hold (.fn (.func 145) [] [.ptr 1 0]) (T8.getD 11 undef)),(1,.cells [.l cU a0]),(6,.cells [.i s1.2.1]),(1005,.row 24 false 1 (List.map (cL cU) s1.2.2)),(5,.cells [.hs 1005 0]),(4,.cells [.pv (.sl (some true) [])]),(3,.cells [.s a1]),(2,.cells [.l cU a0])]) .off zAa rfl (.cons rfl (.cons rfl (.cons rfl .nil))) rfl (zba rfl (zba rfl (zba rfl (zba rfl (zba rfl (zba rfl (zba rfl (zba rfl (zba rfl (zba rfl (zba rfl (zba rfl (zba rfl (zba rfl (zba rfl zLa))))))))))))))) (hO ?_);exact cx 11 hr
   refine jq 2 hr [2,4,5,6,7,8,9] [1299999,1200000,1200001,1200006,899999,899998,800002,800003,800004,800005,800006,800011,1,6,5,3,2] (fun _=>[]) (fun j18=>[(1005,.row 24 false 1 (List.map (cL cU) j18)),(4,.cells [.pv (.sl (some true) [])])]) (fun j18 hr=>?_) (fun j18 hr=>?_)
   .refine ax 6 20 hr (fun hr=>?_) fun hr=>?_
    .obtain ⟨v20,h21,hr⟩:=zaa hr;refine dq 0 9 [] [(6,.i ((max s1.2.1 ((w64 (s1.1 - 2)))))),(7,.l cU v20),(8,.l (cL cU) (([v20]:List (List UInt8))))] .nil (.cons rfl rfl (qxa (vmb rfl rfl)) (.cons rfl rfl (qxa (vkb (F:=cU) rfl rfl rfl zva zRa (fun _=>rfl) h21)) (.cons rfl rfl (KTa (F:=(cL cU)) (l:=([v20]:List (List UInt8))) ZDa zva rfl (fun _=>rfl) rfl rfl) .nil))) ?_ mixed;obtain ⟨v22,h23,hr⟩:=zaa hr;refine wa tk h23 rfl rfl rfl rfl (fun _=>rfl) rfl rfl ?_;exact jx 2 hr
    exact jx 1 hr
   refine ax 7 32 hr (fun hr=>?_) fun hr=>?_
   .refine rn tk 6 rfl ?_;refine Qra (o:=4) (j:=0) (F:=(cL cU)) (l:=j18) rfl rfl rfl (hC ?_);refine rn tk 3 rfl ?_;refine rndK (fr' :=[]) (fr'' :=[(0,.fn (.yield rb8) [] []),(1,.ptr 1 0),(6,.i j11.2)]) (σ'' :=[(899999,.sus g0.w.heap.size ds8),(899998,.lp rb8 ((stop L8 .ret))),(800002,.hold (.ptr 2 0) (T8.getD 2 undef)),(800003,.hold (.ptr 3 0) (T8.getD 3 undef)),(800004,.hold (.ptr 4 0) (T8.getD 4 undef)),(800005,.hold (.ptr 5 0) (T8.getD 5 undef)),(800006,.hold (.ptr 6 0) (T8.getD 6 undef)),(800011,.hold (.fn (.func 145) [] [.ptr 1 0]) (T8.getD 11 undef)),(1,.cells [.l cU a0]),(6,.cells [.i s1.2.1]),(1005,.row 24 false 1 (List.map (cL cU) j18)),(5,.cells [.hs 1005 0]),(4,.cells [.l (cL cU) j18]),(3,.cells [.s a1]),(2,.cells [.l cU a0])]) .ret zAa rfl (.cons rfl (.cons rfl (.cons rfl .nil))) rfl (zba rfl (zba rfl (zba rfl (zba rfl (zba rfl (zba rfl (zba rfl (zba rfl (zba rfl (zba rfl (zba rfl (zba rfl (zba rfl (zba rfl (zba rfl zLa))))))))))))))) (hO ?_);exact ox 7 hr
   refine rn tk 9 rfl<|wn tk rfl rfl rfl<|wq (ev_min rfl rfl) rfl rfl rfl<|rn tk 3 rfl ?_;refine rndK (fr' :=[]) (fr'' :=[(0,.fn (.yield rb8) [] []),(1,.ptr 1 0),(6,.i j11.2)]) (σ'' :=[(899999,.sus g0.w.heap.size ds8),(899998,.lp rb8 L8),(800002,.hold (.ptr 2 0) (T8.getD 2 undef)),(800003,.hold (.ptr 3 0) (T8.getD 3 undef)),(800004,.hold (.ptr 4 0) (T8.getD 4 undef)),(800005,.hold (.ptr 5 0) (T8.getD 5 undef)),(800006,.hold (.ptr 6 0) (T8.getD 6 undef)),(800011,.hold (.fn (.func 145) [] [.ptr 1 0]) (T8.getD 11 undef)),(1,.cells [.l cU a0]),(6,.cells [.i ((min ((w64 ((w64 (s1.1+(v13.length:Int)))+2))) ((a0.length:Int))))]),(1005,.row 24 false 1 (List.map (cL cU) j18)),(5,.cells [.hs 1005 0]),(4,.cells [.pv (.sl (some true) [])]),(3,.cells [.s a1]),(2,.cells [.l cU a0])]) .off zAa rfl (.cons rfl (.cons rfl (.cons rfl .nil))) rfl (zba rfl (zba rfl (zba rfl (zba rfl (zba rfl (zba rfl (zba rfl (zba rfl (zba rfl (zba rfl (zba rfl (zba rfl (zba rfl (zba rfl (zba rfl zLa))))))))))))))) (hO ?_);exact cx 11 hr
  exact ox 2 hr
 .refine rn tk 1 rfl ?_;refine itrK (fr' :=[]) (L' :=L8) (fr'' :=[(2,.ptr 2 0),(3,.ptr 3 0),(4,.ptr 4 0),(5,.ptr 5 0),(6,.ptr 6 0),(11,.fn (.func 145) [] [.ptr 1 0])]) (σ'' :=[(1,.cells [.l cU a0]),(6,.cells [.i b2.1]),(1005,.row 24 false 1 (List.map (cL cU) b2.2)),(5,.cells [.hs 1005 0]),(4,.cells [.pv (.sl (some true) [])]),(3,.cells [.s a1]),(2,.cells [.l cU a0])]) (.inr rfl) zAa rfl (.cons rfl (.cons rfl (.cons rfl (.cons rfl (.cons rfl (.cons rfl .nil)))))) rfl (zba rfl (zba rfl (zba rfl (zba rfl (zba rfl (zba rfl (zba rfl zLa))))))) rfl<|.off (hA ?_);refine jq 2 hr [4,5] [5] (fun _=>[]) (fun j25=>[(1005,.row 24 false 1 (List.map (cL cU) j25)),(4,.cells [.pv (.sl (some true) [])])]) (fun j25 hr=>?_) (fun j25 hr=>?_)
  .refine ax 6 43 hr (fun hr=>?_) fun hr=>?_
   .obtain ⟨v27,h28,hr⟩:=zaa hr;refine dq 0 5 [] [(3,.l cU v27),(4,.l (cL cU) (([v27]:List (List UInt8))))] .nil (.cons rfl rfl (qxa (w3b (F:=cU) rfl rfl zva zRa (fun _=>rfl) h28)) (.cons rfl rfl (KTa (F:=(cL cU)) (l:=([v27]:List (List UInt8))) ZDa zva rfl (fun _=>rfl) rfl rfl) .nil)) ?_ mixed;obtain ⟨v29,h30,hr⟩:=zaa hr;refine wa tk h30 rfl rfl rfl rfl (fun _=>rfl) rfl rfl ?_;exact jx 2 hr
   exact jx 1 hr
  refine rn tk 6 rfl ?_;refine Qra (o:=4) (j:=0) (F:=(cL cU)) (l:=j25) rfl rfl rfl (hC ?_);exact kx 1 hr
 refine rn tk 1 rfl ?_;refine itrK (fr' :=[]) (L' :=(stop L8 .ret)) (fr'' :=[(2,.ptr 2 0),(3,.ptr 3 0),(4,.ptr 4 0),(5,.ptr 5 0),(6,.ptr 6 0),(11,.fn (.func 145) [] [.ptr 1 0])]) (σ'' :=[(1,.cells [.l cU a0]),(6,.cells [.i b3.1]),(1005,.row 24 false 1 (List.map (cL cU) b3.2.1)),(5,.cells [.hs 1005 0]),(4,.cells [.l (cL cU) b3.2.2]),(3,.cells [.s a1]),(2,.cells [.l cU a0])]) (.inl rfl) zAa rfl (.cons rfl (.cons rfl (.cons rfl (.cons rfl (.cons rfl (.cons rfl .nil)))))) rfl (zba rfl (zba rfl (zba rfl (zba rfl (zba rfl (zba rfl (zba rfl zLa))))))) rfl<|.jump (hC ?_);exact kx 3 hr
theorem wBa(a0:List zca)(a1:List UInt8)(a2:Int)(r:List (List UInt8))(hr:qRa a0 a1 a2=some r):Run prog 85 [.l zca.pc a0,.l cU a1,.i a2] (.l (cL cU) r):=by
 unfold qRa at hr;refine rfx (fn:=f85) func85 fun g0 hg=>?_
 refine clx 8 hr (Q5a _) fun v1 _ hr=>?_
 refine jq 8 hr [1,7] [] (fun j3=>[(19,.bo j3)]) (fun _=>[]) (fun j3 hr=>?_) (fun j3 hr=>?_)
 .refine bx 4 16 hr (fun c4 hr=>?_) fun c4 hr=>?_
  .exact jx 4 hr
  exact jx 4 hr
 refine ax 0 19 hr (fun hr=>?_) fun hr=>?_
 .exact kx 7 hr
 refine clx 6 hr (Qca _ _) fun v6 _ hr=>?_
 exact kx 4 hr
theorem Q6a(a0:q5a)(r:Int)(hr:q9a a0=some r):Run prog 72 [.agg [.l zca.pc a0.part.Fields,.l cU a0.part.Body,.pv (.sl none []),.i a0.depth]] (.i r):=by
 unfold q9a at hr;refine rfx (fn:=f72) func72 fun g0 hg=>?_
 refine clx 19 hr (qWa _) fun v1 _ hr=>?_
 refine clx 7 hr (zha _) fun v3 _ hr=>?_
 refine ax 2 12 hr (fun hr=>?_) fun hr=>?_
 .exact kx 9 hr
 refine rn tk 7 rfl<|wq (VCa rfl qLa.u) rfl rfl rfl<|rn tk 11 rfl<|wn tk rfl rfl rfl ?_;refine ax 3 24 hr (fun hr=>?_) fun hr=>?_
 .exact kx 7 hr
 refine clx 7 hr (jua _) fun v7 _ hr=>?_
 refine ax 9 29 hr (fun hr=>?_) fun hr=>?_
 .exact kx 8 hr
 refine clx 11 hr (wBa _ _ _) fun v10 _ hr=>?_
 refine wn tk rfl rfl rfl ?_;refine ax 3 39 hr (fun hr=>?_) fun hr=>?_
 .exact kx 7 hr
 exact kx 8 hr
theorem Yha(a0:zna)(r:Str)(hr:yQa a0=some r):Run prog 117 [.agg [.s a0.Name,.s a0.Value]] (.s r):=by
 unfold yQa at hr;refine rfx (fn:=Tryz.f117) func117 fun g0 hg=>?_
 refine clx 11 hr (wza _) fun v1 _ hr=>?_
 refine ax 2 8 hr (fun hr=>?_) fun hr=>?_
 .refine rn tk 4 rfl ?_;obtain ⟨v4,h5,hr⟩:=zaa hr;refine wc h5 rfl rfl rfl ?_;obtain ⟨v6,h7,hr⟩:=zaa hr;refine wc h7 rfl rfl rfl<|rn tk 2 rfl ?_;obtain ⟨v8,h9,hr⟩:=zaa hr;refine wc h9 rfl rfl rfl ?_;exact kx 5 hr
 refine jq 3 hr [1] [1] (fun j10=>[(24,.bo j10)]) (fun _=>[]) (fun j10 hr=>?_) (fun j10 hr=>?_)
 .refine bx 6 20 hr (fun c11 hr=>?_) fun c11 hr=>?_
  .refine rn tk 2 rfl<|ug rfl rfl rfl ?_;refine ctq 0 hr [1,20] [1] (fun j12=>[(23,.bo j12)]) (fun _=>[]) (fun j12 hr jump4=>?_) (fun j12 hr=>?_)
   .refine iq 0 400000 [1,20] (fn:=f89) ⟨func89,rfl,by kernel_rfl⟩ fun T4 ds4=>?_
    refine aq2 14 hr [0,1,7] [499999,400001,400020,1] (fun s13=>[(8,.i s13)]) (fun _=>[]) (.exit 0) [] [499999,400001,400020,1] (fun _=>[]) (fun _=>[]) .ret [4] [499999,400001,400020,1] (fun _=>[]) (fun _=>[]) (fun s13 x17 hr=>?_) (fun b14 hr=>?_) (fun b15 hr=>?_)
    .unfold KFa at hr;refine ax 6 9 hr (fun hr=>?_) fun hr=>?_
     .refine rn tk 15 rfl ?_;obtain ⟨v19,h20,hr⟩:=zaa hr;refine ws tk h20 rfl rfl rfl rfl ?_;refine iq 0 600000 [0,1,7,8] (fn:=f154) ⟨func154,rfl,by kernel_rfl⟩ fun T6 ds6=>?_
      refine jq 5 hr [] [699999,600000,600001,600007,600008,499999,400001,400020,1] (fun j21=>[(2,.bo j21)]) (fun _=>[]) (fun j21 hr=>?_) (fun j21 hr=>?_)
      .refine bx 4 5 hr (fun c22 hr=>?_) fun c22 hr=>?_
       .exact jx 5 hr
       exact jx 5 hr
      refine ieq 1 (hO ?_);refine ax 3 16 hr (fun hr=>?_) fun hr=>?_
      .exact ox 8 hr
      exact cx 7 hr
     exact ox 2 hr
    .refine ieq 8 ?_;cases hr;exact jump4 _ _ rfl rfl
    refine ieq 2 ?_;cases hr;exact jump4 _ _ rfl rfl
   exact jx 2 hr
  exact jx 5 hr
 refine ax 0 24 hr (fun hr=>?_) fun hr=>?_
 .refine rn tk 1 rfl ?_;obtain ⟨v25,h26,hr⟩:=zaa hr;obtain ⟨v27,h28,hr⟩:=zaa hr;cases hr
 refine rn tk 12 rfl ?_;cases hr
theorem yWa(a0:kEa)(r:Str × zoa)(hr:qQa a0=some r):Run prog 79 [.agg [.s a0.Type_,.s a0.Sub,.l zna.pc a0.Params]] (.tup [.s r.1,.agg [.i r.2.Code,.i r.2.Index]]):=by
 unfold qQa at hr;refine rfx (fn:=f79) func79 fun g0 hg=>?_
 refine clx 11 hr (wAa _) fun v1 _ hr=>?_
 refine clx 7 hr (zha _) fun v3 _ hr=>?_
 refine ax 2 11 hr (fun hr=>?_) fun hr=>?_
 .refine dq 1 2 [] [] .nil .nil ?_ mixed;exact kx 5 hr
 refine rn tk 6 rfl ?_;obtain ⟨v6,h7,hr⟩:=zaa hr;refine wc h7 rfl rfl rfl<|rn tk 2 rfl ?_;obtain ⟨v8,h9,hr⟩:=zaa hr;refine wc h9 rfl rfl rfl<|rn tk 8 rfl<|wn tk rfl rfl rfl ?_;refine aq1 4 hr [3,20,21] [3] (fun s10=>[(5,.s s10.1),(22,.i s10.2)]) (fun _=>[]) (.exit 0) [3] [3] (fun b11=>[(5,.s b11)]) (fun _=>[]) (fun s10 x12 hr=>?_) (fun b11 hr=>?_)
 .unfold vQa at hr;refine ax 6 23 hr (fun hr=>?_) fun hr=>?_
  .refine rn tk 6 rfl ?_;obtain ⟨v14,h15,hr⟩:=zaa hr;refine wi tk h15 rfl rfl rfl rfl rfl ?_;refine clx 8 hr (Yha _) fun v16 _ hr=>?_
   obtain ⟨v18,h19,hr⟩:=zaa hr;refine wc h19 rfl rfl rfl ?_;exact cx 8 hr
  exact ox 2 hr
 refine ax 10 33 hr (fun hr=>?_) fun hr=>?_
 .refine clx 2 hr (zga _ _) fun v21 _ hr=>?_
  exact kx 6 hr
 refine clx 5 hr zla fun v23 _ hr=>?_
 exact kx 5 hr
theorem Q7a(a0:zpa)(r:Int)(hr:qpa a0=some r):Run prog 108 [.agg [.l zca.pc a0.Fields,.l cU a0.Body,.l (zpa.pcn 0) a0.Parts]] (.i r):=by
 unfold qpa at hr;refine rfx (fn:=f108) func108 fun g0 hg=>?_
 refine csx 10 hr (w0a a0.Fields) fun v1 _ hr=>?_
 refine rn tk 5 rfl ?_;refine zGa 1003 (o:=3) (j:=2) 131 2 rfl rfl rfl rfl (hO ?_);refine jq 6 hr [1,3,4] [3,90011003,1] (fun j3=>[(31,.bo j3)]) (fun _=>[]) (fun j3 hr=>?_) (fun j3 hr=>?_)
 .refine rn tk 3 rfl<|wn tk rfl rfl rfl ?_;refine bx 2 22 hr (fun c4 hr=>?_) fun c4 hr=>?_
  .exact jx 10 hr
  refine bx 4 26 hr (fun c5 hr=>?_) fun c5 hr=>?_
  .exact jx 6 hr
  refine rn tk 2 rfl ?_;obtain ⟨v6,h7,hr⟩:=zaa hr;refine ug rfl rfl rfl<|cl (kla _ _ _ h7) rfl rfl ?_;exact jx 3 hr
 refine ax 0 31 hr (fun hr=>?_) fun hr=>?_
 .exact kx 7 hr
 refine rn tk 5 rfl ?_;refine yLa (d' :=33) (j:=2) (F:=zna.pc) (l:=v1.1.Params) rfl rfl rfl (hO ?_);refine clx 0 hr (Z5a _ _) fun v9 _ hr=>?_
 refine rn tk 13 rfl ?_;refine yLa (d' :=39) (j:=2) (F:=zna.pc) (l:=v1.1.Params) rfl rfl rfl (hO ?_);refine clx 0 hr (yWa _) fun v11 _ hr=>?_
 refine jq 9 hr [] [] (fun j13=>[(68,.bo j13)]) (fun _=>[]) (fun j13 hr=>?_) (fun j13 hr=>?_)
 .refine bx 3 44 hr (fun c14 hr=>?_) fun c14 hr=>?_
  .exact jx 25 hr
  refine rn tk 2 rfl<|ug rfl rfl rfl<|wnh tk rfl rfl rfl rfl ?_;refine bx 3 50 hr (fun c15 hr=>?_) fun c15 hr=>?_
  .exact jx 19 hr
  refine rn tk 1 rfl ?_;obtain ⟨v16,h17,hr⟩:=zaa hr;refine ug rfl rfl rfl<|cl (zha _ _ h17) rfl rfl ?_;refine bx 2 54 hr (fun c18 hr=>?_) fun c18 hr=>?_
  .exact jx 15 hr
  refine rn tk 4 rfl ?_;obtain ⟨v19,h20,hr⟩:=zaa hr;refine ug rfl rfl rfl<|wi tk h20 rfl rfl rfl rfl rfl ?_;refine bx 5 64 hr (fun c21 hr=>?_) fun c21 hr=>?_
  .exact jx 5 hr
  exact jx 5 hr
 refine ax 0 68 hr (fun hr=>?_) fun hr=>?_
 .exact kx 7 hr
 exact kx 8 hr
theorem Q8a(a0:q5a)(r:Int)(hr:vSa a0=some r):Run prog 72 [.agg [.l zca.pc a0.part.Fields,.l cU a0.part.Body,.l (zpa.pcn 0) a0.part.Parts,.i a0.depth]] (.i r):=by
 unfold vSa at hr;refine rfx (fn:=f72) func72 fun g0 hg=>?_
 refine clx 19 hr (qWa _) fun v1 _ hr=>?_
 refine clx 7 hr (zha _) fun v3 _ hr=>?_
 refine ax 2 12 hr (fun hr=>?_) fun hr=>?_
 .exact kx 9 hr
 refine rn tk 7 rfl<|wn tk rfl rfl rfl ?_;refine ax 3 18 hr (fun hr=>?_) fun hr=>?_
 .refine clx 3 hr (Q7a _) fun v7 _ hr=>?_
  exact kx 5 hr
 refine rn tk 7 rfl<|wn tk rfl rfl rfl ?_;refine ax 3 24 hr (fun hr=>?_) fun hr=>?_
 .exact kx 7 hr
 refine clx 7 hr (jua _) fun v10 _ hr=>?_
 refine ax 9 29 hr (fun hr=>?_) fun hr=>?_
 .exact kx 8 hr
 refine clx 11 hr (wBa _ _ _) fun v13 _ hr=>?_
 refine wn tk rfl rfl rfl ?_;refine ax 3 39 hr (fun hr=>?_) fun hr=>?_
 .exact kx 7 hr
 exact kx 8 hr
theorem yma(a0:zpa)(r:zoa)(hr:z8a a0=some r):Run prog 43 [.agg [.l zca.pc a0.Fields,.l cU a0.Body,.l (zpa.pcn 0) a0.Parts]] (.agg [.i r.Code,.i r.Index]):=by
 unfold z8a at hr;refine rfx (fn:=f43) func43 fun g0 hg=>?_
 refine iq 16 1100000 [1,2,3] (fn:=f71) ⟨func71,rfl,by kernel_rfl⟩ fun T11 ds11=>?_
 refine rn tk 2 rfl<|wo (wea (k:=1) 1001 rfl rfl rfl rfl rfl) rfl ?_;refine ieq 10 (hO ?_);refine rn tk 3 rfl ?_;refine Kia (fn0:=f106) 1200000 1299998 1299999 [(1,.ptr 1 0),(2,.ptr 2 0),(3,.ptr 3 0),(10,.fn (.func 106) [] [.ptr 1001 0])] rfl rfl rfl ⟨func106,rfl,by kernel_rfl⟩ rfl rfl rfl rfl rfl (.cons rfl (.cons rfl (.cons rfl (.cons rfl .nil)))) fun T12 rb12 L12 ds12 hT12 hLs12 hLp12 hLt12 hLq12 hLa12 hLb12=>hB Wra ?_
 refine rn tk 2 rfl<|wo (wea (k:=2) 1002 rfl rfl rfl rfl rfl) rfl<|rn tk 4 rfl<|wo (jxa (k:=3) 1003 rfl jCa (.inl rfl) rfl rfl rfl) rfl ?_;refine iq 17 1300000 [] (fn:=f107) ⟨func107,rfl,by kernel_rfl⟩ fun T13 ds13=>?_
 refine rn tk 14 rfl ?_;refine wJa (ps:=[11,12]) (args:=[.i 0,.agg [.l zca.pc a0.Fields,.l cU a0.Body,.l (zpa.pcn 0) a0.Parts,.i 0]]) 1200000 1400000 1299998 1499999 [(1,.ptr 1 0),(2,.ptr 2 0),(3,.ptr 3 0),(10,.fn (.func 106) [] [.ptr 1001 0])] [(1,.i 0),(3,.ptr 1003 0),(4,.ptr 4 0),(5,.ptr 5 0)] (z1a rfl) rfl rfl hLs12 hLp12 hLt12 hLq12 hLa12 hLb12 hT12 rfl rfl rfl rfl (.cons rfl (.cons rfl (.cons rfl (.cons rfl .nil)))) (.cons rfl (.cons rfl (.cons rfl (.cons rfl .nil)))) fun T14 ds14 hT14=>hB Kka ?_
 refine rn tk 6 rfl<|wo (jxa (k:=5) 1005 rfl yna (.inr ⟨rfl,rfl⟩) rfl rfl rfl) rfl<|rn tk 2 rfl ?_;refine asgK kPa zAa rfl (hB Kja ?_);refine rn tk 21 rfl ?_;refine rndK (fr' :=[]) (fr'' :=[(1,.i 0),(3,.ptr 1003 0),(4,.ptr 4 0),(5,.ptr 5 0)]) (σ'' :=[(1005,.cells [.l zca.pc a0.Fields,.l cU a0.Body,.l (zpa.pcn 0) a0.Parts,.i 0]),(5,.cells [.l zca.pc a0.Fields,.l cU a0.Body,.l (zpa.pcn 0) a0.Parts]),(1399999,.sus g0.w.heap.size ds13),(4,.cells [.fn (.func 107) [] [.ptr 1002 0,.ptr 1003 0,.ptr 4 0]]),(1003,.cells [.i 0]),(1002,.cells [.fn (.yield rb12) [] []]),(1299999,.sus g0.w.heap.size ds12),(1299998,.lp rb12 L12),(1200001,.hold (.ptr 1 0) (T12.getD 1 undef)),(1200002,.hold (.ptr 2 0) (T12.getD 2 undef)),(1200003,.hold (.ptr 3 0) (T12.getD 3 undef)),(1200010,.hold (.fn (.func 106) [] [.ptr 1001 0]) (T12.getD 10 undef)),(1001,.cells [.l zca.pc a0.Fields,.l cU a0.Body,.l (zpa.pcn 0) a0.Parts]),(3,.cells [.bo false]),(2,.cells [.i 0,.i 0]),(1,.cells [.l zca.pc a0.Fields,.l cU a0.Body,.l (zpa.pcn 0) a0.Parts])]) .off zAa rfl (.cons rfl (.cons rfl (.cons rfl (.cons rfl .nil)))) rfl (zba rfl (zba rfl (zba rfl (zba rfl (zba rfl (zba rfl (zba rfl (zba rfl (zba rfl (zba rfl (zba rfl (zba rfl (zba rfl (zba rfl (zba rfl (zba rfl zLa)))))))))))))))) (hO ?_);refine rn tk 18 rfl<|wn tk rfl rfl rfl ?_;refine aq2 4 hr [1,4,20,21] [1399999,4,1002,1299999,1299998,1200001,1200002,1200003,1200010,1001,2,1] (fun s1=>[(22,.i s1.1)]) (fun s1=>[(1003,.cells [.i s1.2.1]),(3,.cells [.bo s1.2.2])]) (.exit 0) [] [1399999,1299999,1299998,1200001,1200002,1200003,1200010,1001,2,1] (fun _=>[]) (fun b2=>[(3,.cells [.bo b2])]) .ret [] [1399999,1299999,1200001,1200002,1200003,1200010,1001,1] (fun _=>[(7,.bo false)]) (fun b3=>[(1299998,.lp rb12 ((stop L12 .ret))),(3,.cells [.bo b3.1]),(2,.cells [.i b3.2.1,.i b3.2.2])]) (fun s1 x5 hr=>?_) (fun b2 hr=>?_) (fun b3 hr=>?_)
 .unfold kqa at hr;refine ax 6 23 hr (fun hr=>?_) fun hr=>?_
  .refine rn tk 6 rfl ?_;obtain ⟨v7,h8,hr⟩:=zaa hr;refine wi tk h8 rfl rfl rfl rfl rfl ?_;refine iq 11 1900000 [1,4,20,21,22] (fn:=f107) ⟨func107,rfl,by kernel_rfl⟩ fun T19 ds19=>?_
   refine rn tk 14 rfl ?_;refine wJa (ps:=[11,12]) (args:=[.i s1.2.1,.agg [.l zca.pc v7.Fields,.l cU v7.Body,.l (zpa.pcn 0) ([]),.i ((w64 (0+1)))]]) 1200000 2000000 1299998 2099999 [(1,.ptr 1 0),(2,.ptr 2 0),(3,.ptr 3 0),(10,.fn (.func 106) [] [.ptr 1001 0])] [(1,.i ((w64 (0+1)))),(3,.ptr 1003 0),(4,.ptr 4 0),(5,.ptr 5 0)] (z1a rfl) rfl rfl hLs12 hLp12 hLt12 hLq12 hLa12 hLb12 hT12 rfl rfl rfl rfl (.cons rfl (.cons rfl (.cons rfl (.cons rfl .nil)))) (.cons rfl (.cons rfl (.cons rfl (.cons rfl .nil)))) fun T20 ds20 hT20=>hB Kka ?_
   refine rn tk 6 rfl<|wo (jxa (k:=5) 1005 rfl yna (.inr ⟨rfl,rfl⟩) rfl rfl rfl) rfl<|rn tk 2 rfl ?_;refine asgK kPa zAa rfl (hB Kja ?_);refine ax 8 14 hr (fun hr=>?_) fun hr=>?_
   .refine clx 2 hr (zga _ _) fun v10 _ hr=>?_
    refine rn tk 6 rfl ?_;refine rndK (fr' :=[]) (fr'' :=[(1,.i ((w64 (0+1)))),(3,.ptr 1003 0),(4,.ptr 4 0),(5,.ptr 5 0)]) (σ'' :=[(1005,.cells [.l zca.pc v7.Fields,.l cU v7.Body,.l (zpa.pcn 0) ([]),.i ((w64 (0+1)))]),(5,.cells [.l zca.pc v7.Fields,.l cU v7.Body,.l (zpa.pcn 0) ([])]),(1999999,.sus g0.w.heap.size ds19),(1900001,.hold (.i 0) (T19.getD 1 undef)),(1900004,.hold (.ptr 4 0) (T19.getD 4 undef)),(1900020,.hold (.l (zpa.pcn 0) a0.Parts) (T19.getD 20 undef)),(1900021,.hold (.i ((a0.Parts.length:Int))) (T19.getD 21 undef)),(1900022,.hold (.i s1.1) (T19.getD 22 undef)),(9,.cells [.l zca.pc v7.Fields,.l cU v7.Body,.l (zpa.pcn 0) ([])]),(1399999,.sus g0.w.heap.size ds13),(4,.cells [.fn (.func 107) [] [.ptr 1002 0,.ptr 1003 0,.ptr 4 0]]),(1003,.cells [.i s1.2.1]),(1002,.cells [.fn (.yield rb12) [] []]),(1299999,.sus g0.w.heap.size ds12),(1299998,.lp rb12 ((stop L12 .ret))),(1200001,.hold (.ptr 1 0) (T12.getD 1 undef)),(1200002,.hold (.ptr 2 0) (T12.getD 2 undef)),(1200003,.hold (.ptr 3 0) (T12.getD 3 undef)),(1200010,.hold (.fn (.func 106) [] [.ptr 1001 0]) (T12.getD 10 undef)),(1001,.cells [.l zca.pc a0.Fields,.l cU a0.Body,.l (zpa.pcn 0) a0.Parts]),(3,.cells [.bo s1.2.2]),(2,.cells [.i v10.Code,.i v10.Index]),(1,.cells [.l zca.pc a0.Fields,.l cU a0.Body,.l (zpa.pcn 0) a0.Parts])]) .ret zAa rfl (.cons rfl (.cons rfl (.cons rfl (.cons rfl .nil)))) rfl (zba rfl (zba rfl (zba rfl (zba rfl (zba rfl (zba rfl (zba rfl (zba rfl (zba rfl (zba rfl (zba rfl (zba rfl (zba rfl (zba rfl (zba rfl (zba rfl (zba rfl (zba rfl (zba rfl (zba rfl (zba rfl (zba rfl (zba rfl zLa))))))))))))))))))))))) (hO ?_);refine ieq 11 (hO ?_);exact ox 12 hr
   refine bx 5 17 hr (fun c12 hr=>?_) fun c12 hr=>?_
   .refine rn tk 7 rfl ?_;refine rndK (fr' :=[]) (fr'' :=[(1,.i ((w64 (0+1)))),(3,.ptr 1003 0),(4,.ptr 4 0),(5,.ptr 5 0)]) (σ'' :=[(1005,.cells [.l zca.pc v7.Fields,.l cU v7.Body,.l (zpa.pcn 0) ([]),.i ((w64 (0+1)))]),(5,.cells [.l zca.pc v7.Fields,.l cU v7.Body,.l (zpa.pcn 0) ([])]),(1999999,.sus g0.w.heap.size ds19),(1900001,.hold (.i 0) (T19.getD 1 undef)),(1900004,.hold (.ptr 4 0) (T19.getD 4 undef)),(1900020,.hold (.l (zpa.pcn 0) a0.Parts) (T19.getD 20 undef)),(1900021,.hold (.i ((a0.Parts.length:Int))) (T19.getD 21 undef)),(1900022,.hold (.i s1.1) (T19.getD 22 undef)),(9,.cells [.l zca.pc v7.Fields,.l cU v7.Body,.l (zpa.pcn 0) ([])]),(1399999,.sus g0.w.heap.size ds13),(4,.cells [.fn (.func 107) [] [.ptr 1002 0,.ptr 1003 0,.ptr 4 0]]),(1003,.cells [.i s1.2.1]),(1002,.cells [.fn (.yield rb12) [] []]),(1299999,.sus g0.w.heap.size ds12),(1299998,.lp rb12 L12),(1200001,.hold (.ptr 1 0) (T12.getD 1 undef)),(1200002,.hold (.ptr 2 0) (T12.getD 2 undef)),(1200003,.hold (.ptr 3 0) (T12.getD 3 undef)),(1200010,.hold (.fn (.func 106) [] [.ptr 1001 0]) (T12.getD 10 undef)),(1001,.cells [.l zca.pc a0.Fields,.l cU a0.Body,.l (zpa.pcn 0) a0.Parts]),(3,.cells [.bo true]),(2,.cells [.i 0,.i 0]),(1,.cells [.l zca.pc a0.Fields,.l cU a0.Body,.l (zpa.pcn 0) a0.Parts])]) .off zAa rfl (.cons rfl (.cons rfl (.cons rfl (.cons rfl .nil)))) rfl (zba rfl (zba rfl (zba rfl (zba rfl (zba rfl (zba rfl (zba rfl (zba rfl (zba rfl (zba rfl (zba rfl (zba rfl (zba rfl (zba rfl (zba rfl (zba rfl (zba rfl (zba rfl (zba rfl (zba rfl (zba rfl (zba rfl (zba rfl zLa))))))))))))))))))))))) (hO ?_);refine rn tk 18 rfl<|wq (VCa rfl qLa.u) rfl rfl rfl ?_;refine aq1 4 hr [1,4,20,21] [1999999,1900001,1900004,1900020,1900021,1900022,1399999,4,1003,1002,1299999,1299998,1200001,1200002,1200003,1200010,1001,3,2,1] (fun s13=>[(22,.i s13)]) (fun _=>[]) (.exit 0) [] [1999999,1900001,1900004,1900020,1900021,1900022,1399999,4,1002,1299999,1299998,1200001,1200002,1200003,1200010,1001,3,2,1] (fun _=>[]) (fun b14=>[(1003,.cells [.i b14])]) (fun s13 x15 hr=>?_) (fun b14 hr=>?_)
    .unfold yua at hr;refine ax 6 23 hr (fun hr=>?_) fun hr=>?_
     .refine rn tk 6 rfl ?_;cases hr
     exact ox 2 hr
    refine ieq 8 (hO ?_);exact cx 11 hr
   refine rn tk 7 rfl ?_;refine rndK (fr' :=[]) (fr'' :=[(1,.i ((w64 (0+1)))),(3,.ptr 1003 0),(4,.ptr 4 0),(5,.ptr 5 0)]) (σ'' :=[(1005,.cells [.l zca.pc v7.Fields,.l cU v7.Body,.l (zpa.pcn 0) ([]),.i ((w64 (0+1)))]),(5,.cells [.l zca.pc v7.Fields,.l cU v7.Body,.l (zpa.pcn 0) ([])]),(1999999,.sus g0.w.heap.size ds19),(1900001,.hold (.i 0) (T19.getD 1 undef)),(1900004,.hold (.ptr 4 0) (T19.getD 4 undef)),(1900020,.hold (.l (zpa.pcn 0) a0.Parts) (T19.getD 20 undef)),(1900021,.hold (.i ((a0.Parts.length:Int))) (T19.getD 21 undef)),(1900022,.hold (.i s1.1) (T19.getD 22 undef)),(9,.cells [.l zca.pc v7.Fields,.l cU v7.Body,.l (zpa.pcn 0) ([])]),(1399999,.sus g0.w.heap.size ds13),(4,.cells [.fn (.func 107) [] [.ptr 1002 0,.ptr 1003 0,.ptr 4 0]]),(1003,.cells [.i s1.2.1]),(1002,.cells [.fn (.yield rb12) [] []]),(1299999,.sus g0.w.heap.size ds12),(1299998,.lp rb12 L12),(1200001,.hold (.ptr 1 0) (T12.getD 1 undef)),(1200002,.hold (.ptr 2 0) (T12.getD 2 undef)),(1200003,.hold (.ptr 3 0) (T12.getD 3 undef)),(1200010,.hold (.fn (.func 106) [] [.ptr 1001 0]) (T12.getD 10 undef)),(1001,.cells [.l zca.pc a0.Fields,.l cU a0.Body,.l (zpa.pcn 0) a0.Parts]),(3,.cells [.bo (decide (8 < (w64 (0+1))))]),(2,.cells [.i 0,.i 0]),(1,.cells [.l zca.pc a0.Fields,.l cU a0.Body,.l (zpa.pcn 0) a0.Parts])]) .off zAa rfl (.cons rfl (.cons rfl (.cons rfl (.cons rfl .nil)))) rfl (zba rfl (zba rfl (zba rfl (zba rfl (zba rfl (zba rfl (zba rfl (zba rfl (zba rfl (zba rfl (zba rfl (zba rfl (zba rfl (zba rfl (zba rfl (zba rfl (zba rfl (zba rfl (zba rfl (zba rfl (zba rfl (zba rfl (zba rfl zLa))))))))))))))))))))))) (hO ?_);refine rn tk 18 rfl<|wq (VCa rfl qLa.u) rfl rfl rfl ?_;refine aq1 4 hr [1,4,20,21] [1999999,1900001,1900004,1900020,1900021,1900022,1399999,4,1003,1002,1299999,1299998,1200001,1200002,1200003,1200010,1001,3,2,1] (fun s17=>[(22,.i s17)]) (fun _=>[]) (.exit 0) [] [1999999,1900001,1900004,1900020,1900021,1900022,1399999,4,1002,1299999,1299998,1200001,1200002,1200003,1200010,1001,2,1] (fun _=>[]) (fun b18=>[(1003,.cells [.i b18.1]),(3,.cells [.bo b18.2])]) (fun s17 x19 hr=>?_) (fun b18 hr=>?_)
   .unfold vAa at hr;refine ax 6 23 hr (fun hr=>?_) fun hr=>?_
    .refine rn tk 6 rfl ?_;cases hr
    exact ox 2 hr
   refine ieq 8 (hO ?_);exact cx 11 hr
  exact ox 2 hr
 .refine ieq 8 (hO ?_);refine rn tk 1 rfl ?_;refine itrK (fr' :=[]) (L' :=L12) (fr'' :=[(1,.ptr 1 0),(2,.ptr 2 0),(3,.ptr 3 0),(10,.fn (.func 106) [] [.ptr 1001 0])]) (σ'' :=[(1001,.cells [.l zca.pc a0.Fields,.l cU a0.Body,.l (zpa.pcn 0) a0.Parts]),(3,.cells [.bo b2]),(2,.cells [.i 0,.i 0]),(1,.cells [.l zca.pc a0.Fields,.l cU a0.Body,.l (zpa.pcn 0) a0.Parts])]) (.inr rfl) zAa rfl (.cons rfl (.cons rfl (.cons rfl (.cons rfl .nil)))) rfl (zba rfl (zba rfl (zba rfl (zba rfl zLa)))) rfl<|.off (hA ?_);refine ax 8 22 hr (fun hr=>?_) fun hr=>?_
  .refine clx 2 hr (zga _ _) fun v22 _ hr=>?_
   exact kx 5 hr
  refine iq 6 3100000 [2] (fn:=f71) ⟨func71,rfl,by kernel_rfl⟩ fun T31 ds31=>?_
  refine rn tk 2 rfl<|wo (wea (k:=1) 2001 rfl rfl rfl rfl rfl) rfl ?_;refine ieq 10 (hO ?_);refine rn tk 3 rfl ?_;refine Kia (fn0:=f106) 3200000 3299998 3299999 [(2,.ptr 2 0),(25,.fn (.func 106) [] [.ptr 2001 0])] rfl rfl rfl ⟨func106,rfl,by kernel_rfl⟩ rfl rfl rfl rfl rfl (.cons rfl (.cons rfl .nil)) fun T32 rb32 L32 ds32 hT32 hLs32 hLp32 hLt32 hLq32 hLa32 hLb32=>hB Wra ?_
  refine rn tk 2 rfl<|wo (wea (k:=2) 1002 rfl rfl rfl rfl rfl) rfl<|rn tk 4 rfl<|wo (jxa (k:=3) 1003 rfl jCa (.inl rfl) rfl rfl rfl) rfl ?_;refine iq 17 3300000 [] (fn:=f107) ⟨func107,rfl,by kernel_rfl⟩ fun T33 ds33=>?_
  refine rn tk 14 rfl ?_;refine wJa (ps:=[26,27]) (args:=[.i 0,.agg [.l zca.pc a0.Fields,.l cU a0.Body,.l (zpa.pcn 0) a0.Parts,.i 0]]) 3200000 3400000 3299998 3499999 [(2,.ptr 2 0),(25,.fn (.func 106) [] [.ptr 2001 0])] [(1,.i 0),(3,.ptr 1003 0),(4,.ptr 4 0),(5,.ptr 5 0)] (z1a rfl) rfl rfl hLs32 hLp32 hLt32 hLq32 hLa32 hLb32 hT32 rfl rfl rfl rfl (.cons rfl (.cons rfl (.cons rfl (.cons rfl .nil)))) (.cons rfl (.cons rfl .nil)) fun T34 ds34 hT34=>hB Kka ?_
  refine rn tk 9 rfl ?_;refine asgK kPa zAa rfl (hB Kja ?_);refine clx 4 hr (Q8a _) fun v24 _ hr=>?_
  refine ax 9 31 hr (fun hr=>?_) fun hr=>?_
  .refine clx 4 hr (zga _ _) fun v27 _ hr=>?_
   refine rn tk 5 rfl ?_;refine rndK (fr' :=[]) (fr'' :=[(1,.i 0),(3,.ptr 1003 0),(4,.ptr 4 0),(5,.ptr 5 0)]) (σ'' :=[(7,.cells [.l zca.pc a0.Fields,.l cU a0.Body,.l (zpa.pcn 0) a0.Parts,.i 0]),(5,.cells [.l zca.pc a0.Fields,.l cU a0.Body,.l (zpa.pcn 0) a0.Parts]),(3399999,.sus g0.w.heap.size ds33),(4,.cells [.fn (.func 107) [] [.ptr 1002 0,.ptr 1003 0,.ptr 4 0]]),(1003,.cells [.i 0]),(1002,.cells [.fn (.yield rb32) [] []]),(3299999,.sus g0.w.heap.size ds32),(3299998,.lp rb32 ((stop L32 .ret))),(3200002,.hold (.ptr 2 0) (T32.getD 2 undef)),(3200025,.hold (.fn (.func 106) [] [.ptr 2001 0]) (T32.getD 25 undef)),(2001,.cells [.l zca.pc a0.Fields,.l cU a0.Body,.l (zpa.pcn 0) a0.Parts]),(1001,.cells [.l zca.pc a0.Fields,.l cU a0.Body,.l (zpa.pcn 0) a0.Parts]),(3,.cells [.bo b2]),(2,.cells [.i v27.Code,.i v27.Index]),(1,.cells [.l zca.pc a0.Fields,.l cU a0.Body,.l (zpa.pcn 0) a0.Parts])]) .ret zAa rfl (.cons rfl (.cons rfl (.cons rfl (.cons rfl .nil)))) rfl (zba rfl (zba rfl (zba rfl (zba rfl (zba rfl (zba rfl (zba rfl (zba rfl (zba rfl (zba rfl (zba rfl (zba rfl (zba rfl (zba rfl (zba rfl zLa))))))))))))))) (hO ?_);refine ieq 11 (hO ?_);refine rn tk 1 rfl ?_;refine itrK (fr' :=[]) (L' :=(stop L32 .ret)) (fr'' :=[(2,.ptr 2 0),(25,.fn (.func 106) [] [.ptr 2001 0])]) (σ'' :=[(7,.cells [.l zca.pc a0.Fields,.l cU a0.Body,.l (zpa.pcn 0) a0.Parts,.i 0]),(5,.cells [.l zca.pc a0.Fields,.l cU a0.Body,.l (zpa.pcn 0) a0.Parts]),(4,.cells [.fn (.func 107) [] [.ptr 1002 0,.ptr 1003 0,.ptr 4 0]]),(1003,.cells [.i 0]),(1002,.cells [.fn (.yield rb32) [] []]),(2001,.cells [.l zca.pc a0.Fields,.l cU a0.Body,.l (zpa.pcn 0) a0.Parts]),(1001,.cells [.l zca.pc a0.Fields,.l cU a0.Body,.l (zpa.pcn 0) a0.Parts]),(3,.cells [.bo b2]),(2,.cells [.i v27.Code,.i v27.Index]),(1,.cells [.l zca.pc a0.Fields,.l cU a0.Body,.l (zpa.pcn 0) a0.Parts])]) (.inr rfl) zAa rfl (.cons rfl (.cons rfl .nil)) rfl (zba rfl (zba rfl (zba rfl (zba rfl (zba rfl (zba rfl (zba rfl (zba rfl (zba rfl (zba rfl zLa)))))))))) rfl<|.jump (hC ?_);exact kx 3 hr
  refine rn tk 2 rfl ?_;refine rndK (fr' :=[]) (fr'' :=[(1,.i 0),(3,.ptr 1003 0),(4,.ptr 4 0),(5,.ptr 5 0)]) (σ'' :=[(7,.cells [.l zca.pc a0.Fields,.l cU a0.Body,.l (zpa.pcn 0) a0.Parts,.i 0]),(5,.cells [.l zca.pc a0.Fields,.l cU a0.Body,.l (zpa.pcn 0) a0.Parts]),(3399999,.sus g0.w.heap.size ds33),(4,.cells [.fn (.func 107) [] [.ptr 1002 0,.ptr 1003 0,.ptr 4 0]]),(1003,.cells [.i 0]),(1002,.cells [.fn (.yield rb32) [] []]),(3299999,.sus g0.w.heap.size ds32),(3299998,.lp rb32 L32),(3200002,.hold (.ptr 2 0) (T32.getD 2 undef)),(3200025,.hold (.fn (.func 106) [] [.ptr 2001 0]) (T32.getD 25 undef)),(2001,.cells [.l zca.pc a0.Fields,.l cU a0.Body,.l (zpa.pcn 0) a0.Parts]),(1001,.cells [.l zca.pc a0.Fields,.l cU a0.Body,.l (zpa.pcn 0) a0.Parts]),(3,.cells [.bo b2]),(2,.cells [.i 0,.i 0]),(1,.cells [.l zca.pc a0.Fields,.l cU a0.Body,.l (zpa.pcn 0) a0.Parts])]) .off zAa rfl (.cons rfl (.cons rfl (.cons rfl (.cons rfl .nil)))) rfl (zba rfl (zba rfl (zba rfl (zba rfl (zba rfl (zba rfl (zba rfl (zba rfl (zba rfl (zba rfl (zba rfl (zba rfl (zba rfl (zba rfl (zba rfl zLa))))))))))))))) (hO ?_);refine rn tk 18 rfl<|wn tk rfl rfl rfl ?_;refine aq2 4 hr [1,4,20,21] [3399999,4,1002,3299999,3299998,3200002,3200025,2001,2] (fun s29=>[(22,.i s29.1)]) (fun s29=>[(1003,.cells [.i s29.2])]) (.exit 0) [] [3399999,3299999,3299998,3200002,3200025,2001,2] (fun _=>[]) (fun _=>[]) .ret [] [3399999,3299999,3200002,3200025,2001] (fun _=>[(7,.bo false)]) (fun b31=>[(3299998,.lp rb32 ((stop L32 .ret))),(2,.cells [.i b31.1,.i b31.2])]) (fun s29 x33 hr=>?_) (fun b30 hr=>?_) (fun b31 hr=>?_)
  .unfold kra at hr;refine ax 6 23 hr (fun hr=>?_) fun hr=>?_
   .refine rn tk 6 rfl ?_;obtain ⟨v35,h36,hr⟩:=zaa hr;refine wi tk h36 rfl rfl rfl rfl rfl ?_;refine iq 11 3900000 [1,4,20,21,22] (fn:=f107) ⟨func107,rfl,by kernel_rfl⟩ fun T39 ds39=>?_
    refine rn tk 14 rfl ?_;refine wJa (ps:=[26,27]) (args:=[.i s29.2,.agg [.l zca.pc v35.Fields,.l cU v35.Body,.l (zpa.pcn 0) ([]),.i ((w64 (0+1)))]]) 3200000 4000000 3299998 4099999 [(2,.ptr 2 0),(25,.fn (.func 106) [] [.ptr 2001 0])] [(1,.i ((w64 (0+1)))),(3,.ptr 1003 0),(4,.ptr 4 0),(5,.ptr 5 0)] (z1a rfl) rfl rfl hLs32 hLp32 hLt32 hLq32 hLa32 hLb32 hT32 rfl rfl rfl rfl (.cons rfl (.cons rfl (.cons rfl (.cons rfl .nil)))) (.cons rfl (.cons rfl .nil)) fun T40 ds40 hT40=>hB Kka ?_
    refine rn tk 9 rfl ?_;refine asgK kPa zAa rfl (hB Kja ?_);refine clx 4 hr (Q6a _) fun v37 _ hr=>?_
    refine ax 9 31 hr (fun hr=>?_) fun hr=>?_
    .refine clx 4 hr (zga _ _) fun v40 _ hr=>?_
     refine rn tk 5 rfl ?_;refine rndK (fr' :=[]) (fr'' :=[(1,.i ((w64 (0+1)))),(3,.ptr 1003 0),(4,.ptr 4 0),(5,.ptr 5 0)]) (σ'' :=[(7,.cells [.l zca.pc v35.Fields,.l cU v35.Body,.l (zpa.pcn 0) ([]),.i ((w64 (0+1)))]),(5,.cells [.l zca.pc v35.Fields,.l cU v35.Body,.l (zpa.pcn 0) ([])]),(3999999,.sus g0.w.heap.size ds39),(3900001,.hold (.i 0) (T39.getD 1 undef)),(3900004,.hold (.ptr 4 0) (T39.getD 4 undef)),(3900020,.hold (.l (zpa.pcn 0) a0.Parts) (T39.getD 20 undef)),(3900021,.hold (.i ((a0.Parts.length:Int))) (T39.getD 21 undef)),(3900022,.hold (.i s29.1) (T39.getD 22 undef)),(9,.cells [.l zca.pc v35.Fields,.l cU v35.Body,.l (zpa.pcn 0) ([])]),(3399999,.sus g0.w.heap.size ds33),(4,.cells [.fn (.func 107) [] [.ptr 1002 0,.ptr 1003 0,.ptr 4 0]]),(1003,.cells [.i s29.2]),(1002,.cells [.fn (.yield rb32) [] []]),(3299999,.sus g0.w.heap.size ds32),(3299998,.lp rb32 ((stop L32 .ret))),(3200002,.hold (.ptr 2 0) (T32.getD 2 undef)),(3200025,.hold (.fn (.func 106) [] [.ptr 2001 0]) (T32.getD 25 undef)),(2001,.cells [.l zca.pc a0.Fields,.l cU a0.Body,.l (zpa.pcn 0) a0.Parts]),(2,.cells [.i v40.Code,.i v40.Index])]) .ret zAa rfl (.cons rfl (.cons rfl (.cons rfl (.cons rfl .nil)))) rfl (zba rfl (zba rfl (zba rfl (zba rfl (zba rfl (zba rfl (zba rfl (zba rfl (zba rfl (zba rfl (zba rfl (zba rfl (zba rfl (zba rfl (zba rfl (zba rfl (zba rfl (zba rfl (zba rfl zLa))))))))))))))))))) (hO ?_);refine ieq 11 (hO ?_);exact ox 12 hr
    refine rn tk 2 rfl ?_;refine rndK (fr' :=[]) (fr'' :=[(1,.i ((w64 (0+1)))),(3,.ptr 1003 0),(4,.ptr 4 0),(5,.ptr 5 0)]) (σ'' :=[(7,.cells [.l zca.pc v35.Fields,.l cU v35.Body,.l (zpa.pcn 0) ([]),.i ((w64 (0+1)))]),(5,.cells [.l zca.pc v35.Fields,.l cU v35.Body,.l (zpa.pcn 0) ([])]),(3999999,.sus g0.w.heap.size ds39),(3900001,.hold (.i 0) (T39.getD 1 undef)),(3900004,.hold (.ptr 4 0) (T39.getD 4 undef)),(3900020,.hold (.l (zpa.pcn 0) a0.Parts) (T39.getD 20 undef)),(3900021,.hold (.i ((a0.Parts.length:Int))) (T39.getD 21 undef)),(3900022,.hold (.i s29.1) (T39.getD 22 undef)),(9,.cells [.l zca.pc v35.Fields,.l cU v35.Body,.l (zpa.pcn 0) ([])]),(3399999,.sus g0.w.heap.size ds33),(4,.cells [.fn (.func 107) [] [.ptr 1002 0,.ptr 1003 0,.ptr 4 0]]),(1003,.cells [.i s29.2]),(1002,.cells [.fn (.yield rb32) [] []]),(3299999,.sus g0.w.heap.size ds32),(3299998,.lp rb32 L32),(3200002,.hold (.ptr 2 0) (T32.getD 2 undef)),(3200025,.hold (.fn (.func 106) [] [.ptr 2001 0]) (T32.getD 25 undef)),(2001,.cells [.l zca.pc a0.Fields,.l cU a0.Body,.l (zpa.pcn 0) a0.Parts]),(2,.cells [.i 0,.i 0])]) .off zAa rfl (.cons rfl (.cons rfl (.cons rfl (.cons rfl .nil)))) rfl (zba rfl (zba rfl (zba rfl (zba rfl (zba rfl (zba rfl (zba rfl (zba rfl (zba rfl (zba rfl (zba rfl (zba rfl (zba rfl (zba rfl (zba rfl (zba rfl (zba rfl (zba rfl (zba rfl zLa))))))))))))))))))) (hO ?_);refine rn tk 18 rfl<|wq (VCa rfl qLa.u) rfl rfl rfl ?_;refine aq1 4 hr [1,4,20,21] [3999999,3900001,3900004,3900020,3900021,3900022,3399999,4,1003,1002,3299999,3299998,3200002,3200025,2001,2] (fun s42=>[(22,.i s42)]) (fun _=>[]) (.exit 0) [] [3999999,3900001,3900004,3900020,3900021,3900022,3399999,4,1002,3299999,3299998,3200002,3200025,2001,2] (fun _=>[]) (fun b43=>[(1003,.cells [.i b43])]) (fun s42 x44 hr=>?_) (fun b43 hr=>?_)
    .unfold vBa at hr;refine ax 6 23 hr (fun hr=>?_) fun hr=>?_
     .refine rn tk 6 rfl ?_;cases hr
     exact ox 2 hr
    refine ieq 8 (hO ?_);exact cx 11 hr
   exact ox 2 hr
  .refine ieq 8 (hO ?_);refine rn tk 1 rfl ?_;refine itrK (fr' :=[]) (L' :=L32) (fr'' :=[(2,.ptr 2 0),(25,.fn (.func 106) [] [.ptr 2001 0])]) (σ'' :=[(2001,.cells [.l zca.pc a0.Fields,.l cU a0.Body,.l (zpa.pcn 0) a0.Parts]),(2,.cells [.i 0,.i 0])]) (.inr rfl) zAa rfl (.cons rfl (.cons rfl .nil)) rfl (zba rfl (zba rfl zLa)) rfl<|.off (hA ?_);refine clx 4 hr zla fun v46 _ hr=>?_
   exact kx 4 hr
  refine ieq 2 (hO ?_);refine rn tk 1 rfl ?_;refine itrK (fr' :=[]) (L' :=(stop L32 .ret)) (fr'' :=[(2,.ptr 2 0),(25,.fn (.func 106) [] [.ptr 2001 0])]) (σ'' :=[(2001,.cells [.l zca.pc a0.Fields,.l cU a0.Body,.l (zpa.pcn 0) a0.Parts]),(2,.cells [.i b31.1,.i b31.2])]) (.inr rfl) zAa rfl (.cons rfl (.cons rfl .nil)) rfl (zba rfl (zba rfl zLa)) rfl<|.jump (hC ?_);exact kx 3 hr
 refine ieq 2 (hO ?_);refine rn tk 1 rfl ?_;refine itrK (fr' :=[]) (L' :=(stop L12 .ret)) (fr'' :=[(1,.ptr 1 0),(2,.ptr 2 0),(3,.ptr 3 0),(10,.fn (.func 106) [] [.ptr 1001 0])]) (σ'' :=[(1001,.cells [.l zca.pc a0.Fields,.l cU a0.Body,.l (zpa.pcn 0) a0.Parts]),(3,.cells [.bo b3.1]),(2,.cells [.i b3.2.1,.i b3.2.2]),(1,.cells [.l zca.pc a0.Fields,.l cU a0.Body,.l (zpa.pcn 0) a0.Parts])]) (.inr rfl) zAa rfl (.cons rfl (.cons rfl (.cons rfl (.cons rfl .nil)))) rfl (zba rfl (zba rfl (zba rfl (zba rfl zLa)))) rfl<|.jump (hC ?_);exact kx 3 hr
theorem Wfa(a0:List UInt8)(c0_0:Str)(r:Bool)(hr:yga a0 c0_0=some r):Run prog 111 [.l cU a0,.ep [pS c0_0]] (.bo r):=by
 unfold yga at hr;refine rfx (fn:=f111) func111 fun g0 hg=>?_
 refine iq 9 500000 [1,3] (fn:=f112) ⟨func112,rfl,by kernel_rfl⟩ fun T5 ds5=>?_
 refine ieq 13 (hO ?_);refine rn tk 3 rfl ?_;refine Kia (fn0:=Tryz.f145) 600000 699998 699999 [(1,.ep [pS c0_0]),(3,.ptr 3 0),(7,.fn (.func 145) [] [.ptr 1 0])] rfl rfl rfl ⟨func145,rfl,by kernel_rfl⟩ rfl rfl rfl rfl rfl (.cons rfl (.cons rfl (.cons rfl .nil))) fun T6 rb6 L6 ds6 hT6 hLs6 hLp6 hLt6 hLq6 hLa6 hLb6=>hB Wra ?_
 refine aq2 6 hr [0,1] [699999,699998,600001,600003,600007,1,3] (fun s1=>[(3,.i s1)]) (fun _=>[]) (.exit 0) [] [699999,699998,600001,600003,600007,1,3] (fun _=>[]) (fun _=>[]) .ret [] [699999,600001,600003,600007,1] (fun _=>[]) (fun _=>[(699998,.lp rb6 ((stop L6 .ret))),(3,.cells [.bo true])]) (fun s1 x5 hr=>?_) (fun b2 hr=>?_) (fun b3 hr=>?_)
 .unfold kpa at hr;refine rn tk 5 rfl<|wn tk rfl rfl rfl ?_;refine ax 3 10 hr (fun hr=>?_) fun hr=>?_
  .refine rn tk 7 rfl ?_;obtain ⟨v7,h8,hr⟩:=zaa hr;refine wlL tk h8 rfl rfl rfl (fun _=>rfl) rfl ?_;refine y9a rfl (Qsa (F:=cU) (l:=([(13:UInt8),(10:UInt8)]:List UInt8)) zva zRa rfl (fun _=>rfl) rfl rfl) zva zRa (z1a rfl) (z1a rfl) rfl (hO ?_);refine clx 0 hr (Z8a _ _) fun v9 _ hr=>?_
   refine rn tk 6 rfl<|wn tk rfl rfl rfl ?_;refine jq 9 hr [0,1,3] [699999,699998,600001,600003,600007,1,3] (fun j11=>[(5,.i j11.1),(6,.i j11.2)]) (fun _=>[]) (fun j11 hr=>?_) (fun j11 hr=>?_)
   .refine ax 6 21 hr (fun hr=>?_) fun hr=>?_
    .exact jx 11 hr
    exact jx 1 hr
   refine rn tk 8 rfl ?_;obtain ⟨v13,h14,hr⟩:=zaa hr;refine wlLH tk h14 rfl rfl rfl rfl (fun _=>rfl) rfl<|wb tk rfl rfl rfl ?_;refine wJa (ps:=[8,9]) (args:=[.i s1,.s v13]) 600000 800000 699998 899999 [(1,.ep [pS c0_0]),(3,.ptr 3 0),(7,.fn (.func 145) [] [.ptr 1 0])] [(0,.fn (.yield rb6) [] []),(1,.ptr 1 0),(6,.i j11.2)] (z1a rfl) rfl rfl hLs6 hLp6 hLt6 hLq6 hLa6 hLb6 hT6 rfl rfl rfl rfl (.cons rfl (.cons rfl (.cons rfl .nil))) (.cons rfl (.cons rfl (.cons rfl .nil))) fun T8 ds8 hT8=>hB Kka ?_
   refine rn tk 3 rfl ?_;refine asgK kPa zAa rfl (hB Kja ?_);refine rn tk 5 rfl ?_;obtain ⟨v15,h16,hr⟩:=zaa hr;refine wc h16 rfl rfl rfl ?_;refine clx 0 hr (yja _ _) fun v17 _ hr=>?_
   refine ax 2 13 hr (fun hr=>?_) fun hr=>?_
   .refine rn tk 7 rfl ?_;refine rndK (fr' :=[]) (fr'' :=[(0,.fn (.yield rb6) [] []),(1,.ptr 1 0),(6,.i j11.2)]) (σ'' :=[(699999,.sus g0.w.heap.size ds6),(699998,.lp rb6 ((stop L6 .ret))),(600001,.hold (.ep [pS c0_0]) (T6.getD 1 undef)),(600003,.hold (.ptr 3 0) (T6.getD 3 undef)),(600007,.hold (.fn (.func 145) [] [.ptr 1 0]) (T6.getD 7 undef)),(1,.cells [.l cU a0]),(3,.cells [.bo true])]) .ret zAa rfl (.cons rfl (.cons rfl (.cons rfl .nil))) rfl (zba rfl (zba rfl (zba rfl (zba rfl (zba rfl (zba rfl (zba rfl zLa))))))) (hO ?_);exact ox 7 hr
   refine rn tk 2 rfl ?_;refine rndK (fr' :=[]) (fr'' :=[(0,.fn (.yield rb6) [] []),(1,.ptr 1 0),(6,.i j11.2)]) (σ'' :=[(699999,.sus g0.w.heap.size ds6),(699998,.lp rb6 L6),(600001,.hold (.ep [pS c0_0]) (T6.getD 1 undef)),(600003,.hold (.ptr 3 0) (T6.getD 3 undef)),(600007,.hold (.fn (.func 145) [] [.ptr 1 0]) (T6.getD 7 undef)),(1,.cells [.l cU a0]),(3,.cells [.bo false])]) .off zAa rfl (.cons rfl (.cons rfl (.cons rfl .nil))) rfl (zba rfl (zba rfl (zba rfl (zba rfl (zba rfl (zba rfl (zba rfl zLa))))))) (hO ?_);exact cx 11 hr
  exact ox 2 hr
 .refine rn tk 1 rfl ?_;refine itrK (fr' :=[]) (L' :=L6) (fr'' :=[(1,.ep [pS c0_0]),(3,.ptr 3 0),(7,.fn (.func 145) [] [.ptr 1 0])]) (σ'' :=[(1,.cells [.l cU a0]),(3,.cells [.bo false])]) (.inr rfl) zAa rfl (.cons rfl (.cons rfl (.cons rfl .nil))) rfl (zba rfl (zba rfl zLa)) rfl<|.off (hA ?_);exact kx 8 hr
 refine rn tk 1 rfl ?_;refine itrK (fr' :=[]) (L' :=(stop L6 .ret)) (fr'' :=[(1,.ep [pS c0_0]),(3,.ptr 3 0),(7,.fn (.func 145) [] [.ptr 1 0])]) (σ'' :=[(1,.cells [.l cU a0]),(3,.cells [.bo true])]) (.inl rfl) zAa rfl (.cons rfl (.cons rfl (.cons rfl .nil))) rfl (zba rfl (zba rfl zLa)) rfl<|.jump (hC ?_);exact kx 3 hr
theorem YFa(a0:List (List UInt8))(r:Str)(hr:jJa a0=some r):Run prog 76 [.l (cL cU) a0] (.s r):=by
 unfold jJa at hr;refine rfx (fn:=f76) func76 fun g0 hg=>?_
 refine aq1 11 hr [0] [] (fun s1=>[(3,.i s1)]) (fun _=>[]) .ret [] [] (fun b2=>[(2,.s b2)]) (fun _=>[]) (fun s1 x3 hr=>?_) (fun b2 hr=>?_)
 .unfold wua at hr;refine clx 5 hr (q4a _) fun v4 _ hr=>?_
  obtain ⟨v6,h7,hr⟩:=zaa hr;refine wc h7 rfl rfl rfl<|rn tk 7 rfl ?_;refine qtb 4 (cs:=[pS v6]) rfl rfl (hO ?_);refine iq 1 300000 [0,3,4] (fn:=f110) ⟨func110,rfl,by kernel_rfl⟩ fun T3 ds3=>?_
  refine ctq 9 hr [] [399999,300000,300003,300004] (fun j8=>[(7,.i j8)]) (fun _=>[]) (fun j8 hr jump4=>?_) (fun j8 hr=>?_)
  .refine iq 0 400000 [] (fn:=Tryz.f144) ⟨func144,rfl,by kernel_rfl⟩ fun T4 ds4=>?_
   refine rn tk 9 rfl<|wn tk rfl rfl rfl ?_;refine aq2 4 hr [0,1,7] [499999,399999,300000,300003,300004] (fun s9=>[(8,.i s9)]) (fun _=>[]) (.exit 0) [] [499999,399999,300000,300003,300004] (fun _=>[]) (fun _=>[]) .ret [] [499999,399999,300000,300003,300004] (fun b11=>[(4,.i b11)]) (fun _=>[]) (fun s9 x13 hr=>?_) (fun b10 hr=>?_) (fun b11 hr=>?_)
   .unfold wta at hr;refine ax 6 9 hr (fun hr=>?_) fun hr=>?_
    .refine rn tk 15 rfl ?_;obtain ⟨v15,h16,hr⟩:=zaa hr;refine wi tk h16 rfl rfl rfl rfl rfl<|rn tk 1 rfl ?_;obtain ⟨v17,h18,hr⟩:=zaa hr;refine wo (w8b (d:=16) rfl rfl (yvb rfl (Wfa v15 v6 v17 h18) rfl)) rfl ?_;refine ax 2 16 hr (fun hr=>?_) fun hr=>?_
     .exact ox 9 hr
     exact cx 7 hr
    exact ox 2 hr
   .refine ieq 8 ?_;cases hr;exact jump4 _ _ rfl rfl
   refine ieq 2 ?_;cases hr;exact jump4 _ _ rfl rfl
  refine ieq 5 (hO ?_);refine ax 9 15 hr (fun hr=>?_) fun hr=>?_
  .exact ox 9 hr
  exact cx 8 hr
 exact kx 1 hr
theorem Qda(a0:zpa)(r:(List zca) × (List UInt8))(hr:wsa a0=some r):Run prog 44 [.agg [.l zca.pc a0.Fields,.l cU a0.Body,.pv (.sl none [])]] (.tup [.l zca.pc r.1,.l cU r.2]):=by
 unfold wsa at hr;refine rfx (fn:=f44) func44 fun g0 hg=>?_
 refine rn tk 12 rfl<|wq (VCa rfl qLa.u) rfl rfl rfl ?_;refine dq 5 5 [] [] .nil .nil ?_ mixed;exact kx 5 hr
theorem Yia(a0:List zca)(a1:List UInt8)(r:List UInt8)(hr:wSa a0 a1=some r):Run prog 75 [.l zca.pc a0,.l cU a1] (.l cU r):=by
 unfold wSa at hr;refine rfx (fn:=f75) func75 fun g0 hg=>?_
 refine rn tk 8 rfl ?_;refine kVa 1005 (d:=5) 5 1 rfl rfl rfl (hO ?_);refine rn tk 6 rfl<|wn tk rfl rfl rfl ?_;refine aq1 4 hr [1,5,12,13] [] (fun s1=>[(14,.i s1.1)]) (fun s1=>[(1005,.row 5 false 1 (List.map cU s1.2))]) (.exit 0) [1,5] [] (fun _=>[]) (fun b2=>[(1005,.row 5 false 1 (List.map cU b2))]) (fun s1 x3 hr=>?_) (fun b2 hr=>?_)
 .unfold KHa at hr;refine ax 6 15 hr (fun hr=>?_) fun hr=>?_
  .refine rn tk 6 rfl ?_;obtain ⟨v5,h6,hr⟩:=zaa hr;refine wi tk h6 rfl rfl rfl rfl rfl ?_;refine clx 11 hr (yBa _ _) fun v7 _ hr=>?_
   refine rn tk 11 rfl<|wn tk rfl rfl rfl ?_;refine aq1 4 hr [1,5,12,13,14,26,27] [] (fun s9=>[(28,.i s9.1)]) (fun s9=>[(1005,.row 5 false 1 (List.map cU s9.2))]) (.exit 2) [1,5,12,13,14] [] (fun _=>[]) (fun b10=>[(1005,.row 5 false 1 (List.map cU b10))]) (fun s9 x11 hr=>?_) (fun b10 hr=>?_)
   .unfold KGa at hr;refine ax 6 29 hr (fun hr=>?_) fun hr=>?_
    .refine rn tk 6 rfl ?_;obtain ⟨v13,h14,hr⟩:=zaa hr;refine wi tk h14 rfl rfl rfl rfl rfl<|rn tk 7 rfl ?_;obtain ⟨v15,h16,hr⟩:=zaa hr;refine wo (y8a (k:=34) (l:=s9.2) (s:=v13) (lim:=140737488355328) rfl rfl rfl rfl zva zJa.u zRa rfl h16) rfl<|wz cU ([(13:UInt8),(10:UInt8)]:List UInt8) tk rfl rfl (fun _=>rfl) rfl rfl rfl ?_;obtain ⟨v17,h18,hr⟩:=zaa hr;refine wa tk h18 rfl rfl rfl rfl (fun _=>rfl) rfl rfl ?_;exact cx 8 hr
    exact ox 2 hr
   exact cx 7 hr
  exact ox 2 hr
 refine rn tk 5 rfl<|wz cU ([(13:UInt8),(10:UInt8)]:List UInt8) tk rfl rfl (fun _=>rfl) rfl rfl rfl ?_;obtain ⟨v19,h20,hr⟩:=zaa hr;refine wa tk h20 rfl rfl rfl rfl (fun _=>rfl) rfl rfl<|rn tk 1 rfl ?_;obtain ⟨v21,h22,hr⟩:=zaa hr;refine wa tk h22 rfl rfl rfl rfl (fun _=>rfl) rfl rfl<|rn tk 3 rfl ?_;refine qwa (d:=4) (F:=cU) (l:=v21) rfl rfl (hC ?_);exact kx 1 hr
theorem kTa(a0:List zca)(r:List zca)(hr:zja a0=some r):RunO prog 45 [.l zca.pc a0] 38 2 (List.map zca.pc r):=by
 unfold zja at hr;refine rfO (fn:=f45) ⟨func45,rfl,by kernel_rfl⟩ rfl fun g0 hg=>?_
 refine rn tk 3 rfl ?_;refine vZa 1002 (d:=2) 38 2 rfl rfl rfl (hO ?_);refine rn tk 6 rfl ?_;refine jya (d:=3) (F:=zca.pc) (l:=a0) rfl rfl rfl zya (fun c1=>hO ?_) (hO ?_)
 .replace hr:=Qva c1 hr
  refine rn tk 6 rfl ?_;refine vZa 2002 (d:=2) 38 2 rfl rfl rfl (hO ?_);refine rn tk 4 rfl ?_;cases hr;exact krO tk (.inr rfl) rfl rfl
 replace hr:=Qwa hr
 refine rn tk 7 rfl<|wo (Zta (k:=5) rfl zya kha) rfl<|rn tk 1 rfl ?_;obtain ⟨v2,h3,hr⟩:=zaa hr;refine wo (w4a (k:=7) (F:=zca.pc) (xs:=a0) (lim:=4398046511104) 2002 rfl rfl rfl zya kha rfl rfl (fun _=>rfl) rfl rfl rfl h3) rfl<|rn tk 4 rfl ?_;cases hr;exact krO tk (.inr rfl) rfl rfl
theorem kea(a0:List zca)(r:List zca)(hr:zja a0=some r):Run prog 45 [.l zca.pc a0] (.l zca.pc r):=by
 unfold zja at hr;refine rfx (fn:=f45) func45 fun g0 hg=>?_
 refine rn tk 9 rfl ?_;refine jya (d:=3) (F:=zca.pc) (l:=a0) rfl rfl rfl zya (fun c1=>hO ?_) (hO ?_)
 .replace hr:=Qva c1 hr
  exact kx 10 hr
 replace hr:=Qwa hr
 refine rn tk 7 rfl<|wo (Zta (k:=5) rfl zya kha) rfl<|rn tk 1 rfl ?_;obtain ⟨v2,h3,hr⟩:=zaa hr;refine wo (w4a (k:=7) (F:=zca.pc) (xs:=a0) (lim:=4398046511104) 1002 rfl rfl rfl zya kha rfl rfl (fun _=>rfl) rfl rfl rfl h3) rfl<|rn tk 3 rfl ?_;refine jaa 1002 rfl (hC ?_);refine qwa (d:=2) (F:=zca.pc) (l:=v2) rfl rfl (hC ?_);exact kx 1 hr
theorem vDa(a0:List zna)(r:List zna)(hr:z0a a0=some r):RunO prog 78 [.l zna.pc a0] 131 2 (List.map zna.pc r):=by
 unfold z0a at hr;refine rfO (fn:=f78) ⟨func78,rfl,by kernel_rfl⟩ rfl fun g0 hg=>?_
 refine rn tk 3 rfl ?_;refine vZa 1002 (d:=2) 131 2 rfl rfl rfl (hO ?_);refine rn tk 6 rfl ?_;refine jya (d:=3) (F:=zna.pc) (l:=a0) rfl rfl rfl qja (fun c1=>hO ?_) (hO ?_)
 .replace hr:=Qva c1 hr
  refine rn tk 6 rfl ?_;refine vZa 2002 (d:=2) 131 2 rfl rfl rfl (hO ?_);refine rn tk 4 rfl ?_;cases hr;exact krO tk (.inr rfl) rfl rfl
 replace hr:=Qwa hr
 refine rn tk 7 rfl<|wo (Zta (k:=5) rfl qja qca) rfl<|rn tk 1 rfl ?_;obtain ⟨v2,h3,hr⟩:=zaa hr;refine wo (w4a (k:=7) (F:=zna.pc) (xs:=a0) (lim:=4398046511104) 2002 rfl rfl rfl qja qca rfl rfl (fun _=>rfl) rfl rfl rfl h3) rfl<|rn tk 4 rfl ?_;cases hr;exact krO tk (.inr rfl) rfl rfl
end Go.Proofs.YtpphhgbmooofgaaGreatDoor
