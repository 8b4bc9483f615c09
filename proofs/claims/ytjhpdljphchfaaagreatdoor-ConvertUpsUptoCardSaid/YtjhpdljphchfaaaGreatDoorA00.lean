/- A part of the proof of ConvertUps: contracts of library calls. -/
import Derived.Shelf.Strings.Builder1
import Derived.Shelf.Strings.Builder2
import Derived.Shelf.Strings.OnBuilder
import Derived.Shelf.Small.Utf8
import Derived.Shelf.Small.Strs
import Derived.Shelf.Strings.BuilderF
import Derived.Shelf.Strings.BuilderK
import Derived.Shelf.Strings.Builder2Cap
import Derived.Shelf.Strconv.Atoi
import Derived.Shelf.Strconv.Itoa0
import Derived.Shelf.Strconv.Itoa1
import Derived.Shelf.LaysM
import Derived.Shelf.Strconv.Itoa2
import Derived.Shelf.Strconv.Itoa3
import Derived.Shelf.Strconv.Itoa4
import Derived.Shelf.Strconv.AtoiErrFast
import Derived.Shelf.Strconv.ParseIntEmpty
import Derived.Shelf.Strconv.AtoiFail
import Derived.Shelf.Strconv.Clone
import Derived.Shelf.Strconv.SyntaxError
import Derived.Shelf.LaysC
import Derived.Shelf.Strconv.ToError
import Derived.Shelf.Strconv.Lower
import Derived.Shelf.Strconv.ParseUint10
import Derived.Shelf.Strconv.ParseUint10Empty
import Derived.Shelf.Strconv.ParseUint10Any
import Derived.Shelf.Strconv.ParseInt10
import Derived.Shelf.Strconv.AtoiLong
import Derived.Shelf.Strconv.AtoiInnerAll
import Derived.Shelf.Strconv.RangeError
import Derived.Shelf.Strconv.ToErrorRange
import Derived.Shelf.Strconv.AtoiAll
import Derived.Shelf.Strconv.ErrVarAll
import Derived.Shelf.Strings.Search1
import Derived.Shelf.Strings.Search2
import Derived.Shelf.Strings.Search3
import Derived.Shelf.Strings.Cut
import Derived.Shelf.Strings.Count
import Derived.Shelf.Strings.Shaped
import Derived.Shelf.Strings.Prefix
import Derived.Shelf.Strings.Split
import Derived.Shelf.Strings.Fields
import Derived.Shelf.Unicode.Latin
import Derived.Shelf.Strings.Runes
import Derived.Shelf.Strings.IndexAny
import Derived.Shelf.Strings.AsciiSet
import Derived.Shelf.Strings.IndexAnyAll
import Derived.Shelf.Unicode.DecodeSlow
import Derived.Shelf.Unicode.DecodeAny
import Derived.Shelf.Unicode.Is16White
import Derived.Shelf.Unicode.IsSpaceAny
import Derived.Shelf.Unicode.CaseLookup
import Derived.Shelf.Unicode.CaseConvert
import Derived.Shelf.Unicode.CaseTo
import Derived.Shelf.Unicode.CaseLaid
import Derived.Shelf.Unicode.Is16Any
import Derived.Shelf.Unicode.Is32Any
import Derived.Shelf.Unicode.ExclAny
import Derived.Shelf.Strings.BuilderCap
import Derived.Test.YtjhpdljphchfaaaGreatDoorProg
namespace Go.Proofs
open Go.Shelf Tryz
theorem cK {α:Type} {a b:α} (h:a=b):some a=some b:=congrArg some h
def Tryz.lays169_ren:Go.Shelf.Ren:=⟨fun|169=>113|n=>n,fun|70=>161|9=>9|0=>0|72=>163|37=>113|127=>206|3=>3|5=>5|n=>n,fun|n=>n⟩
theorem Tryz.lays169:Go.Proofs.Lays.n169 prog Tryz.lays169_ren:=⟨by kernel_rfl,func113.trans (cK (by kernel_rfl)),underlying0,isAgg0,sizeOf0,zeroValue0,underlying3,isAgg3,sizeOf3,zeroValue3,underlying9,isAgg9,sizeOf9,zeroValue9,underlying113,isAgg113,sizeOf113,zeroValue113,underlying161,isAgg161,sizeOf161,zeroValue161,underlying163,isAgg163,sizeOf163,zeroValue163,underlying206,isAgg206,sizeOf206,zeroValue206⟩
theorem Tryz.Builder_Extra_169:Builder.Extra prog Tryz.lays169_ren:={
 sizeBuilder:=by kernel_rfl
 liesBuilder:=by kernel_rfl
 t5:=underlying5
 a5:=isAgg5
 z5:=sizeOf5
 v5:=zeroValue5
 infoByte:=by kernel_rfl
 cellsByte:=by kernel_rfl
 sizeByte:=by kernel_rfl
 neB5:=by decide}
open Go.RowKit in
theorem Tryz.Builder_String_any (B b:Nat) (l:List UInt8) (w:World) (h:Lib.IsBuilder 163 5 B b (Lib.byteCells l) w) (hBw:B≤w.heap.size):
 Calls prog 113 #[.pointer (some ⟨b,0,none⟩)] w fun e w'=>e= .returned (.string ⟨l.toArray⟩)∧Below B w w':=Any.Builder_String_any Tryz.lays169 Tryz.Builder_Extra_169 B b l w h hBw
def Tryz.lays159_ren:Go.Shelf.Ren:=⟨fun|159=>59|165=>110|166=>111|167=>112|169=>113|230=>114|204=>115|240=>166|241=>167|197=>168|118=>169|168=>170|270=>171|262=>172|276=>207|277=>208|260=>209|242=>210|313=>211|278=>235|274=>236|275=>237|n=>n,fun|9=>9|4=>4|3=>3|5=>5|72=>163|0=>0|76=>134|75=>32|107=>168|70=>161|20=>20|37=>113|127=>206|21=>21|105=>207|164=>185|162=>271|203=>269|119=>172|46=>181|139=>303|138=>302|51=>224|160=>304|208=>334|206=>332|80=>166|n=>n,fun|13=>5|3=>8|4=>9|n=>n⟩
theorem Tryz.lays159:Go.Proofs.Lays.n159 prog Tryz.lays159_ren:=⟨by kernel_rfl,func169.trans (cK (by kernel_rfl)),func59.trans (cK (by kernel_rfl)),func110.trans (cK (by kernel_rfl)),func111.trans (cK (by kernel_rfl)),func112.trans (cK (by kernel_rfl)),func170.trans (cK (by kernel_rfl)),func113.trans (cK (by kernel_rfl)),func168.trans (cK (by kernel_rfl)),func115.trans (cK (by kernel_rfl)),func114.trans (cK (by kernel_rfl)),func166.trans (cK (by kernel_rfl)),func167.trans (cK (by kernel_rfl)),func210.trans (cK (by kernel_rfl)),func209.trans (cK (by kernel_rfl)),func172.trans (cK (by kernel_rfl)),func171.trans (cK (by kernel_rfl)),func236.trans (cK (by kernel_rfl)),func237.trans (cK (by kernel_rfl)),func207.trans (cK (by kernel_rfl)),func208.trans (cK (by kernel_rfl)),func235.trans (cK (by kernel_rfl)),func211.trans (cK (by kernel_rfl)),underlying0,isAgg0,sizeOf0,zeroValue0,underlying3,isAgg3,sizeOf3,zeroValue3,underlying4,isAgg4,sizeOf4,zeroValue4,underlying5,isAgg5,sizeOf5,zeroValue5,underlying9,isAgg9,sizeOf9,zeroValue9,underlying20,isAgg20,sizeOf20,zeroValue20,underlying21,isAgg21,sizeOf21,zeroValue21,underlying113,isAgg113,sizeOf113,zeroValue113,underlying181,isAgg181,sizeOf181,zeroValue181,underlying224,isAgg224,sizeOf224,zeroValue224,underlying161,isAgg161,sizeOf161,zeroValue161,underlying163,isAgg163,sizeOf163,zeroValue163,underlying32,isAgg32,sizeOf32,zeroValue32,underlying134,isAgg134,sizeOf134,zeroValue134,underlying207,isAgg207,sizeOf207,zeroValue207,underlying168,isAgg168,sizeOf168,zeroValue168,underlying172,isAgg172,sizeOf172,underlying206,isAgg206,sizeOf206,zeroValue206,underlying302,isAgg302,sizeOf302,zeroValue302,underlying303,isAgg303,sizeOf303,zeroValue303,underlying304,isAgg304,sizeOf304,zeroValue304,underlying271,isAgg271,sizeOf271,zeroValue271,underlying185,isAgg185,sizeOf185,zeroValue185,underlying269,isAgg269,sizeOf269,zeroValue269,underlying332,isAgg332,sizeOf332,zeroValue332,underlying334,isAgg334,sizeOf334,zeroValue334,by kernel_rfl,by kernel_rfl,by kernel_rfl⟩
theorem Tryz.Builder_Extra_159:Builder.Extra prog Tryz.lays159_ren:={
 sizeBuilder:=by kernel_rfl
 liesBuilder:=by kernel_rfl
 t5:=underlying5
 a5:=isAgg5
 z5:=sizeOf5
 v5:=zeroValue5
 infoByte:=by kernel_rfl
 cellsByte:=by kernel_rfl
 sizeByte:=by kernel_rfl
 neB5:=by decide}
open Go.RowKit in
theorem Tryz.strings_ToLower_ascii (s:ByteArray) (w:World) (hs:s.size≤140737488355328) (hascii: ∀(j:Nat) (b:UInt8),s.data.toList[j]? =some b→b.toNat<128):
 Calls prog 59 #[.string s] w fun e w'=>e= .returned (.string ⟨(Lib.toLowerA s.data.toList).toArray⟩)∧Below w.heap.size w w':=Any.strings_ToLower_ascii Tryz.lays159 Tryz.Builder_Extra_159 s w hs hascii
def Tryz.lays156_ren:Go.Shelf.Ren:=⟨fun|156=>164|165=>110|166=>111|169=>113|240=>166|241=>167|276=>207|277=>208|n=>n,fun|31=>55|9=>9|3=>3|4=>4|0=>0|20=>20|72=>163|76=>134|70=>161|37=>113|75=>32|127=>206|164=>185|5=>5|80=>166|n=>n,fun|n=>n⟩
theorem Tryz.lays156:Go.Proofs.Lays.n156 prog Tryz.lays156_ren:=⟨by kernel_rfl,func164.trans (cK (by kernel_rfl)),func110.trans (cK (by kernel_rfl)),func111.trans (cK (by kernel_rfl)),func113.trans (cK (by kernel_rfl)),func166.trans (cK (by kernel_rfl)),func167.trans (cK (by kernel_rfl)),func207.trans (cK (by kernel_rfl)),func208.trans (cK (by kernel_rfl)),underlying0,isAgg0,sizeOf0,zeroValue0,underlying3,isAgg3,sizeOf3,zeroValue3,underlying4,isAgg4,sizeOf4,zeroValue4,underlying9,isAgg9,sizeOf9,zeroValue9,underlying20,isAgg20,sizeOf20,zeroValue20,underlying55,isAgg55,sizeOf55,zeroValue55,underlying113,isAgg113,sizeOf113,zeroValue113,underlying161,isAgg161,sizeOf161,zeroValue161,underlying163,isAgg163,sizeOf163,zeroValue163,underlying32,isAgg32,sizeOf32,zeroValue32,underlying134,isAgg134,sizeOf134,zeroValue134,underlying206,isAgg206,sizeOf206,zeroValue206,underlying185,isAgg185,sizeOf185,zeroValue185⟩
theorem Tryz.Builder_Extra_156:Builder.Extra prog Tryz.lays156_ren:={
 sizeBuilder:=by kernel_rfl
 liesBuilder:=by kernel_rfl
 t5:=underlying5
 a5:=isAgg5
 z5:=sizeOf5
 v5:=zeroValue5
 infoByte:=by kernel_rfl
 cellsByte:=by kernel_rfl
 sizeByte:=by kernel_rfl
 neB5:=by decide}
open Go.RowKit in
theorem Tryz.strings_Join_none (a:Option Addr) (c:Nat) (sep:ByteArray) (w:World):
 Calls prog 164 #[.slice a 0 c,.string sep] w fun e w'=>e= .returned (.string ⟨#[]⟩)∧w'=w:=Any.strings_Join_none Tryz.lays156 Tryz.Builder_Extra_156 a c sep w
open Go.RowKit in
theorem Tryz.strings_Join (bk o c:Nat) (xs:List ByteArray) (sep:ByteArray) (w:World) (hcells: ∀(j:Nat) x,xs[j]? =some x→w.cell? ⟨bk,o+j,none⟩=some (.string x)) (hbk:bk<w.heap.size) (hN:xs.length≤140737488355328) (hcap:xs.length≤c) (hlen:(Lib.join (xs.map (·.data.toList)) sep.data.toList).length≤140737488355328):
 Calls prog 164 #[.slice (some ⟨bk,o,none⟩) xs.length c,.string sep] w fun e w'=>e= .returned (.string ⟨(Lib.join (xs.map (·.data.toList)) sep.data.toList).toArray⟩)∧Below w.heap.size w w':=Any.strings_Join Tryz.lays156 Tryz.Builder_Extra_156 bk o c xs sep w hcells hbk hN hcap hlen
def Tryz.lays119_ren:Go.Shelf.Ren:=⟨fun|119=>174|n=>n,fun|21=>21|4=>4|n=>n,fun|n=>n⟩
theorem Tryz.lays119:Go.Proofs.Lays.n119 prog Tryz.lays119_ren:=⟨by kernel_rfl,func174.trans (cK (by kernel_rfl)),underlying4,isAgg4,sizeOf4,zeroValue4,underlying21,isAgg21,sizeOf21,zeroValue21⟩
theorem Tryz.utf8_ValidRune (r:Int) (w:World):
 Calls prog 174 #[.int .i32 r] w fun e w'=>e= .returned (.bool (Lib.validRune r))∧w'=w:=Any.utf8_ValidRune Tryz.lays119 r w
def Tryz.lays137_ren:Go.Shelf.Ren:=⟨fun|137=>58|217=>109|266=>165|n=>n,fun|9=>9|5=>5|3=>3|n=>n,fun|n=>n⟩
theorem Tryz.lays137:Go.Proofs.Lays.n137 prog Tryz.lays137_ren:=⟨by kernel_rfl,func58.trans (cK (by kernel_rfl)),func109.trans (cK (by kernel_rfl)),func165.trans (cK (by kernel_rfl)),underlying3,isAgg3,sizeOf3,zeroValue3,underlying5,isAgg5,sizeOf5,zeroValue5,underlying9,isAgg9,sizeOf9,zeroValue9⟩
open Go.RowKit in
theorem Tryz.strings_IndexByte (s:ByteArray) (c:Int) (w:World):
 Calls prog 58 #[.string s,.int .u8 c] w fun e w'=>e= .returned (.int .i64 (Lib.indexByte s.data.toList c.toNat.toUInt8))∧w'=w:=Any.strings_IndexByte Tryz.lays137 s c w
def Tryz.lays172_ren:Go.Shelf.Ren:=⟨fun|172=>85|244=>141|245=>120|247=>119|279=>179|280=>180|281=>181|282=>182|287=>178|316=>218|171=>155|205=>219|321=>216|322=>217|243=>202|246=>177|283=>212|284=>213|285=>214|286=>215|129=>239|317=>238|318=>240|319=>241|320=>242|337=>250|338=>251|n=>n,fun|9=>9|3=>3|75=>32|76=>134|4=>4|5=>5|167=>214|37=>113|0=>0|85=>118|2=>2|168=>218|53=>215|175=>216|46=>181|210=>279|127=>206|145=>313|143=>311|21=>21|171=>272|173=>275|212=>308|51=>224|20=>20|213=>309|232=>350|233=>351|80=>166|n=>n,fun|15=>6|16=>7|17=>10|18=>11|19=>12|n=>n⟩
theorem Tryz.lays172:Go.Proofs.Lays.n172 prog Tryz.lays172_ren:=⟨by kernel_rfl,func239.trans (cK (by kernel_rfl)),func155.trans (cK (by kernel_rfl)),func85.trans (cK (by kernel_rfl)),func219.trans (cK (by kernel_rfl)),func202.trans (cK (by kernel_rfl)),func141.trans (cK (by kernel_rfl)),func120.trans (cK (by kernel_rfl)),func177.trans (cK (by kernel_rfl)),func119.trans (cK (by kernel_rfl)),func179.trans (cK (by kernel_rfl)),func180.trans (cK (by kernel_rfl)),func181.trans (cK (by kernel_rfl)),func182.trans (cK (by kernel_rfl)),func212.trans (cK (by kernel_rfl)),func213.trans (cK (by kernel_rfl)),func214.trans (cK (by kernel_rfl)),func215.trans (cK (by kernel_rfl)),func178.trans (cK (by kernel_rfl)),func218.trans (cK (by kernel_rfl)),func238.trans (cK (by kernel_rfl)),func240.trans (cK (by kernel_rfl)),func241.trans (cK (by kernel_rfl)),func242.trans (cK (by kernel_rfl)),func216.trans (cK (by kernel_rfl)),func217.trans (cK (by kernel_rfl)),func250.trans (cK (by kernel_rfl)),func251.trans (cK (by kernel_rfl)),underlying0,isAgg0,sizeOf0,zeroValue0,underlying2,isAgg2,sizeOf2,zeroValue2,underlying3,isAgg3,sizeOf3,zeroValue3,underlying4,isAgg4,sizeOf4,zeroValue4,underlying5,isAgg5,sizeOf5,zeroValue5,underlying9,isAgg9,sizeOf9,zeroValue9,underlying20,isAgg20,sizeOf20,zeroValue20,underlying21,isAgg21,sizeOf21,zeroValue21,underlying113,isAgg113,sizeOf113,zeroValue113,underlying181,isAgg181,sizeOf181,zeroValue181,underlying224,isAgg224,sizeOf224,zeroValue224,underlying215,isAgg215,sizeOf215,zeroValue215,underlying32,isAgg32,sizeOf32,zeroValue32,underlying134,isAgg134,sizeOf134,zeroValue134,underlying118,isAgg118,sizeOf118,zeroValue118,underlying206,isAgg206,sizeOf206,zeroValue206,underlying311,isAgg311,sizeOf311,zeroValue311,underlying313,isAgg313,sizeOf313,zeroValue313,underlying214,isAgg214,sizeOf214,zeroValue214,underlying218,isAgg218,sizeOf218,zeroValue218,underlying272,isAgg272,sizeOf272,zeroValue272,underlying275,isAgg275,sizeOf275,zeroValue275,underlying216,isAgg216,sizeOf216,zeroValue216,underlying279,isAgg279,sizeOf279,zeroValue279,underlying308,isAgg308,sizeOf308,zeroValue308,underlying309,isAgg309,sizeOf309,underlying350,isAgg350,sizeOf350,zeroValue350,underlying351,isAgg351,sizeOf351,zeroValue351,by kernel_rfl,by kernel_rfl,by kernel_rfl,by kernel_rfl,by kernel_rfl⟩
open Go.RowKit in
theorem Tryz.strconv_Atoi (s:ByteArray) (n:Int) (hl:s.size≤18) (h:Lib.atoi s.data.toList=some n) (w:World):
 Calls prog 85 #[.string s] w fun e w'=>e= .returned (.tuple #[.int .i64 n,.nilIface])∧ ∃t,w'=Lib.bytesWorld w 5 t:=Any.strconv_Atoi Tryz.lays172 s n hl h w
def Tryz.laysM171_ren:Go.Shelf.Ren:=⟨fun|171=>155|243=>202|246=>177|283=>212|284=>213|285=>214|286=>215|129=>239|317=>238|318=>240|319=>241|320=>242|337=>250|338=>251|n=>n,fun|3=>3|9=>9|2=>2|4=>4|171=>272|0=>0|53=>215|37=>113|5=>5|173=>275|212=>308|51=>224|20=>20|213=>309|46=>181|232=>350|233=>351|n=>n,fun|17=>10|18=>11|19=>12|n=>n⟩
theorem Tryz.laysM171:Go.Proofs.LaysM.n171 prog Tryz.laysM171_ren:={
 mixed:=by kernel_rfl
 f129:=func239.trans (cK (by kernel_rfl))
 f171:=func155.trans (cK (by kernel_rfl))
 f243:=func202.trans (cK (by kernel_rfl))
 f246:=func177.trans (cK (by kernel_rfl))
 f283:=func212.trans (cK (by kernel_rfl))
 f284:=func213.trans (cK (by kernel_rfl))
 f285:=func214.trans (cK (by kernel_rfl))
 f286:=func215.trans (cK (by kernel_rfl))
 f317:=func238.trans (cK (by kernel_rfl))
 f318:=func240.trans (cK (by kernel_rfl))
 f319:=func241.trans (cK (by kernel_rfl))
 f320:=func242.trans (cK (by kernel_rfl))
 f337:=func250.trans (cK (by kernel_rfl))
 f338:=func251.trans (cK (by kernel_rfl))
 t0:=underlying0
 a0:=isAgg0
 z0:=sizeOf0
 v0:=zeroValue0
 t2:=underlying2
 a2:=isAgg2
 z2:=sizeOf2
 v2:=zeroValue2
 t3:=underlying3
 a3:=isAgg3
 z3:=sizeOf3
 v3:=zeroValue3
 t4:=underlying4
 a4:=isAgg4
 z4:=sizeOf4
 v4:=zeroValue4
 t5:=underlying5
 a5:=isAgg5
 z5:=sizeOf5
 v5:=zeroValue5
 t9:=underlying9
 a9:=isAgg9
 z9:=sizeOf9
 v9:=zeroValue9
 t20:=underlying20
 a20:=isAgg20
 z20:=sizeOf20
 v20:=zeroValue20
 t37:=underlying113
 a37:=isAgg113
 z37:=sizeOf113
 v37:=zeroValue113
 t46:=underlying181
 a46:=isAgg181
 z46:=sizeOf181
 v46:=zeroValue181
 t51:=underlying224
 a51:=isAgg224
 z51:=sizeOf224
 v51:=zeroValue224
 t53:=underlying215
 a53:=isAgg215
 z53:=sizeOf215
 v53:=zeroValue215
 t171:=underlying272
 a171:=isAgg272
 z171:=sizeOf272
 v171:=zeroValue272
 t173:=underlying275
 a173:=isAgg275
 z173:=sizeOf275
 v173:=zeroValue275
 t212:=underlying308
 a212:=isAgg308
 z212:=sizeOf308
 v212:=zeroValue308
 t213:=underlying309
 a213:=isAgg309
 z213:=sizeOf309
 t232:=underlying350
 a232:=isAgg350
 z232:=sizeOf350
 v232:=zeroValue350
 t233:=underlying351
 a233:=isAgg351
 z233:=sizeOf351
 v233:=zeroValue351
 g17:=by kernel_rfl
 g18:=by kernel_rfl
 g19:=by kernel_rfl
 i0:=by kernel_rfl
 i2:=by kernel_rfl
 i3:=by kernel_rfl
 i4:=by kernel_rfl
 i5:=by kernel_rfl
 i9:=by kernel_rfl
 i20:=by kernel_rfl
 i37:=by kernel_rfl
 i46:=by kernel_rfl
 i51:=by kernel_rfl
 i53:=by kernel_rfl
 i171:=by kernel_rfl
 i173:=by kernel_rfl
 i212:=by kernel_rfl
 i232:=by kernel_rfl
 i233:=by kernel_rfl
 m17:=by kernel_rfl
 m18:=by kernel_rfl
 m19:=by kernel_rfl}
open Go.RowKit Go.Sort Go.Lib in
theorem Tryz.strconv_Itoa (n:Int) (h0: -9223372036854775808≤n) (h1:n≤9223372036854775807) (w:World) (htab:Lib.TabIs prog w "internal/strconv.uint64pow10" .u64 Lib.pow10Tab):
 Calls prog 155 #[.int .i64 n] w fun e w'=>e= .returned (.string ⟨(Lib.itoa n).toArray⟩)∧ ∃k os,w'=grow (w.drewN k) os:=Any.strconv_Itoa Tryz.laysM171 n h0 h1 w htab
def Tryz.laysM173_ren:Go.Shelf.Ren:=⟨fun|173=>118|246=>177|283=>212|284=>213|285=>214|286=>215|129=>239|317=>238|318=>240|319=>241|320=>242|337=>250|338=>251|n=>n,fun|2=>2|3=>3|9=>9|4=>4|171=>272|0=>0|53=>215|37=>113|5=>5|173=>275|212=>308|51=>224|20=>20|213=>309|46=>181|232=>350|233=>351|n=>n,fun|17=>10|18=>11|19=>12|n=>n⟩
theorem Tryz.laysM173:Go.Proofs.LaysM.n173 prog Tryz.laysM173_ren:={
 mixed:=by kernel_rfl
 f129:=func239.trans (cK (by kernel_rfl))
 f173:=func118.trans (cK (by kernel_rfl))
 f246:=func177.trans (cK (by kernel_rfl))
 f283:=func212.trans (cK (by kernel_rfl))
 f284:=func213.trans (cK (by kernel_rfl))
 f285:=func214.trans (cK (by kernel_rfl))
 f286:=func215.trans (cK (by kernel_rfl))
 f317:=func238.trans (cK (by kernel_rfl))
 f318:=func240.trans (cK (by kernel_rfl))
 f319:=func241.trans (cK (by kernel_rfl))
 f320:=func242.trans (cK (by kernel_rfl))
 f337:=func250.trans (cK (by kernel_rfl))
 f338:=func251.trans (cK (by kernel_rfl))
 t0:=underlying0
 a0:=isAgg0
 z0:=sizeOf0
 v0:=zeroValue0
 t2:=underlying2
 a2:=isAgg2
 z2:=sizeOf2
 v2:=zeroValue2
 t3:=underlying3
 a3:=isAgg3
 z3:=sizeOf3
 v3:=zeroValue3
 t4:=underlying4
 a4:=isAgg4
 z4:=sizeOf4
 v4:=zeroValue4
 t5:=underlying5
 a5:=isAgg5
 z5:=sizeOf5
 v5:=zeroValue5
 t9:=underlying9
 a9:=isAgg9
 z9:=sizeOf9
 v9:=zeroValue9
 t20:=underlying20
 a20:=isAgg20
 z20:=sizeOf20
 v20:=zeroValue20
 t37:=underlying113
 a37:=isAgg113
 z37:=sizeOf113
 v37:=zeroValue113
 t46:=underlying181
 a46:=isAgg181
 z46:=sizeOf181
 v46:=zeroValue181
 t51:=underlying224
 a51:=isAgg224
 z51:=sizeOf224
 v51:=zeroValue224
 t53:=underlying215
 a53:=isAgg215
 z53:=sizeOf215
 v53:=zeroValue215
 t171:=underlying272
 a171:=isAgg272
 z171:=sizeOf272
 v171:=zeroValue272
 t173:=underlying275
 a173:=isAgg275
 z173:=sizeOf275
 v173:=zeroValue275
 t212:=underlying308
 a212:=isAgg308
 z212:=sizeOf308
 v212:=zeroValue308
 t213:=underlying309
 a213:=isAgg309
 z213:=sizeOf309
 t232:=underlying350
 a232:=isAgg350
 z232:=sizeOf350
 v232:=zeroValue350
 t233:=underlying351
 a233:=isAgg351
 z233:=sizeOf351
 v233:=zeroValue351
 g17:=by kernel_rfl
 g18:=by kernel_rfl
 g19:=by kernel_rfl
 i0:=by kernel_rfl
 i2:=by kernel_rfl
 i3:=by kernel_rfl
 i4:=by kernel_rfl
 i5:=by kernel_rfl
 i9:=by kernel_rfl
 i20:=by kernel_rfl
 i37:=by kernel_rfl
 i46:=by kernel_rfl
 i51:=by kernel_rfl
 i53:=by kernel_rfl
 i171:=by kernel_rfl
 i173:=by kernel_rfl
 i212:=by kernel_rfl
 i232:=by kernel_rfl
 i233:=by kernel_rfl
 m17:=by kernel_rfl
 m18:=by kernel_rfl
 m19:=by kernel_rfl}
open Go.RowKit Go.Sort Go.Lib in
theorem Tryz.strconv_FormatInt_10 (n:Int) (h0: -9223372036854775808≤n) (h1:n≤9223372036854775807) (w:World) (htab:Lib.TabIs prog w "internal/strconv.uint64pow10" .u64 Lib.pow10Tab):
 Calls prog 118 #[.int .i64 n,.int .i64 10] w fun e w'=>e= .returned (.string ⟨(Lib.itoa n).toArray⟩)∧ ∃k os,w'=grow (w.drewN k) os:=Any.strconv_FormatInt_10 Tryz.laysM173 n h0 h1 w htab
def Tryz.laysC172_ren:Go.Shelf.Ren:=⟨fun|172=>85|244=>141|245=>120|247=>119|279=>179|280=>180|281=>181|282=>182|287=>178|316=>218|171=>155|205=>219|321=>216|322=>217|243=>202|246=>177|283=>212|284=>213|285=>214|286=>215|129=>239|317=>238|318=>240|319=>241|320=>242|337=>250|338=>251|n=>n,fun|9=>9|3=>3|75=>32|76=>134|4=>4|5=>5|167=>214|37=>113|0=>0|85=>118|2=>2|168=>218|53=>215|175=>216|46=>181|210=>279|127=>206|145=>313|143=>311|21=>21|171=>272|173=>275|212=>308|51=>224|20=>20|213=>309|232=>350|233=>351|80=>166|n=>n,fun|15=>6|16=>7|17=>10|18=>11|19=>12|n=>n⟩
theorem Tryz.laysC172:Go.Proofs.LaysC.n172 prog Tryz.laysC172_ren:={
 mixed:=by kernel_rfl
 f129:=func239.trans (cK (by kernel_rfl))
 f171:=func155.trans (cK (by kernel_rfl))
 f172:=func85.trans (cK (by kernel_rfl))
 f205:=func219.trans (cK (by kernel_rfl))
 f243:=func202.trans (cK (by kernel_rfl))
 f244:=func141.trans (cK (by kernel_rfl))
 f245:=func120.trans (cK (by kernel_rfl))
 f246:=func177.trans (cK (by kernel_rfl))
 f247:=func119.trans (cK (by kernel_rfl))
 f279:=func179.trans (cK (by kernel_rfl))
 f280:=func180.trans (cK (by kernel_rfl))
 f281:=func181.trans (cK (by kernel_rfl))
 f282:=func182.trans (cK (by kernel_rfl))
 f283:=func212.trans (cK (by kernel_rfl))
 f284:=func213.trans (cK (by kernel_rfl))
 f285:=func214.trans (cK (by kernel_rfl))
 f286:=func215.trans (cK (by kernel_rfl))
 f287:=func178.trans (cK (by kernel_rfl))
 f316:=func218.trans (cK (by kernel_rfl))
 f317:=func238.trans (cK (by kernel_rfl))
 f318:=func240.trans (cK (by kernel_rfl))
 f319:=func241.trans (cK (by kernel_rfl))
 f320:=func242.trans (cK (by kernel_rfl))
 f321:=func216.trans (cK (by kernel_rfl))
 f322:=func217.trans (cK (by kernel_rfl))
 f337:=func250.trans (cK (by kernel_rfl))
 f338:=func251.trans (cK (by kernel_rfl))
 t0:=underlying0
 a0:=isAgg0
 z0:=sizeOf0
 v0:=zeroValue0
 t2:=underlying2
 a2:=isAgg2
 z2:=sizeOf2
 v2:=zeroValue2
 t3:=underlying3
 a3:=isAgg3
 z3:=sizeOf3
 v3:=zeroValue3
 t4:=underlying4
 a4:=isAgg4
 z4:=sizeOf4
 v4:=zeroValue4
 t5:=underlying5
 a5:=isAgg5
 z5:=sizeOf5
 v5:=zeroValue5
 t9:=underlying9
 a9:=isAgg9
 z9:=sizeOf9
 v9:=zeroValue9
 t20:=underlying20
 a20:=isAgg20
 z20:=sizeOf20
 v20:=zeroValue20
 t21:=underlying21
 a21:=isAgg21
 z21:=sizeOf21
 v21:=zeroValue21
 t37:=underlying113
 a37:=isAgg113
 z37:=sizeOf113
 v37:=zeroValue113
 t46:=underlying181
 a46:=isAgg181
 z46:=sizeOf181
 v46:=zeroValue181
 t51:=underlying224
 a51:=isAgg224
 z51:=sizeOf224
 v51:=zeroValue224
 t53:=underlying215
 a53:=isAgg215
 z53:=sizeOf215
 v53:=zeroValue215
 t75:=underlying32
 a75:=isAgg32
 z75:=sizeOf32
 v75:=zeroValue32
 t76:=underlying134
 a76:=isAgg134
 z76:=sizeOf134
 v76:=zeroValue134
 t85:=underlying118
 a85:=isAgg118
 z85:=sizeOf118
 v85:=zeroValue118
 t127:=underlying206
 a127:=isAgg206
 z127:=sizeOf206
 v127:=zeroValue206
 t143:=underlying311
 a143:=isAgg311
 z143:=sizeOf311
 v143:=zeroValue311
 t145:=underlying313
 a145:=isAgg313
 z145:=sizeOf313
 v145:=zeroValue313
 t167:=underlying214
 a167:=isAgg214
 z167:=sizeOf214
 v167:=zeroValue214
 t168:=underlying218
 a168:=isAgg218
 z168:=sizeOf218
 v168:=zeroValue218
 t171:=underlying272
 a171:=isAgg272
 z171:=sizeOf272
 v171:=zeroValue272
 t173:=underlying275
 a173:=isAgg275
 z173:=sizeOf275
 v173:=zeroValue275
 t175:=underlying216
 a175:=isAgg216
 z175:=sizeOf216
 v175:=zeroValue216
 t210:=underlying279
 a210:=isAgg279
 z210:=sizeOf279
 v210:=zeroValue279
 t212:=underlying308
 a212:=isAgg308
 z212:=sizeOf308
 v212:=zeroValue308
 t213:=underlying309
 a213:=isAgg309
 z213:=sizeOf309
 t232:=underlying350
 a232:=isAgg350
 z232:=sizeOf350
 v232:=zeroValue350
 t233:=underlying351
 a233:=isAgg351
 z233:=sizeOf351
 v233:=zeroValue351
 g15:=by kernel_rfl
 g16:=by kernel_rfl
 g17:=by kernel_rfl
 g18:=by kernel_rfl
 g19:=by kernel_rfl
 t80:=underlying166
 a80:=isAgg166
 z80:=sizeOf166
 v80:=zeroValue166
 i0:=by kernel_rfl
 i2:=by kernel_rfl
 i3:=by kernel_rfl
 i4:=by kernel_rfl
 i5:=by kernel_rfl
 i9:=by kernel_rfl
 i20:=by kernel_rfl
 i21:=by kernel_rfl
 i37:=by kernel_rfl
 i46:=by kernel_rfl
 i51:=by kernel_rfl
 i53:=by kernel_rfl
 i75:=by kernel_rfl
 i76:=by kernel_rfl
 i80:=by kernel_rfl
 i85:=by kernel_rfl
 i127:=by kernel_rfl
 i143:=by kernel_rfl
 i145:=by kernel_rfl
 i167:=by kernel_rfl
 i168:=by kernel_rfl
 i171:=by kernel_rfl
 i173:=by kernel_rfl
 i175:=by kernel_rfl
 i210:=by kernel_rfl
 i212:=by kernel_rfl
 i232:=by kernel_rfl
 i233:=by kernel_rfl
 m15:=by kernel_rfl
 m16:=by kernel_rfl
 m17:=by kernel_rfl
 m18:=by kernel_rfl
 m19:=by kernel_rfl
 c0:=by kernel_rfl
 c2:=by kernel_rfl
 c3:=by kernel_rfl
 c4:=by kernel_rfl
 c5:=by kernel_rfl
 c9:=by kernel_rfl
 c20:=by kernel_rfl
 c21:=by kernel_rfl
 c37:=by kernel_rfl
 c46:=by kernel_rfl
 c51:=by kernel_rfl
 c53:=by kernel_rfl
 c75:=by kernel_rfl
 c76:=by kernel_rfl
 c80:=by kernel_rfl
 c85:=by kernel_rfl
 c127:=by kernel_rfl
 c143:=by kernel_rfl
 c145:=by kernel_rfl
 c167:=by kernel_rfl
 c168:=by kernel_rfl
 c171:=by kernel_rfl
 c173:=by kernel_rfl
 c175:=by kernel_rfl
 c210:=by kernel_rfl
 c212:=by kernel_rfl
 c213:=by kernel_rfl
 c232:=by kernel_rfl
 c233:=by kernel_rfl}
open Go.RowKit in
theorem Tryz.strconv_Atoi_ok (s:ByteArray) (hmax:s.size≤9223372036854775806) (v:Int) (h:Lib.atoiAll s.data.toList= .ok v) (w:World):
 Calls prog 85 #[.string s] w fun e w'=>e= .returned (.tuple #[.int .i64 v,.nilIface])∧(w'=w∨ ∃t,w'=Lib.bytesWorld w 5 t):=Any.strconv_Atoi_ok Tryz.laysC172 s hmax v h w
open Go.RowKit in
theorem Tryz.strconv_Atoi_range (s:ByteArray) (hlim:s.size≤281474976710656) (h:Lib.atoiAll s.data.toList= .range) (ev:Value) (w:World) (hv:w.cell? ⟨7,0,none⟩=some ev) (hev:ev= .nilIface∨ ∃te pe,ev= .iface te pe):
 Calls prog 85 #[.string s] w fun e w'=> ∃N,e= .returned (.tuple #[.int .i64 (Lib.atoiSat s.data.toList),.iface 218 (.pointer (some ⟨N,0,none⟩))])∧w.heap.size≤N∧w'.heap[N]? =some (.cells #[.string ⟨#[65,116,111,105]⟩,.string s,ev] 279 (0,0))∧Below w.heap.size w w':=Any.strconv_Atoi_range Tryz.laysC172 s hlim h ev w hv hev
def Tryz.lays143_ren:Go.Shelf.Ren:=⟨fun|143=>66|219=>122|217=>109|225=>176|224=>175|267=>183|266=>165|314=>220|n=>n,fun|9=>9|3=>3|4=>4|5=>5|46=>181|146=>280|51=>224|n=>n,fun|1=>2|n=>n⟩
theorem Tryz.lays143:Go.Proofs.Lays.n143 prog Tryz.lays143_ren:=⟨by kernel_rfl,func66.trans (cK (by kernel_rfl)),func109.trans (cK (by kernel_rfl)),func122.trans (cK (by kernel_rfl)),func175.trans (cK (by kernel_rfl)),func176.trans (cK (by kernel_rfl)),func165.trans (cK (by kernel_rfl)),func183.trans (cK (by kernel_rfl)),func220.trans (cK (by kernel_rfl)),underlying3,isAgg3,sizeOf3,zeroValue3,underlying4,isAgg4,sizeOf4,zeroValue4,underlying5,isAgg5,sizeOf5,zeroValue5,underlying9,isAgg9,sizeOf9,zeroValue9,underlying181,isAgg181,sizeOf181,zeroValue181,underlying224,isAgg224,sizeOf224,zeroValue224,underlying280,isAgg280,sizeOf280,zeroValue280,by kernel_rfl⟩
open Go.RowKit Go.Lib in
theorem Tryz.strings_Index_one (s:ByteArray) (c:UInt8) (w:World):
 Calls prog 66 #[.string s,.string ⟨#[c]⟩] w fun e w'=>e= .returned (.int .i64 (Lib.indexByte s.data.toList c))∧w'=w:=Any.strings_Index_one Tryz.lays143 s c w
def Tryz.lays144_ren:Go.Shelf.Ren:=⟨fun|144=>33|143=>66|219=>122|217=>109|225=>176|224=>175|267=>183|266=>165|314=>220|n=>n,fun|9=>9|4=>4|3=>3|5=>5|46=>181|146=>280|51=>224|n=>n,fun|1=>2|n=>n⟩
theorem Tryz.lays144:Go.Proofs.Lays.n144 prog Tryz.lays144_ren:=⟨by kernel_rfl,func66.trans (cK (by kernel_rfl)),func33.trans (cK (by kernel_rfl)),func109.trans (cK (by kernel_rfl)),func122.trans (cK (by kernel_rfl)),func175.trans (cK (by kernel_rfl)),func176.trans (cK (by kernel_rfl)),func165.trans (cK (by kernel_rfl)),func183.trans (cK (by kernel_rfl)),func220.trans (cK (by kernel_rfl)),underlying3,isAgg3,sizeOf3,zeroValue3,underlying4,isAgg4,sizeOf4,zeroValue4,underlying5,isAgg5,sizeOf5,zeroValue5,underlying9,isAgg9,sizeOf9,zeroValue9,underlying181,isAgg181,sizeOf181,zeroValue181,underlying224,isAgg224,sizeOf224,zeroValue224,underlying280,isAgg280,sizeOf280,zeroValue280,by kernel_rfl⟩
open Go.RowKit Go.Lib in
theorem Tryz.strings_Contains_one (s:ByteArray) (c:UInt8) (w:World):
 Calls prog 33 #[.string s,.string ⟨#[c]⟩] w fun e w'=>e= .returned (.bool (decide (0≤Lib.indexByte s.data.toList c)))∧w'=w:=Any.strings_Contains_one Tryz.lays144 s c w
open Go.RowKit Go.Lib in
theorem Tryz.strings_Contains (s sub:ByteArray) (m:Int) (w:World) (hs:s.size<4294967281) (hm:w.cell? ⟨2,0,none⟩=some (.int .i64 m)):
 Calls prog 33 #[.string s,.string sub] w fun e w'=>e= .returned (.bool (Lib.contains s.data.toList sub.data.toList))∧w'=w:=Any.strings_Contains Tryz.lays144 s sub m w hs hm
def Tryz.lays145_ren:Go.Shelf.Ren:=⟨fun|145=>75|220=>126|219=>122|217=>109|225=>176|224=>175|267=>183|266=>165|314=>220|n=>n,fun|9=>9|4=>4|59=>130|3=>3|5=>5|46=>181|146=>280|51=>224|n=>n,fun|1=>2|n=>n⟩
theorem Tryz.lays145:Go.Proofs.Lays.n145 prog Tryz.lays145_ren:=⟨by kernel_rfl,func75.trans (cK (by kernel_rfl)),func109.trans (cK (by kernel_rfl)),func122.trans (cK (by kernel_rfl)),func126.trans (cK (by kernel_rfl)),func175.trans (cK (by kernel_rfl)),func176.trans (cK (by kernel_rfl)),func165.trans (cK (by kernel_rfl)),func183.trans (cK (by kernel_rfl)),func220.trans (cK (by kernel_rfl)),underlying3,isAgg3,sizeOf3,zeroValue3,underlying4,isAgg4,sizeOf4,zeroValue4,underlying5,isAgg5,sizeOf5,zeroValue5,underlying9,isAgg9,sizeOf9,zeroValue9,underlying181,isAgg181,sizeOf181,zeroValue181,underlying224,isAgg224,sizeOf224,zeroValue224,underlying130,isAgg130,sizeOf130,zeroValue130,underlying280,isAgg280,sizeOf280,zeroValue280,by kernel_rfl⟩
open Go.RowKit Go.Lib in
theorem Tryz.strings_Cut (s sep:ByteArray) (m:Int) (w:World) (hs:s.size<4294967281) (hm:w.cell? ⟨2,0,none⟩=some (.int .i64 m)):
 Calls prog 75 #[.string s,.string sep] w fun e w'=>e= .returned (.tuple #[.string ⟨(Lib.cut s.data.toList sep.data.toList).1.toArray⟩,.string ⟨(Lib.cut s.data.toList sep.data.toList).2.1.toArray⟩,.bool (Lib.cut s.data.toList sep.data.toList).2.2])∧ ∃n,w'=w.drewN n:=Any.strings_Cut Tryz.lays145 s sep m w hs hm
def Tryz.lays138_ren:Go.Shelf.Ren:=⟨fun|138=>204|195=>233|218=>234|143=>66|219=>122|217=>109|225=>176|224=>175|267=>183|266=>165|314=>220|n=>n,fun|9=>9|3=>3|4=>4|5=>5|0=>0|46=>181|146=>280|51=>224|n=>n,fun|1=>2|n=>n⟩
theorem Tryz.lays138:Go.Proofs.Lays.n138 prog Tryz.lays138_ren:=⟨by kernel_rfl,func204.trans (cK (by kernel_rfl)),func66.trans (cK (by kernel_rfl)),func233.trans (cK (by kernel_rfl)),func109.trans (cK (by kernel_rfl)),func234.trans (cK (by kernel_rfl)),func122.trans (cK (by kernel_rfl)),func175.trans (cK (by kernel_rfl)),func176.trans (cK (by kernel_rfl)),func165.trans (cK (by kernel_rfl)),func183.trans (cK (by kernel_rfl)),func220.trans (cK (by kernel_rfl)),underlying0,isAgg0,sizeOf0,zeroValue0,underlying3,isAgg3,sizeOf3,zeroValue3,underlying4,isAgg4,sizeOf4,zeroValue4,underlying5,isAgg5,sizeOf5,zeroValue5,underlying9,isAgg9,sizeOf9,zeroValue9,underlying181,isAgg181,sizeOf181,zeroValue181,underlying224,isAgg224,sizeOf224,zeroValue224,underlying280,isAgg280,sizeOf280,zeroValue280,by kernel_rfl⟩
open Go.RowKit Go.Lib in
theorem Tryz.strings_Count_one (s:ByteArray) (c:UInt8) (w:World):
 Calls prog 204 #[.string s,.string ⟨#[c]⟩] w fun e w'=>e= .returned (.int .i64 (Lib.countByte s.data.toList c))∧w'=w:=Any.strings_Count_one Tryz.lays138 s c w
def Tryz.lays102_ren:Go.Shelf.Ren:=⟨fun|102=>60|209=>116|207=>173|n=>n,fun|9=>9|4=>4|3=>3|n=>n,fun|n=>n⟩
theorem Tryz.lays102:Go.Proofs.Lays.n102 prog Tryz.lays102_ren:=⟨by kernel_rfl,func60.trans (cK (by kernel_rfl)),func173.trans (cK (by kernel_rfl)),func116.trans (cK (by kernel_rfl)),underlying3,isAgg3,sizeOf3,zeroValue3,underlying4,isAgg4,sizeOf4,zeroValue4,underlying9,isAgg9,sizeOf9,zeroValue9⟩
open Go.RowKit Go.Lib in
theorem Tryz.strings_TrimSuffix (s p:ByteArray) (w:World) (hs:s.size≤9223372036854775807):
 Calls prog 60 #[.string s,.string p] w fun e w'=>e= .returned (.string ⟨(Lib.trimSuffix s.data.toList p.data.toList).toArray⟩)∧w'=w:=Any.strings_TrimSuffix Tryz.lays102 s p w hs
def Tryz.lays146_ren:Go.Shelf.Ren:=⟨fun|146=>103|221=>156|268=>203|138=>204|143=>66|195=>233|197=>168|218=>234|219=>122|260=>209|217=>109|225=>176|224=>175|267=>183|266=>165|314=>220|n=>n,fun|9=>9|31=>55|3=>3|4=>4|0=>0|105=>207|21=>21|5=>5|46=>181|119=>172|139=>303|138=>302|146=>280|51=>224|n=>n,fun|1=>2|3=>8|4=>9|n=>n⟩
theorem Tryz.lays146:Go.Proofs.Lays.n146 prog Tryz.lays146_ren:=⟨by kernel_rfl,func204.trans (cK (by kernel_rfl)),func66.trans (cK (by kernel_rfl)),func103.trans (cK (by kernel_rfl)),func233.trans (cK (by kernel_rfl)),func168.trans (cK (by kernel_rfl)),func109.trans (cK (by kernel_rfl)),func234.trans (cK (by kernel_rfl)),func122.trans (cK (by kernel_rfl)),func156.trans (cK (by kernel_rfl)),func175.trans (cK (by kernel_rfl)),func176.trans (cK (by kernel_rfl)),func209.trans (cK (by kernel_rfl)),func165.trans (cK (by kernel_rfl)),func183.trans (cK (by kernel_rfl)),func203.trans (cK (by kernel_rfl)),func220.trans (cK (by kernel_rfl)),underlying0,isAgg0,sizeOf0,zeroValue0,underlying3,isAgg3,sizeOf3,zeroValue3,underlying4,isAgg4,sizeOf4,zeroValue4,underlying5,isAgg5,sizeOf5,zeroValue5,underlying9,isAgg9,sizeOf9,zeroValue9,underlying21,isAgg21,sizeOf21,zeroValue21,underlying55,isAgg55,sizeOf55,zeroValue55,underlying181,isAgg181,sizeOf181,zeroValue181,underlying224,isAgg224,sizeOf224,zeroValue224,underlying207,isAgg207,sizeOf207,zeroValue207,underlying172,isAgg172,sizeOf172,underlying302,isAgg302,sizeOf302,zeroValue302,underlying303,isAgg303,sizeOf303,zeroValue303,underlying280,isAgg280,sizeOf280,zeroValue280,by kernel_rfl,by kernel_rfl,by kernel_rfl⟩
open Go.RowKit Go.Lib in
theorem Tryz.strings_Split (s sep:ByteArray) (m:Int) (w:World) (hs:s.size<4294967281) (hm:w.cell? ⟨2,0,none⟩=some (.int .i64 m)) (h1:1≤sep.size):
 Calls prog 103 #[.string s,.string sep] w fun e w'=>e= .returned (.slice (some ⟨w.heap.size,0,none⟩) (Lib.countB s sep+1) (Lib.countB s sep+1))∧w'=w.alloc (.cells ((Lib.splitB sep 0 (Lib.countB s sep) s).map Value.string).toArray 9):=Any.strings_Split Tryz.lays146 (by kernel_rfl) s sep m w hs hm h1
def Tryz.lays157_ren:Go.Shelf.Ren:=⟨fun|157=>72|229=>123|199=>124|261=>184|311=>221|312=>222|n=>n,fun|9=>9|31=>55|3=>3|5=>5|4=>4|119=>172|0=>0|40=>174|152=>221|21=>21|154=>223|51=>224|141=>226|196=>285|193=>282|198=>288|49=>286|194=>283|201=>291|226=>314|46=>181|227=>315|n=>n,fun|0=>0|6=>3|n=>n⟩
theorem Tryz.lays157:Go.Proofs.Lays.n157 prog Tryz.lays157_ren:=⟨by kernel_rfl,func72.trans (cK (by kernel_rfl)),func124.trans (cK (by kernel_rfl)),func123.trans (cK (by kernel_rfl)),func184.trans (cK (by kernel_rfl)),func221.trans (cK (by kernel_rfl)),func222.trans (cK (by kernel_rfl)),underlying0,isAgg0,sizeOf0,zeroValue0,underlying3,isAgg3,sizeOf3,zeroValue3,underlying4,isAgg4,sizeOf4,zeroValue4,underlying5,isAgg5,sizeOf5,zeroValue5,underlying9,isAgg9,sizeOf9,zeroValue9,underlying21,isAgg21,sizeOf21,zeroValue21,underlying55,isAgg55,sizeOf55,zeroValue55,underlying174,isAgg174,sizeOf174,zeroValue174,underlying181,isAgg181,sizeOf181,zeroValue181,underlying286,isAgg286,sizeOf286,zeroValue286,underlying224,isAgg224,sizeOf224,zeroValue224,underlying172,isAgg172,sizeOf172,underlying226,isAgg226,sizeOf226,zeroValue226,underlying221,isAgg221,sizeOf221,zeroValue221,underlying223,isAgg223,sizeOf223,zeroValue223,underlying282,isAgg282,sizeOf282,zeroValue282,underlying283,isAgg283,sizeOf283,zeroValue283,underlying285,isAgg285,sizeOf285,zeroValue285,underlying288,isAgg288,sizeOf288,zeroValue288,underlying291,isAgg291,sizeOf291,zeroValue291,underlying314,isAgg314,sizeOf314,zeroValue314,underlying315,isAgg315,sizeOf315,zeroValue315,by kernel_rfl,by kernel_rfl⟩
open Go.RowKit Go.Lib in
theorem Tryz.strings_Fields (s:ByteArray) (w:World) (hs:s.size<4294967281) (hascii: ∀(j:Nat) b,s.data.toList[j]? =some b→b.toNat<128) (htab:Lib.TabIs prog w "strings.asciiSpace" .u8 Lib.asciiSpaceTab):
 Calls prog 72 #[.string s] w fun e w'=>e= .returned (.slice (some ⟨w.heap.size,0,none⟩) (Lib.fields s.data.toList).length (Lib.fields s.data.toList).length)∧w'=w.alloc (.cells ((Lib.fields s.data.toList).map fun l=>Value.string ⟨l.toArray⟩).toArray 9):=Any.strings_Fields Tryz.lays157 (by kernel_rfl) (by kernel_rfl) s w hs hascii htab
def Tryz.lays152_ren:Go.Shelf.Ren:=⟨fun|152=>117|137=>58|119=>174|224=>175|225=>176|217=>109|266=>165|n=>n,fun|9=>9|21=>21|3=>3|4=>4|5=>5|0=>0|46=>181|n=>n,fun|n=>n⟩
theorem Tryz.lays152:Go.Proofs.Lays.n152 prog Tryz.lays152_ren:=⟨by kernel_rfl,func174.trans (cK (by kernel_rfl)),func58.trans (cK (by kernel_rfl)),func117.trans (cK (by kernel_rfl)),func109.trans (cK (by kernel_rfl)),func175.trans (cK (by kernel_rfl)),func176.trans (cK (by kernel_rfl)),func165.trans (cK (by kernel_rfl)),underlying0,isAgg0,sizeOf0,zeroValue0,underlying3,isAgg3,sizeOf3,zeroValue3,underlying4,isAgg4,sizeOf4,zeroValue4,underlying5,isAgg5,sizeOf5,zeroValue5,underlying9,isAgg9,sizeOf9,zeroValue9,underlying21,isAgg21,sizeOf21,zeroValue21,underlying181,isAgg181,sizeOf181,zeroValue181⟩
open Go.RowKit Go.Lib in
theorem Tryz.strings_IndexRune_ascii (s:ByteArray) (r:Int) (w:World) (h0:0≤r) (h1:r<128):
 Calls prog 117 #[.string s,.int .i32 r] w fun e w'=>e= .returned (.int .i64 (Lib.indexByte s.data.toList r.toNat.toUInt8))∧w'=w:=Any.strings_IndexRune_ascii Tryz.lays152 s r w h0 h1
def Tryz.lays151_ren:Go.Shelf.Ren:=⟨fun|151=>61|152=>117|137=>58|119=>174|224=>175|225=>176|217=>109|266=>165|n=>n,fun|9=>9|21=>21|4=>4|3=>3|5=>5|0=>0|46=>181|n=>n,fun|n=>n⟩
theorem Tryz.lays151:Go.Proofs.Lays.n151 prog Tryz.lays151_ren:=⟨by kernel_rfl,func174.trans (cK (by kernel_rfl)),func58.trans (cK (by kernel_rfl)),func61.trans (cK (by kernel_rfl)),func117.trans (cK (by kernel_rfl)),func109.trans (cK (by kernel_rfl)),func175.trans (cK (by kernel_rfl)),func176.trans (cK (by kernel_rfl)),func165.trans (cK (by kernel_rfl)),underlying0,isAgg0,sizeOf0,zeroValue0,underlying3,isAgg3,sizeOf3,zeroValue3,underlying4,isAgg4,sizeOf4,zeroValue4,underlying5,isAgg5,sizeOf5,zeroValue5,underlying9,isAgg9,sizeOf9,zeroValue9,underlying21,isAgg21,sizeOf21,zeroValue21,underlying181,isAgg181,sizeOf181,zeroValue181⟩
open Go.RowKit Go.Lib in
theorem Tryz.strings_ContainsRune_ascii (s:ByteArray) (r:Int) (w:World) (h0:0≤r) (h1:r<128):
 Calls prog 61 #[.string s,.int .i32 r] w fun e w'=>e= .returned (.bool (decide (0≤Lib.indexByte s.data.toList r.toNat.toUInt8)))∧w'=w:=Any.strings_ContainsRune_ascii Tryz.lays151 s r w h0 h1
def Tryz.lays226_ren:Go.Shelf.Ren:=⟨fun|226=>227|n=>n,fun|3=>3|4=>4|n=>n,fun|n=>n⟩
theorem Tryz.lays226:Go.Proofs.Lays.n226 prog Tryz.lays226_ren:=⟨by kernel_rfl,func227.trans (cK (by kernel_rfl)),underlying3,isAgg3,sizeOf3,zeroValue3,underlying4,isAgg4,sizeOf4,zeroValue4⟩
open Go.RowKit Go.Lib in
theorem Tryz.strings_shouldUseASCIISet (n:Int) (w:World):
 Calls prog 227 #[.int .i64 n] w fun e w'=>e= .returned (.bool (decide (8<n)))∧w'=w:=Any.strings_shouldUseASCIISet Tryz.lays226 n w
def Tryz.lays153_ren:Go.Shelf.Ren:=⟨fun|153=>195|152=>117|226=>227|227=>228|228=>229|137=>58|119=>174|224=>175|225=>176|217=>109|266=>165|n=>n,fun|9=>9|3=>3|4=>4|5=>5|21=>21|117=>297|116=>296|0=>0|46=>181|124=>316|n=>n,fun|n=>n⟩
theorem Tryz.lays153:Go.Proofs.Lays.n153 prog Tryz.lays153_ren:=⟨by kernel_rfl,func174.trans (cK (by kernel_rfl)),func58.trans (cK (by kernel_rfl)),func117.trans (cK (by kernel_rfl)),func195.trans (cK (by kernel_rfl)),func109.trans (cK (by kernel_rfl)),func175.trans (cK (by kernel_rfl)),func176.trans (cK (by kernel_rfl)),func227.trans (cK (by kernel_rfl)),func228.trans (cK (by kernel_rfl)),func229.trans (cK (by kernel_rfl)),func165.trans (cK (by kernel_rfl)),underlying0,isAgg0,sizeOf0,zeroValue0,underlying3,isAgg3,sizeOf3,zeroValue3,underlying4,isAgg4,sizeOf4,zeroValue4,underlying5,isAgg5,sizeOf5,zeroValue5,underlying9,isAgg9,sizeOf9,zeroValue9,underlying21,isAgg21,sizeOf21,zeroValue21,underlying181,isAgg181,sizeOf181,zeroValue181,underlying296,isAgg296,sizeOf296,underlying297,isAgg297,sizeOf297,zeroValue297,underlying316,isAgg316,sizeOf316,zeroValue316⟩
def Tryz.lays197_ren:Go.Shelf.Ren:=⟨fun|197=>168|260=>209|n=>n,fun|9=>9|21=>21|3=>3|4=>4|5=>5|105=>207|119=>172|0=>0|46=>181|139=>303|138=>302|n=>n,fun|3=>8|4=>9|n=>n⟩
theorem Tryz.lays197:Go.Proofs.Lays.n197 prog Tryz.lays197_ren:=⟨by kernel_rfl,func168.trans (cK (by kernel_rfl)),func209.trans (cK (by kernel_rfl)),underlying0,isAgg0,sizeOf0,zeroValue0,underlying3,isAgg3,sizeOf3,zeroValue3,underlying4,isAgg4,sizeOf4,zeroValue4,underlying5,isAgg5,sizeOf5,zeroValue5,underlying9,isAgg9,sizeOf9,zeroValue9,underlying21,isAgg21,sizeOf21,zeroValue21,underlying181,isAgg181,sizeOf181,zeroValue181,underlying207,isAgg207,sizeOf207,zeroValue207,underlying172,isAgg172,sizeOf172,underlying302,isAgg302,sizeOf302,zeroValue302,underlying303,isAgg303,sizeOf303,zeroValue303,by kernel_rfl,by kernel_rfl⟩
open Go.RowKit Go.Lib in
theorem Tryz.utf8_DecodeRuneInString (s:ByteArray) (w:World) (hT:Lib.Utf8Tabs 8 9 w):
 Calls prog 168 #[.string s] w fun e w'=>e= .returned (.tuple #[.int .i32 (Lib.decodeGo s).1,.int .i64 (Lib.decodeGo s).2])∧Below w.heap.size w w':=Any.utf8_DecodeRuneInString Tryz.lays197 s w hT
def Tryz.lays167_ren:Go.Shelf.Ren:=⟨fun|167=>112|240=>166|276=>207|n=>n,fun|0=>0|4=>4|5=>5|9=>9|20=>20|37=>113|70=>161|72=>163|75=>32|80=>166|164=>185|n=>n,fun|n=>n⟩
theorem Tryz.lays167:Go.Proofs.Lays.n167 prog Tryz.lays167_ren:=⟨by kernel_rfl,func112.trans (cK (by kernel_rfl)),func166.trans (cK (by kernel_rfl)),func207.trans (cK (by kernel_rfl)),underlying0,isAgg0,sizeOf0,zeroValue0,underlying4,isAgg4,sizeOf4,zeroValue4,underlying5,isAgg5,sizeOf5,zeroValue5,underlying9,isAgg9,sizeOf9,zeroValue9,underlying20,isAgg20,sizeOf20,zeroValue20,underlying113,isAgg113,sizeOf113,zeroValue113,underlying161,isAgg161,sizeOf161,zeroValue161,underlying163,isAgg163,sizeOf163,zeroValue163,underlying32,isAgg32,sizeOf32,zeroValue32,underlying185,isAgg185,sizeOf185,zeroValue185⟩
theorem Tryz.Builder_Extra_167:Builder.Extra prog Tryz.lays167_ren:={
 sizeBuilder:=by kernel_rfl
 liesBuilder:=by kernel_rfl
 t5:=underlying5
 a5:=isAgg5
 z5:=sizeOf5
 v5:=zeroValue5
 infoByte:=by kernel_rfl
 cellsByte:=by kernel_rfl
 sizeByte:=by kernel_rfl
 neB5:=by decide}
open Go.RowKit in
theorem Tryz.Builder_WriteByte (B b:Nat) (bs:List Value) (c:Int) (w:World) (h:Lib.IsBuilder 163 5 B b bs w) (hlen:bs.length+1≤140737488355328) (hBw:B≤w.heap.size):
 Calls prog 112 #[.pointer (some ⟨b,0,none⟩),.int .u8 c] w fun e w'=>e= .returned .nilIface∧(Lib.BuilderAt 163 5 B b (.pointer (some ⟨b,0,none⟩)) (bs++[.int .u8 c]) w'∧Below B w w'):=Any.Builder_WriteByte Tryz.lays167 Tryz.Builder_Extra_167 B b bs c w h hlen hBw
def Tryz.lays166_ren:Go.Shelf.Ren:=⟨fun|166=>111|240=>166|276=>207|n=>n,fun|0=>0|3=>3|4=>4|5=>5|9=>9|20=>20|37=>113|70=>161|72=>163|75=>32|80=>166|164=>185|n=>n,fun|n=>n⟩
theorem Tryz.lays166:Go.Proofs.Lays.n166 prog Tryz.lays166_ren:=⟨by kernel_rfl,func111.trans (cK (by kernel_rfl)),func166.trans (cK (by kernel_rfl)),func207.trans (cK (by kernel_rfl)),underlying0,isAgg0,sizeOf0,zeroValue0,underlying3,isAgg3,sizeOf3,zeroValue3,underlying4,isAgg4,sizeOf4,zeroValue4,underlying9,isAgg9,sizeOf9,zeroValue9,underlying20,isAgg20,sizeOf20,zeroValue20,underlying113,isAgg113,sizeOf113,zeroValue113,underlying161,isAgg161,sizeOf161,zeroValue161,underlying163,isAgg163,sizeOf163,zeroValue163,underlying32,isAgg32,sizeOf32,zeroValue32,underlying185,isAgg185,sizeOf185,zeroValue185⟩
theorem Tryz.Builder_Extra_166:Builder.Extra prog Tryz.lays166_ren:={
 sizeBuilder:=by kernel_rfl
 liesBuilder:=by kernel_rfl
 t5:=underlying5
 a5:=isAgg5
 z5:=sizeOf5
 v5:=zeroValue5
 infoByte:=by kernel_rfl
 cellsByte:=by kernel_rfl
 sizeByte:=by kernel_rfl
 neB5:=by decide}
end Go.Proofs
