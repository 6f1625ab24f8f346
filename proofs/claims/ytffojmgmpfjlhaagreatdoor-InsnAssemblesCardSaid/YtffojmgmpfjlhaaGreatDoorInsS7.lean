/- Parts of the proof: see the last text -/
import Derived.Test.YtffojmgmpfjlhaaGreatDoorInsS3
import Derived.Shelf.Strings.Builder1
import Derived.Shelf.Strings.Builder2
import Derived.Shelf.Strings.OnBuilder
import Derived.Shelf.Strings.BuilderF
import Derived.Shelf.Strings.BuilderK
import Derived.Shelf.Utf8.RuneCount
import Derived.Shelf.Strings.Builder2Cap
import Derived.Shelf.Strconv.Itoa0
import Derived.Shelf.Strconv.Itoa1
import Derived.Shelf.LaysM
import Derived.Shelf.Strconv.Itoa2
import Derived.Shelf.Strconv.Itoa3
import Derived.Shelf.Strconv.Itoa4
import Derived.Shelf.Strconv.ParseIntEmpty
import Derived.Shelf.Strconv.Clone
import Derived.Shelf.Strconv.SyntaxError
import Derived.Shelf.LaysC
import Derived.Shelf.Strconv.ToError
import Derived.Shelf.Strconv.Lower
import Derived.Shelf.Strconv.ParseUint10
import Derived.Shelf.Strconv.ParseUint10Empty
import Derived.Shelf.Strconv.ParseUint10Any
import Derived.Shelf.Strconv.ParseInt10
import Derived.Shelf.Strconv.RangeError
import Derived.Shelf.Strconv.ToErrorRange
import Derived.Shelf.Strconv.ParseUintEmpty
import Derived.Shelf.Strconv.ParseUint10b64
import Derived.Shelf.Strconv.ParseUint10b32
import Derived.Shelf.Strconv.ParseUint10b16
import Derived.Shelf.Strconv.ParseUint10b8
import Derived.Shelf.Strconv.ParseUint10At
import Derived.Shelf.Strconv.ParseInt10At64
import Derived.Shelf.Strconv.ParseInt10At32
import Derived.Shelf.Strconv.ParseInt10At16
import Derived.Shelf.Strconv.ParseInt10At8
import Derived.Shelf.Strconv.ParseInt10All
import Derived.Shelf.Strconv.ParseIntPublic10
import Derived.Shelf.Strconv.ErrVarParseInt
import Derived.Shelf.Strings.Search1
import Derived.Shelf.Strings.Search2
import Derived.Shelf.Strings.Search3
import Derived.Shelf.Strings.Cut
import Derived.Shelf.Strings.Count
import Derived.Shelf.Strings.Shaped
import Derived.Shelf.GgClosure.StringsIndexFunc
import Derived.Ground.GgwProg
import Derived.Shelf.GgClosure.StringsIndexFuncTop
import Derived.Shelf.GgClosure.StringsRunes
import Derived.Shelf.Strings.Prefix
import Derived.Shelf.Strings.Split
import Derived.Shelf.Strings.SplitShaped
import Derived.Shelf.Unicode.Decode
import Derived.Shelf.Strings.RuneCount
import Derived.Shelf.Strings.Explode
import Derived.Shelf.Unicode.DecodeSlow
import Derived.Shelf.Unicode.DecodeAny
import Derived.Shelf.Strings.FuncGrows
import Derived.Shelf.Strings.BuilderCap
import Derived.Test.YtffojmgmpfjlhaaGreatDoorProg
import Derived.Lib.AppendIntMem
set_option maxHeartbeats 8000000
set_option maxRecDepth 100000
set_option linter.unusedVariables false
set_option linter.unusedSimpArgs false
namespace Go.Proofs
open Go.Shelf
def Tryz.lays156_ren:Go.Shelf.Ren:=⟨fun | 156=>62 | 165=>94 | 166=>84 | 169=>85 | 240=>119 | 241=>123 | 276=>145 | 277=>151 | n=>n,fun | 31=>108 | 9=>9 | 3=>3 | 4=>4 | 0=>0 | 20=>20 | 72=>139 | 76=>142 | 70=>137 | 37=>24 | 75=>141 | 127=>178 | 164=>191 | 5=>5 | 80=>145 | n=>n,fun | n=>n⟩
theorem Tryz.lays156:Go.Proofs.Lays.n156 Tryz.prog Tryz.lays156_ren:={
 mixed:=by kernel_rfl
 f156:=Tryz.func62.trans (congrArg some (by kernel_rfl))
 f165:=Tryz.func94.trans (congrArg some (by kernel_rfl))
 f166:=Tryz.func84.trans (congrArg some (by kernel_rfl))
 f169:=Tryz.func85.trans (congrArg some (by kernel_rfl))
 f240:=Tryz.func119.trans (congrArg some (by kernel_rfl))
 f241:=Tryz.func123.trans (congrArg some (by kernel_rfl))
 f276:=Tryz.func145.trans (congrArg some (by kernel_rfl))
 f277:=Tryz.func151.trans (congrArg some (by kernel_rfl))
 t0:=Tryz.underlying0
 a0:=Tryz.isAgg0
 z0:=Tryz.sizeOf0
 v0:=Tryz.zeroValue0
 t3:=Tryz.underlying3
 a3:=Tryz.isAgg3
 z3:=Tryz.sizeOf3
 v3:=Tryz.zeroValue3
 t4:=Tryz.underlying4
 a4:=Tryz.isAgg4
 z4:=Tryz.sizeOf4
 v4:=Tryz.zeroValue4
 t9:=Tryz.underlying9
 a9:=Tryz.isAgg9
 z9:=Tryz.sizeOf9
 v9:=Tryz.zeroValue9
 t20:=Tryz.underlying20
 a20:=Tryz.isAgg20
 z20:=Tryz.sizeOf20
 v20:=Tryz.zeroValue20
 t31:=Tryz.underlying108
 a31:=Tryz.isAgg108
 z31:=Tryz.sizeOf108
 v31:=Tryz.zeroValue108
 t37:=Tryz.underlying24
 a37:=Tryz.isAgg24
 z37:=Tryz.sizeOf24
 v37:=Tryz.zeroValue24
 t70:=Tryz.underlying137
 a70:=Tryz.isAgg137
 z70:=Tryz.sizeOf137
 v70:=Tryz.zeroValue137
 t72:=Tryz.underlying139
 a72:=Tryz.isAgg139
 z72:=Tryz.sizeOf139
 v72:=Tryz.zeroValue139
 t75:=Tryz.underlying141
 a75:=Tryz.isAgg141
 z75:=Tryz.sizeOf141
 v75:=Tryz.zeroValue141
 t76:=Tryz.underlying142
 a76:=Tryz.isAgg142
 z76:=Tryz.sizeOf142
 v76:=Tryz.zeroValue142
 t127:=Tryz.underlying178
 a127:=Tryz.isAgg178
 z127:=Tryz.sizeOf178
 v127:=Tryz.zeroValue178
 t164:=Tryz.underlying191
 a164:=Tryz.isAgg191
 z164:=Tryz.sizeOf191
 v164:=Tryz.zeroValue191 }
theorem Tryz.Builder_Extra_156:Builder.Extra Tryz.prog Tryz.lays156_ren:={
 sizeBuilder:=by kernel_rfl
 liesBuilder:=by kernel_rfl
 t5:=Tryz.underlying5
 a5:=Tryz.isAgg5
 z5:=Tryz.sizeOf5
 v5:=Tryz.zeroValue5
 infoByte:=by kernel_rfl
 cellsByte:=by kernel_rfl
 sizeByte:=by kernel_rfl
 neB5:=by decide }
open Go.RowKit in
theorem Tryz.strings_Join_none (a:Option Addr) (c:Nat) (sep:ByteArray) (w:World) :
  Calls Tryz.prog 62 #[.slice a 0 c,.string sep] w fun e w'=>e=.returned (.string ⟨#[]⟩)∧w'=w:=Any.strings_Join_none Tryz.lays156 Tryz.Builder_Extra_156 a c sep w
open Go.RowKit in
theorem Tryz.strings_Join (bk o c:Nat) (xs:List ByteArray) (sep:ByteArray) (w:World) (hcells:∀ (j:Nat) x,xs[j]?=some x→w.cell? ⟨bk,o+j,none⟩=some (.string x)) (hbk:bk < w.heap.size) (hN:xs.length≤140737488355328) (hcap:xs.length≤c) (hlen:(Lib.join (xs.map (·.data.toList)) sep.data.toList).length≤140737488355328) :
  Calls Tryz.prog 62 #[.slice (some ⟨bk,o,none⟩) xs.length c,.string sep] w fun e w'=>e=.returned (.string ⟨(Lib.join (xs.map (·.data.toList)) sep.data.toList).toArray⟩)∧Below w.heap.size w w':=Any.strings_Join Tryz.lays156 Tryz.Builder_Extra_156 bk o c xs sep w hcells hbk hN hcap hlen
def Tryz.laysM171_ren:Go.Shelf.Ren:=⟨fun | 171=>121 | 243=>146 | 246=>122 | 283=>147 | 284=>148 | 285=>149 | 286=>150 | 129=>163 | 317=>162 | 318=>164 | 319=>165 | 320=>166 | 337=>175 | 338=>176 | n=>n,fun | 3=>3 | 9=>9 | 2=>2 | 4=>4 | 171=>193 | 0=>0 | 53=>82 | 37=>24 | 5=>5 | 173=>196 | 212=>206 | 51=>58 | 20=>20 | 213=>207 | 46=>149 | 232=>218 | 233=>219 | n=>n,fun | 17=>1 | 18=>3 | 19=>4 | n=>n⟩
theorem Tryz.laysM171:Go.Proofs.LaysM.n171 Tryz.prog Tryz.laysM171_ren:={
 mixed:=by kernel_rfl
 f129:=Tryz.func163.trans (congrArg some (by kernel_rfl))
 f171:=Tryz.func121.trans (congrArg some (by kernel_rfl))
 f243:=Tryz.func146.trans (congrArg some (by kernel_rfl))
 f246:=Tryz.func122.trans (congrArg some (by kernel_rfl))
 f283:=Tryz.func147.trans (congrArg some (by kernel_rfl))
 f284:=Tryz.func148.trans (congrArg some (by kernel_rfl))
 f285:=Tryz.func149.trans (congrArg some (by kernel_rfl))
 f286:=Tryz.func150.trans (congrArg some (by kernel_rfl))
 f317:=Tryz.func162.trans (congrArg some (by kernel_rfl))
 f318:=Tryz.func164.trans (congrArg some (by kernel_rfl))
 f319:=Tryz.func165.trans (congrArg some (by kernel_rfl))
 f320:=Tryz.func166.trans (congrArg some (by kernel_rfl))
 f337:=Tryz.func175.trans (congrArg some (by kernel_rfl))
 f338:=Tryz.func176.trans (congrArg some (by kernel_rfl))
 t0:=Tryz.underlying0
 a0:=Tryz.isAgg0
 z0:=Tryz.sizeOf0
 v0:=Tryz.zeroValue0
 t2:=Tryz.underlying2
 a2:=Tryz.isAgg2
 z2:=Tryz.sizeOf2
 v2:=Tryz.zeroValue2
 t3:=Tryz.underlying3
 a3:=Tryz.isAgg3
 z3:=Tryz.sizeOf3
 v3:=Tryz.zeroValue3
 t4:=Tryz.underlying4
 a4:=Tryz.isAgg4
 z4:=Tryz.sizeOf4
 v4:=Tryz.zeroValue4
 t5:=Tryz.underlying5
 a5:=Tryz.isAgg5
 z5:=Tryz.sizeOf5
 v5:=Tryz.zeroValue5
 t9:=Tryz.underlying9
 a9:=Tryz.isAgg9
 z9:=Tryz.sizeOf9
 v9:=Tryz.zeroValue9
 t20:=Tryz.underlying20
 a20:=Tryz.isAgg20
 z20:=Tryz.sizeOf20
 v20:=Tryz.zeroValue20
 t37:=Tryz.underlying24
 a37:=Tryz.isAgg24
 z37:=Tryz.sizeOf24
 v37:=Tryz.zeroValue24
 t46:=Tryz.underlying149
 a46:=Tryz.isAgg149
 z46:=Tryz.sizeOf149
 v46:=Tryz.zeroValue149
 t51:=Tryz.underlying58
 a51:=Tryz.isAgg58
 z51:=Tryz.sizeOf58
 v51:=Tryz.zeroValue58
 t53:=Tryz.underlying82
 a53:=Tryz.isAgg82
 z53:=Tryz.sizeOf82
 v53:=Tryz.zeroValue82
 t171:=Tryz.underlying193
 a171:=Tryz.isAgg193
 z171:=Tryz.sizeOf193
 v171:=Tryz.zeroValue193
 t173:=Tryz.underlying196
 a173:=Tryz.isAgg196
 z173:=Tryz.sizeOf196
 v173:=Tryz.zeroValue196
 t212:=Tryz.underlying206
 a212:=Tryz.isAgg206
 z212:=Tryz.sizeOf206
 v212:=Tryz.zeroValue206
 t213:=Tryz.underlying207
 a213:=Tryz.isAgg207
 z213:=Tryz.sizeOf207
 t232:=Tryz.underlying218
 a232:=Tryz.isAgg218
 z232:=Tryz.sizeOf218
 v232:=Tryz.zeroValue218
 t233:=Tryz.underlying219
 a233:=Tryz.isAgg219
 z233:=Tryz.sizeOf219
 v233:=Tryz.zeroValue219
 g17:=by kernel_rfl
 g18:=by kernel_rfl
 g19:=by kernel_rfl
 i0:=by kernel_rfl
 i2:=by kernel_rfl
 i3:=by kernel_rfl
 i4:=by kernel_rfl
 i5:=by kernel_rfl
 i9:=by kernel_rfl
 i20:=by kernel_rfl
 i37:=by kernel_rfl
 i46:=by kernel_rfl
 i51:=by kernel_rfl
 i53:=by kernel_rfl
 i171:=by kernel_rfl
 i173:=by kernel_rfl
 i212:=by kernel_rfl
 i232:=by kernel_rfl
 i233:=by kernel_rfl
 m17:=by kernel_rfl
 m18:=by kernel_rfl
 m19:=by kernel_rfl }
open Go.RowKit Go.Sort Go.Lib in
theorem Tryz.strconv_Itoa (n:Int) (h0:-9223372036854775808≤n) (h1:n≤9223372036854775807) (w:World) (htab:Lib.TabIs Tryz.prog w "internal/strconv.uint64pow10" .u64 Lib.pow10Tab) :
  Calls Tryz.prog 121 #[.int .i64 n] w fun e w'=>e=.returned (.string ⟨(Lib.itoa n).toArray⟩)∧∃ k os,w'=grow (w.drewN k) os:=Any.strconv_Itoa Tryz.laysM171 n h0 h1 w htab
def Tryz.laysM173_ren:Go.Shelf.Ren:=⟨fun | 173=>91 | 246=>122 | 283=>147 | 284=>148 | 285=>149 | 286=>150 | 129=>163 | 317=>162 | 318=>164 | 319=>165 | 320=>166 | 337=>175 | 338=>176 | n=>n,fun | 2=>2 | 3=>3 | 9=>9 | 4=>4 | 171=>193 | 0=>0 | 53=>82 | 37=>24 | 5=>5 | 173=>196 | 212=>206 | 51=>58 | 20=>20 | 213=>207 | 46=>149 | 232=>218 | 233=>219 | n=>n,fun | 17=>1 | 18=>3 | 19=>4 | n=>n⟩
theorem Tryz.laysM173:Go.Proofs.LaysM.n173 Tryz.prog Tryz.laysM173_ren:={
 mixed:=by kernel_rfl
 f129:=Tryz.func163.trans (congrArg some (by kernel_rfl))
 f173:=Tryz.func91.trans (congrArg some (by kernel_rfl))
 f246:=Tryz.func122.trans (congrArg some (by kernel_rfl))
 f283:=Tryz.func147.trans (congrArg some (by kernel_rfl))
 f284:=Tryz.func148.trans (congrArg some (by kernel_rfl))
 f285:=Tryz.func149.trans (congrArg some (by kernel_rfl))
 f286:=Tryz.func150.trans (congrArg some (by kernel_rfl))
 f317:=Tryz.func162.trans (congrArg some (by kernel_rfl))
 f318:=Tryz.func164.trans (congrArg some (by kernel_rfl))
 f319:=Tryz.func165.trans (congrArg some (by kernel_rfl))
 f320:=Tryz.func166.trans (congrArg some (by kernel_rfl))
 f337:=Tryz.func175.trans (congrArg some (by kernel_rfl))
 f338:=Tryz.func176.trans (congrArg some (by kernel_rfl))
 t0:=Tryz.underlying0
 a0:=Tryz.isAgg0
 z0:=Tryz.sizeOf0
 v0:=Tryz.zeroValue0
 t2:=Tryz.underlying2
 a2:=Tryz.isAgg2
 z2:=Tryz.sizeOf2
 v2:=Tryz.zeroValue2
 t3:=Tryz.underlying3
 a3:=Tryz.isAgg3
 z3:=Tryz.sizeOf3
 v3:=Tryz.zeroValue3
 t4:=Tryz.underlying4
 a4:=Tryz.isAgg4
 z4:=Tryz.sizeOf4
 v4:=Tryz.zeroValue4
 t5:=Tryz.underlying5
 a5:=Tryz.isAgg5
 z5:=Tryz.sizeOf5
 v5:=Tryz.zeroValue5
 t9:=Tryz.underlying9
 a9:=Tryz.isAgg9
 z9:=Tryz.sizeOf9
 v9:=Tryz.zeroValue9
 t20:=Tryz.underlying20
 a20:=Tryz.isAgg20
 z20:=Tryz.sizeOf20
 v20:=Tryz.zeroValue20
 t37:=Tryz.underlying24
 a37:=Tryz.isAgg24
 z37:=Tryz.sizeOf24
 v37:=Tryz.zeroValue24
 t46:=Tryz.underlying149
 a46:=Tryz.isAgg149
 z46:=Tryz.sizeOf149
 v46:=Tryz.zeroValue149
 t51:=Tryz.underlying58
 a51:=Tryz.isAgg58
 z51:=Tryz.sizeOf58
 v51:=Tryz.zeroValue58
 t53:=Tryz.underlying82
 a53:=Tryz.isAgg82
 z53:=Tryz.sizeOf82
 v53:=Tryz.zeroValue82
 t171:=Tryz.underlying193
 a171:=Tryz.isAgg193
 z171:=Tryz.sizeOf193
 v171:=Tryz.zeroValue193
 t173:=Tryz.underlying196
 a173:=Tryz.isAgg196
 z173:=Tryz.sizeOf196
 v173:=Tryz.zeroValue196
 t212:=Tryz.underlying206
 a212:=Tryz.isAgg206
 z212:=Tryz.sizeOf206
 v212:=Tryz.zeroValue206
 t213:=Tryz.underlying207
 a213:=Tryz.isAgg207
 z213:=Tryz.sizeOf207
 t232:=Tryz.underlying218
 a232:=Tryz.isAgg218
 z232:=Tryz.sizeOf218
 v232:=Tryz.zeroValue218
 t233:=Tryz.underlying219
 a233:=Tryz.isAgg219
 z233:=Tryz.sizeOf219
 v233:=Tryz.zeroValue219
 g17:=by kernel_rfl
 g18:=by kernel_rfl
 g19:=by kernel_rfl
 i0:=by kernel_rfl
 i2:=by kernel_rfl
 i3:=by kernel_rfl
 i4:=by kernel_rfl
 i5:=by kernel_rfl
 i9:=by kernel_rfl
 i20:=by kernel_rfl
 i37:=by kernel_rfl
 i46:=by kernel_rfl
 i51:=by kernel_rfl
 i53:=by kernel_rfl
 i171:=by kernel_rfl
 i173:=by kernel_rfl
 i212:=by kernel_rfl
 i232:=by kernel_rfl
 i233:=by kernel_rfl
 m17:=by kernel_rfl
 m18:=by kernel_rfl
 m19:=by kernel_rfl }
open Go.RowKit Go.Sort Go.Lib in
theorem Tryz.strconv_FormatInt_10 (n:Int) (h0:-9223372036854775808≤n) (h1:n≤9223372036854775807) (w:World) (htab:Lib.TabIs Tryz.prog w "internal/strconv.uint64pow10" .u64 Lib.pow10Tab) :
  Calls Tryz.prog 91 #[.int .i64 n,.int .i64 10] w fun e w'=>e=.returned (.string ⟨(Lib.itoa n).toArray⟩)∧∃ k os,w'=grow (w.drewN k) os:=Any.strconv_FormatInt_10 Tryz.laysM173 n h0 h1 w htab
def Tryz.laysC174_ren:Go.Shelf.Ren:=⟨fun | 174=>167 | 247=>177 | 245=>178 | 287=>182 | 279=>183 | 280=>184 | 281=>185 | 282=>186 | 321=>187 | 322=>188 | 316=>189 | 171=>121 | 205=>190 | 243=>146 | 246=>122 | 283=>147 | 284=>148 | 285=>149 | 286=>150 | 129=>163 | 317=>162 | 318=>164 | 319=>165 | 320=>166 | 337=>175 | 338=>176 | n=>n,fun | 9=>9 | 3=>3 | 2=>2 | 75=>141 | 85=>209 | 4=>4 | 167=>220 | 5=>5 | 53=>82 | 175=>221 | 46=>149 | 168=>223 | 37=>24 | 0=>0 | 210=>233 | 21=>21 | 127=>178 | 145=>237 | 143=>235 | 171=>193 | 173=>196 | 212=>206 | 51=>58 | 20=>20 | 213=>207 | 232=>218 | 233=>219 | 80=>145 | n=>n,fun | 15=>7 | 16=>8 | 17=>1 | 18=>3 | 19=>4 | n=>n⟩
theorem Tryz.laysC174:Go.Proofs.LaysC.n174 Tryz.prog Tryz.laysC174_ren:={
 mixed:=by kernel_rfl
 f129:=Tryz.func163.trans (congrArg some (by kernel_rfl))
 f171:=Tryz.func121.trans (congrArg some (by kernel_rfl))
 f174:=Tryz.func167.trans (congrArg some (by kernel_rfl))
 f205:=Tryz.func190.trans (congrArg some (by kernel_rfl))
 f243:=Tryz.func146.trans (congrArg some (by kernel_rfl))
 f245:=Tryz.func178.trans (congrArg some (by kernel_rfl))
 f246:=Tryz.func122.trans (congrArg some (by kernel_rfl))
 f247:=Tryz.func177.trans (congrArg some (by kernel_rfl))
 f279:=Tryz.func183.trans (congrArg some (by kernel_rfl))
 f280:=Tryz.func184.trans (congrArg some (by kernel_rfl))
 f281:=Tryz.func185.trans (congrArg some (by kernel_rfl))
 f282:=Tryz.func186.trans (congrArg some (by kernel_rfl))
 f283:=Tryz.func147.trans (congrArg some (by kernel_rfl))
 f284:=Tryz.func148.trans (congrArg some (by kernel_rfl))
 f285:=Tryz.func149.trans (congrArg some (by kernel_rfl))
 f286:=Tryz.func150.trans (congrArg some (by kernel_rfl))
 f287:=Tryz.func182.trans (congrArg some (by kernel_rfl))
 f316:=Tryz.func189.trans (congrArg some (by kernel_rfl))
 f317:=Tryz.func162.trans (congrArg some (by kernel_rfl))
 f318:=Tryz.func164.trans (congrArg some (by kernel_rfl))
 f319:=Tryz.func165.trans (congrArg some (by kernel_rfl))
 f320:=Tryz.func166.trans (congrArg some (by kernel_rfl))
 f321:=Tryz.func187.trans (congrArg some (by kernel_rfl))
 f322:=Tryz.func188.trans (congrArg some (by kernel_rfl))
 f337:=Tryz.func175.trans (congrArg some (by kernel_rfl))
 f338:=Tryz.func176.trans (congrArg some (by kernel_rfl))
 t0:=Tryz.underlying0
 a0:=Tryz.isAgg0
 z0:=Tryz.sizeOf0
 v0:=Tryz.zeroValue0
 t2:=Tryz.underlying2
 a2:=Tryz.isAgg2
 z2:=Tryz.sizeOf2
 v2:=Tryz.zeroValue2
 t3:=Tryz.underlying3
 a3:=Tryz.isAgg3
 z3:=Tryz.sizeOf3
 v3:=Tryz.zeroValue3
 t4:=Tryz.underlying4
 a4:=Tryz.isAgg4
 z4:=Tryz.sizeOf4
 v4:=Tryz.zeroValue4
 t5:=Tryz.underlying5
 a5:=Tryz.isAgg5
 z5:=Tryz.sizeOf5
 v5:=Tryz.zeroValue5
 t9:=Tryz.underlying9
 a9:=Tryz.isAgg9
 z9:=Tryz.sizeOf9
 v9:=Tryz.zeroValue9
 t20:=Tryz.underlying20
 a20:=Tryz.isAgg20
 z20:=Tryz.sizeOf20
 v20:=Tryz.zeroValue20
 t21:=Tryz.underlying21
 a21:=Tryz.isAgg21
 z21:=Tryz.sizeOf21
 v21:=Tryz.zeroValue21
 t37:=Tryz.underlying24
 a37:=Tryz.isAgg24
 z37:=Tryz.sizeOf24
 v37:=Tryz.zeroValue24
 t46:=Tryz.underlying149
 a46:=Tryz.isAgg149
 z46:=Tryz.sizeOf149
 v46:=Tryz.zeroValue149
 t51:=Tryz.underlying58
 a51:=Tryz.isAgg58
 z51:=Tryz.sizeOf58
 v51:=Tryz.zeroValue58
 t53:=Tryz.underlying82
 a53:=Tryz.isAgg82
 z53:=Tryz.sizeOf82
 v53:=Tryz.zeroValue82
 t75:=Tryz.underlying141
 a75:=Tryz.isAgg141
 z75:=Tryz.sizeOf141
 v75:=Tryz.zeroValue141
 t85:=Tryz.underlying209
 a85:=Tryz.isAgg209
 z85:=Tryz.sizeOf209
 v85:=Tryz.zeroValue209
 t127:=Tryz.underlying178
 a127:=Tryz.isAgg178
 z127:=Tryz.sizeOf178
 v127:=Tryz.zeroValue178
 t143:=Tryz.underlying235
 a143:=Tryz.isAgg235
 z143:=Tryz.sizeOf235
 v143:=Tryz.zeroValue235
 t145:=Tryz.underlying237
 a145:=Tryz.isAgg237
 z145:=Tryz.sizeOf237
 v145:=Tryz.zeroValue237
 t167:=Tryz.underlying220
 a167:=Tryz.isAgg220
 z167:=Tryz.sizeOf220
 v167:=Tryz.zeroValue220
 t168:=Tryz.underlying223
 a168:=Tryz.isAgg223
 z168:=Tryz.sizeOf223
 v168:=Tryz.zeroValue223
 t171:=Tryz.underlying193
 a171:=Tryz.isAgg193
 z171:=Tryz.sizeOf193
 v171:=Tryz.zeroValue193
 t173:=Tryz.underlying196
 a173:=Tryz.isAgg196
 z173:=Tryz.sizeOf196
 v173:=Tryz.zeroValue196
 t175:=Tryz.underlying221
 a175:=Tryz.isAgg221
 z175:=Tryz.sizeOf221
 v175:=Tryz.zeroValue221
 t210:=Tryz.underlying233
 a210:=Tryz.isAgg233
 z210:=Tryz.sizeOf233
 v210:=Tryz.zeroValue233
 t212:=Tryz.underlying206
 a212:=Tryz.isAgg206
 z212:=Tryz.sizeOf206
 v212:=Tryz.zeroValue206
 t213:=Tryz.underlying207
 a213:=Tryz.isAgg207
 z213:=Tryz.sizeOf207
 t232:=Tryz.underlying218
 a232:=Tryz.isAgg218
 z232:=Tryz.sizeOf218
 v232:=Tryz.zeroValue218
 t233:=Tryz.underlying219
 a233:=Tryz.isAgg219
 z233:=Tryz.sizeOf219
 v233:=Tryz.zeroValue219
 g15:=by kernel_rfl
 g16:=by kernel_rfl
 g17:=by kernel_rfl
 g18:=by kernel_rfl
 g19:=by kernel_rfl
 t80:=Tryz.underlying145
 a80:=Tryz.isAgg145
 z80:=Tryz.sizeOf145
 v80:=Tryz.zeroValue145
 i0:=by kernel_rfl
 i2:=by kernel_rfl
 i3:=by kernel_rfl
 i4:=by kernel_rfl
 i5:=by kernel_rfl
 i9:=by kernel_rfl
 i20:=by kernel_rfl
 i21:=by kernel_rfl
 i37:=by kernel_rfl
 i46:=by kernel_rfl
 i51:=by kernel_rfl
 i53:=by kernel_rfl
 i75:=by kernel_rfl
 i80:=by kernel_rfl
 i85:=by kernel_rfl
 i127:=by kernel_rfl
 i143:=by kernel_rfl
 i145:=by kernel_rfl
 i167:=by kernel_rfl
 i168:=by kernel_rfl
 i171:=by kernel_rfl
 i173:=by kernel_rfl
 i175:=by kernel_rfl
 i210:=by kernel_rfl
 i212:=by kernel_rfl
 i232:=by kernel_rfl
 i233:=by kernel_rfl
 m15:=by kernel_rfl
 m16:=by kernel_rfl
 m17:=by kernel_rfl
 m18:=by kernel_rfl
 m19:=by kernel_rfl
 c0:=by kernel_rfl
 c2:=by kernel_rfl
 c3:=by kernel_rfl
 c4:=by kernel_rfl
 c5:=by kernel_rfl
 c9:=by kernel_rfl
 c20:=by kernel_rfl
 c21:=by kernel_rfl
 c37:=by kernel_rfl
 c46:=by kernel_rfl
 c51:=by kernel_rfl
 c53:=by kernel_rfl
 c75:=by kernel_rfl
 c80:=by kernel_rfl
 c85:=by kernel_rfl
 c127:=by kernel_rfl
 c143:=by kernel_rfl
 c145:=by kernel_rfl
 c167:=by kernel_rfl
 c168:=by kernel_rfl
 c171:=by kernel_rfl
 c173:=by kernel_rfl
 c175:=by kernel_rfl
 c210:=by kernel_rfl
 c212:=by kernel_rfl
 c213:=by kernel_rfl
 c232:=by kernel_rfl
 c233:=by kernel_rfl }
open Go.RowKit in
theorem Tryz.strconv_ParseInt_10_at64_ok (s:ByteArray) (hmax:s.size≤9223372036854775806) (v:Int) (h:Lib.parseIntB 64 s.data.toList=.ok v) (w:World) :
  Calls Tryz.prog 167 #[.string s,.int .i64 10,.int .i64 64] w fun e w'=>e=.returned (.tuple #[.int .i64 v,.nilIface])∧(w'=w∨∃ t,w'=Lib.bytesWorld w 5 t):=Any.strconv_ParseInt_10_at64_ok Tryz.laysC174 s hmax v h w
open Go.RowKit in
theorem Tryz.strconv_ParseInt_10_at64_syntax (s:ByteArray) (hlim:s.size≤281474976710656) (h:Lib.parseIntB 64 s.data.toList=Lib.parseIntB 64 []) (ev:Value) (w:World) (hv:w.cell? ⟨7,0,none⟩=some ev) (hev:ev=.nilIface∨∃ te pe,ev=.iface te pe) :
  Calls Tryz.prog 167 #[.string s,.int .i64 10,.int .i64 64] w fun e w'=>∃ N,e=.returned (.tuple #[.int .i64 (0),.iface 223 (.pointer (some ⟨N,0,none⟩))])∧w.heap.size≤N∧w'.heap[N]?=some (.cells #[.string ⟨#[80,97,114,115,101,73,110,116]⟩,.string s,ev] 233 (0,0))∧Below w.heap.size w w':=Any.strconv_ParseInt_10_at64_syntax Tryz.laysC174 s hlim (h.trans (by rfl)) ev w hv hev
open Go.RowKit in
theorem Tryz.strconv_ParseInt_10_at64_range (s:ByteArray) (hlim:s.size≤281474976710656) (h:Lib.parseIntB 64 s.data.toList=.range) (ev:Value) (w:World) (hv:w.cell? ⟨8,0,none⟩=some ev) (hev:ev=.nilIface∨∃ te pe,ev=.iface te pe) :
  Calls Tryz.prog 167 #[.string s,.int .i64 10,.int .i64 64] w fun e w'=>∃ N,e=.returned (.tuple #[.int .i64 (Lib.intSat 64 s.data.toList),.iface 223 (.pointer (some ⟨N,0,none⟩))])∧w.heap.size≤N∧w'.heap[N]?=some (.cells #[.string ⟨#[80,97,114,115,101,73,110,116]⟩,.string s,ev] 233 (0,0))∧Below w.heap.size w w':=Any.strconv_ParseInt_10_at64_range Tryz.laysC174 s hlim h ev w hv hev
def Tryz.lays145_ren:Go.Shelf.Ren:=⟨fun | 145=>111 | 220=>141 | 219=>159 | 217=>171 | 225=>172 | 224=>173 | 267=>174 | 266=>180 | 314=>181 | n=>n,fun | 9=>9 | 4=>4 | 59=>167 | 3=>3 | 5=>5 | 46=>149 | 146=>216 | 51=>58 | n=>n,fun | 1=>2 | n=>n⟩
theorem Tryz.lays145:Go.Proofs.Lays.n145 Tryz.prog Tryz.lays145_ren:={
 mixed:=by kernel_rfl
 f145:=Tryz.func111.trans (congrArg some (by kernel_rfl))
 f217:=Tryz.func171.trans (congrArg some (by kernel_rfl))
 f219:=Tryz.func159.trans (congrArg some (by kernel_rfl))
 f220:=Tryz.func141.trans (congrArg some (by kernel_rfl))
 f224:=Tryz.func173.trans (congrArg some (by kernel_rfl))
 f225:=Tryz.func172.trans (congrArg some (by kernel_rfl))
 f266:=Tryz.func180.trans (congrArg some (by kernel_rfl))
 f267:=Tryz.func174.trans (congrArg some (by kernel_rfl))
 f314:=Tryz.func181.trans (congrArg some (by kernel_rfl))
 t3:=Tryz.underlying3
 a3:=Tryz.isAgg3
 z3:=Tryz.sizeOf3
 v3:=Tryz.zeroValue3
 t4:=Tryz.underlying4
 a4:=Tryz.isAgg4
 z4:=Tryz.sizeOf4
 v4:=Tryz.zeroValue4
 t5:=Tryz.underlying5
 a5:=Tryz.isAgg5
 z5:=Tryz.sizeOf5
 v5:=Tryz.zeroValue5
 t9:=Tryz.underlying9
 a9:=Tryz.isAgg9
 z9:=Tryz.sizeOf9
 v9:=Tryz.zeroValue9
 t46:=Tryz.underlying149
 a46:=Tryz.isAgg149
 z46:=Tryz.sizeOf149
 v46:=Tryz.zeroValue149
 t51:=Tryz.underlying58
 a51:=Tryz.isAgg58
 z51:=Tryz.sizeOf58
 v51:=Tryz.zeroValue58
 t59:=Tryz.underlying167
 a59:=Tryz.isAgg167
 z59:=Tryz.sizeOf167
 v59:=Tryz.zeroValue167
 t146:=Tryz.underlying216
 a146:=Tryz.isAgg216
 z146:=Tryz.sizeOf216
 v146:=Tryz.zeroValue216
 g1:=by kernel_rfl }
open Go.RowKit Go.Lib in
theorem Tryz.strings_Cut (s sep:ByteArray) (m:Int) (w:World) (hs:s.size < 4294967281) (hm:w.cell? ⟨2,0,none⟩=some (.int .i64 m)) :
  Calls Tryz.prog 111 #[.string s,.string sep] w fun e w'=>e=.returned (.tuple #[.string ⟨(Lib.cut s.data.toList sep.data.toList).1.toArray⟩,.string ⟨(Lib.cut s.data.toList sep.data.toList).2.1.toArray⟩,.bool (Lib.cut s.data.toList sep.data.toList).2.2])∧∃ n,w'=w.drewN n:=Any.strings_Cut Tryz.lays145 s sep m w hs hm
def Tryz.laysGw15_ren:Go.Shelf.Ren:=⟨fun | 15=>143 | 20=>161 | n=>n,fun | 9=>9 | 23=>190 | 3=>3 | 4=>4 | 0=>0 | 21=>21 | n=>n,fun | n=>n⟩
theorem Tryz.laysGw15:Go.Proofs.LaysGw.n15 Tryz.prog Tryz.laysGw15_ren:={
 mixed:=by kernel_rfl
 f15:=Tryz.func143.trans (congrArg some (by kernel_rfl))
 f20:=Tryz.func161.trans (congrArg some (by kernel_rfl))
 t0:=Tryz.underlying0
 a0:=Tryz.isAgg0
 z0:=Tryz.sizeOf0
 v0:=Tryz.zeroValue0
 i0:=by kernel_rfl
 t3:=Tryz.underlying3
 a3:=Tryz.isAgg3
 z3:=Tryz.sizeOf3
 v3:=Tryz.zeroValue3
 i3:=by kernel_rfl
 t4:=Tryz.underlying4
 a4:=Tryz.isAgg4
 z4:=Tryz.sizeOf4
 v4:=Tryz.zeroValue4
 i4:=by kernel_rfl
 t9:=Tryz.underlying9
 a9:=Tryz.isAgg9
 z9:=Tryz.sizeOf9
 v9:=Tryz.zeroValue9
 i9:=by kernel_rfl
 t21:=Tryz.underlying21
 a21:=Tryz.isAgg21
 z21:=Tryz.sizeOf21
 v21:=Tryz.zeroValue21
 i21:=by kernel_rfl
 t23:=Tryz.underlying190
 a23:=Tryz.isAgg190
 z23:=Tryz.sizeOf190
 v23:=Tryz.zeroValue190
 i23:=by kernel_rfl }
def Tryz.lays99_ren:Go.Shelf.Ren:=⟨fun | 99=>142 | 206=>160 | n=>n,fun | 9=>9 | 4=>4 | 3=>3 | n=>n,fun | n=>n⟩
theorem Tryz.lays99:Go.Proofs.Lays.n99 Tryz.prog Tryz.lays99_ren:={
 mixed:=by kernel_rfl
 f99:=Tryz.func142.trans (congrArg some (by kernel_rfl))
 f206:=Tryz.func160.trans (congrArg some (by kernel_rfl))
 t3:=Tryz.underlying3
 a3:=Tryz.isAgg3
 z3:=Tryz.sizeOf3
 v3:=Tryz.zeroValue3
 t4:=Tryz.underlying4
 a4:=Tryz.isAgg4
 z4:=Tryz.sizeOf4
 v4:=Tryz.zeroValue4
 t9:=Tryz.underlying9
 a9:=Tryz.isAgg9
 z9:=Tryz.sizeOf9
 v9:=Tryz.zeroValue9 }
open Go.RowKit Go.Lib in
theorem Tryz.strings_HasPrefix (s p:ByteArray) (w:World) :
  Calls Tryz.prog 142 #[.string s,.string p] w fun e w'=>e=.returned (.bool (Lib.hasPrefix s.data.toList p.data.toList))∧w'=w:=Any.strings_HasPrefix Tryz.lays99 s p w
def Tryz.lays146_ren:Go.Shelf.Ren:=⟨fun | 146=>110 | 221=>140 | 268=>156 | 138=>157 | 143=>158 | 195=>168 | 197=>169 | 218=>170 | 219=>159 | 260=>179 | 217=>171 | 225=>172 | 224=>173 | 267=>174 | 266=>180 | 314=>181 | n=>n,fun | 9=>9 | 31=>108 | 3=>3 | 4=>4 | 0=>0 | 105=>211 | 21=>21 | 5=>5 | 46=>149 | 119=>226 | 139=>229 | 138=>228 | 146=>216 | 51=>58 | n=>n,fun | 1=>2 | 3=>5 | 4=>6 | n=>n⟩
theorem Tryz.lays146:Go.Proofs.Lays.n146 Tryz.prog Tryz.lays146_ren:={
 mixed:=by kernel_rfl
 f138:=Tryz.func157.trans (congrArg some (by kernel_rfl))
 f143:=Tryz.func158.trans (congrArg some (by kernel_rfl))
 f146:=Tryz.func110.trans (congrArg some (by kernel_rfl))
 f195:=Tryz.func168.trans (congrArg some (by kernel_rfl))
 f197:=Tryz.func169.trans (congrArg some (by kernel_rfl))
 f217:=Tryz.func171.trans (congrArg some (by kernel_rfl))
 f218:=Tryz.func170.trans (congrArg some (by kernel_rfl))
 f219:=Tryz.func159.trans (congrArg some (by kernel_rfl))
 f221:=Tryz.func140.trans (congrArg some (by kernel_rfl))
 f224:=Tryz.func173.trans (congrArg some (by kernel_rfl))
 f225:=Tryz.func172.trans (congrArg some (by kernel_rfl))
 f260:=Tryz.func179.trans (congrArg some (by kernel_rfl))
 f266:=Tryz.func180.trans (congrArg some (by kernel_rfl))
 f267:=Tryz.func174.trans (congrArg some (by kernel_rfl))
 f268:=Tryz.func156.trans (congrArg some (by kernel_rfl))
 f314:=Tryz.func181.trans (congrArg some (by kernel_rfl))
 t0:=Tryz.underlying0
 a0:=Tryz.isAgg0
 z0:=Tryz.sizeOf0
 v0:=Tryz.zeroValue0
 t3:=Tryz.underlying3
 a3:=Tryz.isAgg3
 z3:=Tryz.sizeOf3
 v3:=Tryz.zeroValue3
 t4:=Tryz.underlying4
 a4:=Tryz.isAgg4
 z4:=Tryz.sizeOf4
 v4:=Tryz.zeroValue4
 t5:=Tryz.underlying5
 a5:=Tryz.isAgg5
 z5:=Tryz.sizeOf5
 v5:=Tryz.zeroValue5
 t9:=Tryz.underlying9
 a9:=Tryz.isAgg9
 z9:=Tryz.sizeOf9
 v9:=Tryz.zeroValue9
 t21:=Tryz.underlying21
 a21:=Tryz.isAgg21
 z21:=Tryz.sizeOf21
 v21:=Tryz.zeroValue21
 t31:=Tryz.underlying108
 a31:=Tryz.isAgg108
 z31:=Tryz.sizeOf108
 v31:=Tryz.zeroValue108
 t46:=Tryz.underlying149
 a46:=Tryz.isAgg149
 z46:=Tryz.sizeOf149
 v46:=Tryz.zeroValue149
 t51:=Tryz.underlying58
 a51:=Tryz.isAgg58
 z51:=Tryz.sizeOf58
 v51:=Tryz.zeroValue58
 t105:=Tryz.underlying211
 a105:=Tryz.isAgg211
 z105:=Tryz.sizeOf211
 v105:=Tryz.zeroValue211
 t119:=Tryz.underlying226
 a119:=Tryz.isAgg226
 z119:=Tryz.sizeOf226
 t138:=Tryz.underlying228
 a138:=Tryz.isAgg228
 z138:=Tryz.sizeOf228
 v138:=Tryz.zeroValue228
 t139:=Tryz.underlying229
 a139:=Tryz.isAgg229
 z139:=Tryz.sizeOf229
 v139:=Tryz.zeroValue229
 t146:=Tryz.underlying216
 a146:=Tryz.isAgg216
 z146:=Tryz.sizeOf216
 v146:=Tryz.zeroValue216
 g1:=by kernel_rfl
 g3:=by kernel_rfl
 g4:=by kernel_rfl }
open Go.RowKit Go.Lib in
theorem Tryz.strings_Split (s sep:ByteArray) (m:Int) (w:World) (hs:s.size < 4294967281) (hm:w.cell? ⟨2,0,none⟩=some (.int .i64 m)) (h1:1≤sep.size) :
  Calls Tryz.prog 110 #[.string s,.string sep] w fun e w' =>
   e=.returned (.slice (some ⟨w.heap.size,0,none⟩) (Lib.countB s sep+1) (Lib.countB s sep+1))∧w'=w.alloc (.cells ((Lib.splitB sep 0 (Lib.countB s sep) s).map Value.string).toArray 9):=Any.strings_Split Tryz.lays146 (by kernel_rfl) s sep m w hs hm h1
open Go.RowKit Go.Lib in
theorem Tryz.strings_IndexFunc_grows (g:Nat) (lb:Array Value) (eg:∀ args w,(callFunc g args).run Tryz.prog w=.ok (.enter g args) w) (p:Nat→Bool) (s:ByteArray) (w:World) (hp:PredGrows Tryz.prog g lb p w) :
  Calls Tryz.prog 143 #[.string s,.func (.func g) #[] lb] w fun e w'=>e=.returned (.int .i64 (Lib.idxFunc p true s))∧Below w.heap.size w w':=Any.strings_IndexFunc_grows Tryz.laysGw15 g lb eg p s w hp
end Go.Proofs
namespace Go.Proofs.YtffojmgmpfjlhaaGreatDoor.Q
open Go.RowKit Go.Proofs.YtffojmgmpfjlhaaGreatDoor
def strconv_Itoa.f (a0:Int):Option ByteArray:=if -9223372036854775808≤a0∧a0≤9223372036854775807 then some (bS (Lib.itoa a0)) else none
def strconv_FormatInt.f (a0 a1:Int):Option ByteArray:=if a1=10∧-9223372036854775808≤a0∧a0≤9223372036854775807 then some (bS (Lib.itoa a0)) else none
theorem strconv_Itoa.calls (a0:Int) (r:ByteArray) (w:World) (h:strconv_Itoa.f a0=some r) (hgw:GW w) :
  Calls Tryz.prog 121 #[.int .i64 a0] w fun e w'=>e=.returned (.string r)∧Below w.heap.size w w':=by
 unfold strconv_Itoa.f at h
 split at h
 ·rename_i hc
  cases h
  refine (Tryz.strconv_Itoa a0 hc.1 hc.2 w hgw.pow).mono ?_
  rintro e w' ⟨rfl,k,os,rfl⟩
  exact ⟨rfl,Lib.below_grow _ w (Nat.le_refl _) k os⟩
 ·cases h
theorem strconv_FormatInt.calls (a0 a1:Int) (r:ByteArray) (w:World) (h:strconv_FormatInt.f a0 a1=some r) (hgw:GW w) :
  Calls Tryz.prog 91 #[.int .i64 a0,.int .i64 a1] w fun e w'=>e=.returned (.string r)∧Below w.heap.size w w':=by
 unfold strconv_FormatInt.f at h
 split at h
 ·rename_i hc
  obtain ⟨rfl,h1,h2⟩:=hc
  cases h
  refine (Tryz.strconv_FormatInt_10 a0 h1 h2 w hgw.pow).mono ?_
  rintro e w' ⟨rfl,k,os,rfl⟩
  exact ⟨rfl,Lib.below_grow _ w (Nat.le_refl _) k os⟩
 ·cases h
end Go.Proofs.YtffojmgmpfjlhaaGreatDoor.Q
namespace Go.Proofs.YtffojmgmpfjlhaaGreatDoor.Q
open Go.Proofs.YtffojmgmpfjlhaaGreatDoor Go.RowKit Go.Proofs.YtffojmgmpfjlhaaGreatDoorW.PrintWords Go.Proofs.YtffojmgmpfjlhaaGreatDoorW.PrintLast Go.Proofs.YtffojmgmpfjlhaaGreatDoorW.PrintMore
attribute [local go_sem] max2_int min2_int max_two min_two max_three min_three max_four min_four
def insn_register.f (a0:Int):Option (ByteArray):=(strconv_Itoa.f a0).bind fun t161=>(if 1+t161.size≤9223372036854775807 then (some ((⟨#[114]⟩:zB) ++ t161)) else (none))
theorem insn_register.calls (a0:Int) (r:ByteArray) (w:World) (h:insn_register.f a0=some r) (hgw:GW w) :
  Calls Tryz.prog 90 #[.int .i64 a0] w fun e w'=>e=.returned (.string r)∧Below w.heap.size w w':=by
 have HB:=Aside0.mk (Below.refl w.heap.size w);unfold insn_register.f at h;have H:=h;clear h;obtain ⟨t161,A2,H⟩:=bas H;(try dsimp only at H);by_cases c3:1+t161.size≤9223372036854775807
 ·rw [if_pos c3] at H;have c3b0:=eq_true c3;have c3b1:=decide_eq_true c3;try have c3b2:(9223372036854775807 < 1+t161.size)=False:=eq_false (Nat.not_lt.2 c3)
  obtain rfl:=Option.some.inj H;go_enter Tryz.func90,Tryz.ntmps90
  go_wp2_with (first | ((with_reducible refine gate_callee (f:=121) rfl ?_);refine gl (some 4) Tryz.func121 #[.int .i64 a0] ?_;(with_reducible refine (strconv_Itoa.calls a0 _ _ A2.out gwy).mono ?_);rintro e w4 ⟨rfl,hb⟩;refine ⟨_,rfl,?_⟩;replace HB:=Aside0.mk (below_step blw hb);clear hb))
  go_ret;exact ⟨rew,blw⟩
 ·rw [if_neg c3] at H;exact absurd H (by simp)
def insn_address.f (a0_0:Int) (a0_1:Int) (a0_2:Int) (a0_3:Int):Option (ByteArray):=if a0_3 > 0 then ((insn_register.f a0_2).bind fun t163=>(if 1+t163.size≤9223372036854775807 then (if ((⟨#[91]⟩:zB) ++ t163).size+1≤9223372036854775807 then ((strconv_FormatInt.f a0_3 10).bind fun t164=>(if (((⟨#[91]⟩:zB) ++ t163) ++ (⟨#[43]⟩:zB)).size+t164.size≤9223372036854775807 then (if ((((⟨#[91]⟩:zB) ++ t163) ++ (⟨#[43]⟩:zB)) ++ t164).size+1≤9223372036854775807 then (some (((((⟨#[91]⟩:zB) ++ t163) ++ (⟨#[43]⟩:zB)) ++ t164) ++ (⟨#[93]⟩:zB))) else (none)) else (none))) else (none)) else (none))) else (if a0_3 < 0 then ((insn_register.f a0_2).bind fun t165=>(if 1+t165.size≤9223372036854775807 then ((strconv_FormatInt.f a0_3 10).bind fun t166=>(if ((⟨#[91]⟩:zB) ++ t165).size+t166.size≤9223372036854775807 then (if (((⟨#[91]⟩:zB) ++ t165) ++ t166).size+1≤9223372036854775807 then (some ((((⟨#[91]⟩:zB) ++ t165) ++ t166) ++ (⟨#[93]⟩:zB))) else (none)) else (none))) else (none))) else ((insn_register.f a0_2).bind fun t167=>(if 1+t167.size≤9223372036854775807 then (if ((⟨#[91]⟩:zB) ++ t167).size+1≤9223372036854775807 then (some (((⟨#[91]⟩:zB) ++ t167) ++ (⟨#[93]⟩:zB))) else (none)) else (none))))
def insn_address.T2:Bool × List (List Nat × List Nat):=(true,[([],[]),([0],[0]),([1],[1]),([2],[2]),([3],[3]),([],[]),([5],[5]),([6,2],[6]),([4,7],[4,7]),([8],[8]),([9,7,0,1,2,3,4,5,6,7,8,9],[9])])
def insn_address.B2:List Nat:=[0,1,3,7,15,0,32,103,255,511,1023]
theorem insn_address.tab2:rtab .any (opsOf Tryz.f92 2)=insn_address.T2:=by kernel_rfl
theorem insn_address.bits2:waitsOk insn_address.T2.2 insn_address.B2=true:=by kernel_rfl
def insn_address.T4:Bool × List (List Nat × List Nat):=(true,[([],[]),([0],[0]),([1],[1]),([2],[2]),([],[]),([4],[4]),([5,2],[5]),([3,6],[3,6]),([7],[7]),([8,6,0,1,2,3,4,5,6,7,8],[8])])
def insn_address.B4:List Nat:=[0,1,3,7,0,16,55,127,255,511]
theorem insn_address.tab4:rtab .any (opsOf Tryz.f92 4)=insn_address.T4:=by kernel_rfl
theorem insn_address.bits4:waitsOk insn_address.T4.2 insn_address.B4=true:=by kernel_rfl
theorem insn_address.calls (a0_0:Int) (a0_1:Int) (a0_2:Int) (a0_3:Int) (r:ByteArray) (w:World) (h:insn_address.f a0_0 a0_1 a0_2 a0_3=some r) (hgw:GW w) :
  Calls Tryz.prog 92 #[.agg #[.int .i64 a0_0,.int .i64 a0_1,.int .i64 a0_2,.int .i64 a0_3]] w fun e w'=>e=.returned (.string r)∧Below w.heap.size w w':=by
 have hu23:=Tryz.underlying23;have HB:=Aside0.mk (Below.refl w.heap.size w);unfold insn_address.f at h;have H:=h;clear h;by_cases c2:a0_3 > 0
 ·rw [if_pos c2] at H;have c2b0:decide (0 < a0_3)=true:=decide_eq_true c2;clear c2;obtain ⟨t163,A3,H⟩:=bas H;(try dsimp only at H);by_cases c4:1+t163.size≤9223372036854775807
  ·rw [if_pos c4] at H;have c4b0:=eq_true c4;have c4b1:=decide_eq_true c4;try have c4b2:(9223372036854775807 < 1+t163.size)=False:=eq_false (Nat.not_lt.2 c4)
   by_cases c5:((⟨#[91]⟩:zB) ++ t163).size+1≤9223372036854775807
   ·rw [if_pos c5] at H;have c5b0:=eq_true c5;have c5b1:=decide_eq_true c5;try have c5b2:(9223372036854775807 < ((⟨#[91]⟩:zB) ++ t163).size+1)=False:=eq_false (Nat.not_lt.2 c5)
    try have c5x:(9223372036854775807 < 1+t163.size+1)=False:=eq_false (by have e1:=c5;simp only [ByteArray.size_append,show ∀ x:UInt8,(⟨#[x]⟩:zB).size=1 from fun _=>rfl] at e1;omega)
    obtain ⟨t164,A6,H⟩:=bas H;(try dsimp only at H);by_cases c7:(((⟨#[91]⟩:zB) ++ t163) ++ (⟨#[43]⟩:zB)).size+t164.size≤9223372036854775807
    ·rw [if_pos c7] at H;have c7b0:=eq_true c7;have c7b1:=decide_eq_true c7;try have c7b2:(9223372036854775807 < (((⟨#[91]⟩:zB) ++ t163) ++ (⟨#[43]⟩:zB)).size+t164.size)=False:=eq_false (Nat.not_lt.2 c7)
     try have c7x:(9223372036854775807 < 1+t163.size+1+t164.size)=False:=eq_false (by have e1:=c7;simp only [ByteArray.size_append,show ∀ x:UInt8,(⟨#[x]⟩:zB).size=1 from fun _=>rfl] at e1;omega)
     by_cases c8:((((⟨#[91]⟩:zB) ++ t163) ++ (⟨#[43]⟩:zB)) ++ t164).size+1≤9223372036854775807
     ·rw [if_pos c8] at H;have c8b0:=eq_true c8;have c8b1:=decide_eq_true c8;try have c8b2:(9223372036854775807 < ((((⟨#[91]⟩:zB) ++ t163) ++ (⟨#[43]⟩:zB)) ++ t164).size+1)=False:=eq_false (Nat.not_lt.2 c8)
      try have c8x:(9223372036854775807 < 1+t163.size+1+t164.size+1)=False:=eq_false (by have e1:=c8;simp only [ByteArray.size_append,show ∀ x:UInt8,(⟨#[x]⟩:zB).size=1 from fun _=>rfl] at e1;omega)
      obtain rfl:=Option.some.inj H;go_enter Tryz.func92,Tryz.ntmps92
      try go_wp2_with (first | ((with_reducible refine gate_dst (N:=1) rfl ?_);refine bxe (N:=1) (cs:=#[.int .i64 a0_0,.int .i64 a0_1,.int .i64 a0_2,.int .i64 a0_3]) (t:=23) ?_;intro gb162 hg w9 hbox hb;have BK162:=Aside0.mk hbox;have GW162:Aside0 (w.heap.size≤gb162):=⟨gwb⟩;have GE162:Aside0 (w.heap.size≤gb162):=⟨gwb⟩;replace HB:=Aside0.mk (below_step blw hb);clear hb hbox hg;obtain ⟨_,_,_,_,_,_,_,_⟩:=bz4 BK162.out))
      replace BK162:=Aside0.mk (blk_drew BK162.out);replace HB:=Aside0.mk (below_drew1 HB.out);refine start_ (n:=11) (S:=fun w'=>w'.cell? ⟨gb162,0,none⟩=some (.int .i64 a0_0)∧w'.cell? ⟨gb162,1,none⟩=some (.int .i64 a0_1)∧w'.cell? ⟨gb162,2,none⟩=some (.int .i64 a0_2)∧w'.cell? ⟨gb162,3,none⟩=some (.int .i64 a0_3)) (ds:=[]) #[zF,zF,zF,zF,zF,zF,zF,zF,zF,zF,zF] (by kernel_rfl) rfl rfl ⟨(blk_cell BK162.out 0).trans rfl,(blk_cell BK162.out 1).trans rfl,(blk_cell BK162.out 2).trans rfl,(blk_cell BK162.out 3).trans rfl⟩ (fun hHeld=>?_);refine with_tabW insn_address.tab2 insn_address.bits2 (fun HT_ HW_=>?_);generalize w9.drew=w11 at BK162 HB hHeld ⊢;refine pz (i:=0) (N:=some 7) #[zT,zF,zF,zF,zF,zF,zF,zF,zF,zF,zF] rfl rfl HT_.out ?_
      refine pz (i:=5) (N:=some 12) #[zT,zF,zF,zF,zF,zT,zF,zF,zF,zF,zF] rfl rfl HT_.out ?_
      refine tz4 (i:=1) (N:=some 8) #[zT,zT,zF,zF,zF,zT,zF,zF,zF,zF,zF] rfl rfl HT_.out HW_.out hHeld ?_
      refine tz4 (i:=6) (N:=some 13) #[zT,zT,zF,zF,zF,zT,zT,zF,zF,zF,zF] rfl rfl HT_.out HW_.out hHeld ?_
      refine one_ (i:=2) (N:=some 9) #[zT,zT,zT,zF,zF,zT,zT,zF,zF,zF,zF] rfl rfl (one_of HT_.out (by kernel_rfl)) (by decide) (fun K hK=>?_);refine goes_ Tryz.func90 (by kernel_rfl) rfl #[.int .i64 a0_2] (by rfl) rfl rfl fq ?_;with_reducible refine (insn_register.calls a0_2 _ _ A3.out gwy).mono ?_
      rintro e w12 ⟨rfl,hb⟩;refine ⟨_,rfl,?_⟩;replace BK162:=Aside0.mk (blk_below (g:=gb162) bko hb);replace HB:=Aside0.mk (below_step blw hb);clear hb;refine hK.out _ _ ⟨(blk_cell BK162.out 0).trans rfl,(blk_cell BK162.out 1).trans rfl,(blk_cell BK162.out 2).trans rfl,(blk_cell BK162.out 3).trans rfl⟩ (fun hHeld=>?_);clear hK K;refine nrmq ?_
      refine pz (i:=3) (N:=some 10) #[zT,zT,zT,zT,zF,zT,zT,zF,zF,zF,zF] rfl rfl HT_.out ?_
      refine pz (i:=4) (N:=some 11) #[zT,zT,zT,zT,zT,zT,zT,zF,zF,zF,zF] rfl rfl HT_.out ?_
      refine one_ (i:=7) (N:=some 14) #[zT,zT,zT,zT,zT,zT,zT,zT,zF,zF,zF] rfl rfl (one_of HT_.out (by kernel_rfl)) (by decide) (fun K hK=>?_);refine goes_ Tryz.func91 (by kernel_rfl) rfl #[.int .i64 a0_3,.int .i64 10] (by rfl) rfl rfl fq ?_;with_reducible refine (strconv_FormatInt.calls a0_3 10 _ _ A6.out gwy).mono ?_
      rintro e w13 ⟨rfl,hb⟩;refine ⟨_,rfl,?_⟩;replace BK162:=Aside0.mk (blk_below (g:=gb162) bko hb);replace HB:=Aside0.mk (below_step blw hb);clear hb;refine hK.out _ _ ⟨(blk_cell BK162.out 0).trans rfl,(blk_cell BK162.out 1).trans rfl,(blk_cell BK162.out 2).trans rfl,(blk_cell BK162.out 3).trans rfl⟩ (fun hHeld=>?_);clear hK K;refine nrmq ?_
      refine pz (i:=8) (N:=some 15) #[zT,zT,zT,zT,zT,zT,zT,zT,zT,zF,zF] rfl rfl HT_.out ?_
      refine pz (i:=9) (N:=some 16) #[zT,zT,zT,zT,zT,zT,zT,zT,zT,zT,zF] rfl rfl HT_.out ?_
      refine pz (i:=10) (N:=some 2) #[zT,zT,zT,zT,zT,zT,zT,zT,zT,zT,zT] rfl rfl HT_.out ?_
      refine done_ (done_of HT_.out (by kernel_rfl)) ?_;try go_wp2
      go_ret;exact ⟨rew,blw⟩
     ·rw [if_neg c8] at H;exact absurd H (by simp)
    ·rw [if_neg c7] at H;exact absurd H (by simp)
   ·rw [if_neg c5] at H;exact absurd H (by simp)
  ·rw [if_neg c4] at H;exact absurd H (by simp)
 ·rw [if_neg c2] at H;have c2b0:decide (0 < a0_3)=false:=decide_eq_false c2;clear c2;by_cases c14:a0_3 < 0
  ·rw [if_pos c14] at H;have c14b0:=decide_eq_true c14;clear c14;obtain ⟨t165,A15,H⟩:=bas H;(try dsimp only at H);by_cases c16:1+t165.size≤9223372036854775807
   ·rw [if_pos c16] at H;have c16b0:=eq_true c16;have c16b1:=decide_eq_true c16;try have c16b2:(9223372036854775807 < 1+t165.size)=False:=eq_false (Nat.not_lt.2 c16)
    obtain ⟨t166,A17,H⟩:=bas H;(try dsimp only at H);by_cases c18:((⟨#[91]⟩:zB) ++ t165).size+t166.size≤9223372036854775807
    ·rw [if_pos c18] at H;have c18b0:=eq_true c18;have c18b1:=decide_eq_true c18;try have c18b2:(9223372036854775807 < ((⟨#[91]⟩:zB) ++ t165).size+t166.size)=False:=eq_false (Nat.not_lt.2 c18)
     try have c18x:(9223372036854775807 < 1+t165.size+t166.size)=False:=eq_false (by have e1:=c18;simp only [ByteArray.size_append,show ∀ x:UInt8,(⟨#[x]⟩:zB).size=1 from fun _=>rfl] at e1;omega)
     by_cases c19:(((⟨#[91]⟩:zB) ++ t165) ++ t166).size+1≤9223372036854775807
     ·rw [if_pos c19] at H;have c19b0:=eq_true c19;have c19b1:=decide_eq_true c19;try have c19b2:(9223372036854775807 < (((⟨#[91]⟩:zB) ++ t165) ++ t166).size+1)=False:=eq_false (Nat.not_lt.2 c19)
      try have c19x:(9223372036854775807 < 1+t165.size+t166.size+1)=False:=eq_false (by have e1:=c19;simp only [ByteArray.size_append,show ∀ x:UInt8,(⟨#[x]⟩:zB).size=1 from fun _=>rfl] at e1;omega)
      obtain rfl:=Option.some.inj H;go_enter Tryz.func92,Tryz.ntmps92
      try go_wp2_with (first | ((with_reducible refine gate_dst (N:=1) rfl ?_);refine bxe (N:=1) (cs:=#[.int .i64 a0_0,.int .i64 a0_1,.int .i64 a0_2,.int .i64 a0_3]) (t:=23) ?_;intro gb162 hg w20 hbox hb;have BK162:=Aside0.mk hbox;have GW162:Aside0 (w.heap.size≤gb162):=⟨gwb⟩;have GE162:Aside0 (w.heap.size≤gb162):=⟨gwb⟩;replace HB:=Aside0.mk (below_step blw hb);clear hb hbox hg;obtain ⟨_,_,_,_,_,_,_,_⟩:=bz4 BK162.out))
      replace BK162:=Aside0.mk (blk_drew BK162.out);replace HB:=Aside0.mk (below_drew1 HB.out);refine start_ (n:=10) (S:=fun w'=>w'.cell? ⟨gb162,0,none⟩=some (.int .i64 a0_0)∧w'.cell? ⟨gb162,1,none⟩=some (.int .i64 a0_1)∧w'.cell? ⟨gb162,2,none⟩=some (.int .i64 a0_2)∧w'.cell? ⟨gb162,3,none⟩=some (.int .i64 a0_3)) (ds:=[]) #[zF,zF,zF,zF,zF,zF,zF,zF,zF,zF] (by kernel_rfl) rfl rfl ⟨(blk_cell BK162.out 0).trans rfl,(blk_cell BK162.out 1).trans rfl,(blk_cell BK162.out 2).trans rfl,(blk_cell BK162.out 3).trans rfl⟩ (fun hHeld=>?_);refine with_tabW insn_address.tab4 insn_address.bits4 (fun HT_ HW_=>?_);generalize w20.drew=w22 at BK162 HB hHeld ⊢;refine pz (i:=0) (N:=some 21) #[zT,zF,zF,zF,zF,zF,zF,zF,zF,zF] rfl rfl HT_.out ?_
      refine pz (i:=4) (N:=some 25) #[zT,zF,zF,zF,zT,zF,zF,zF,zF,zF] rfl rfl HT_.out ?_
      refine tz4 (i:=1) (N:=some 22) #[zT,zT,zF,zF,zT,zF,zF,zF,zF,zF] rfl rfl HT_.out HW_.out hHeld ?_
      refine tz4 (i:=5) (N:=some 26) #[zT,zT,zF,zF,zT,zT,zF,zF,zF,zF] rfl rfl HT_.out HW_.out hHeld ?_
      refine one_ (i:=2) (N:=some 23) #[zT,zT,zT,zF,zT,zT,zF,zF,zF,zF] rfl rfl (one_of HT_.out (by kernel_rfl)) (by decide) (fun K hK=>?_);refine goes_ Tryz.func90 (by kernel_rfl) rfl #[.int .i64 a0_2] (by rfl) rfl rfl fq ?_;with_reducible refine (insn_register.calls a0_2 _ _ A15.out gwy).mono ?_
      rintro e w23 ⟨rfl,hb⟩;refine ⟨_,rfl,?_⟩;replace BK162:=Aside0.mk (blk_below (g:=gb162) bko hb);replace HB:=Aside0.mk (below_step blw hb);clear hb;refine hK.out _ _ ⟨(blk_cell BK162.out 0).trans rfl,(blk_cell BK162.out 1).trans rfl,(blk_cell BK162.out 2).trans rfl,(blk_cell BK162.out 3).trans rfl⟩ (fun hHeld=>?_);clear hK K;refine nrmq ?_
      refine pz (i:=3) (N:=some 24) #[zT,zT,zT,zT,zT,zT,zF,zF,zF,zF] rfl rfl HT_.out ?_
      refine one_ (i:=6) (N:=some 27) #[zT,zT,zT,zT,zT,zT,zT,zF,zF,zF] rfl rfl (one_of HT_.out (by kernel_rfl)) (by decide) (fun K hK=>?_);refine goes_ Tryz.func91 (by kernel_rfl) rfl #[.int .i64 a0_3,.int .i64 10] (by rfl) rfl rfl fq ?_;with_reducible refine (strconv_FormatInt.calls a0_3 10 _ _ A17.out gwy).mono ?_
      rintro e w24 ⟨rfl,hb⟩;refine ⟨_,rfl,?_⟩;replace BK162:=Aside0.mk (blk_below (g:=gb162) bko hb);replace HB:=Aside0.mk (below_step blw hb);clear hb;refine hK.out _ _ ⟨(blk_cell BK162.out 0).trans rfl,(blk_cell BK162.out 1).trans rfl,(blk_cell BK162.out 2).trans rfl,(blk_cell BK162.out 3).trans rfl⟩ (fun hHeld=>?_);clear hK K;refine nrmq ?_
      refine pz (i:=7) (N:=some 28) #[zT,zT,zT,zT,zT,zT,zT,zT,zF,zF] rfl rfl HT_.out ?_
      refine pz (i:=8) (N:=some 29) #[zT,zT,zT,zT,zT,zT,zT,zT,zT,zF] rfl rfl HT_.out ?_
      refine pz (i:=9) (N:=some 2) #[zT,zT,zT,zT,zT,zT,zT,zT,zT,zT] rfl rfl HT_.out ?_
      refine done_ (done_of HT_.out (by kernel_rfl)) ?_;try go_wp2
      go_ret;exact ⟨rew,blw⟩
     ·rw [if_neg c19] at H;exact absurd H (by simp)
    ·rw [if_neg c18] at H;exact absurd H (by simp)
   ·rw [if_neg c16] at H;exact absurd H (by simp)
  ·rw [if_neg c14] at H;have c14b0:=decide_eq_false c14;clear c14;obtain ⟨t167,A25,H⟩:=bas H;(try dsimp only at H);by_cases c26:1+t167.size≤9223372036854775807
   ·rw [if_pos c26] at H;have c26b0:=eq_true c26;have c26b1:=decide_eq_true c26;try have c26b2:(9223372036854775807 < 1+t167.size)=False:=eq_false (Nat.not_lt.2 c26)
    by_cases c27:((⟨#[91]⟩:zB) ++ t167).size+1≤9223372036854775807
    ·rw [if_pos c27] at H;have c27b0:=eq_true c27;have c27b1:=decide_eq_true c27;try have c27b2:(9223372036854775807 < ((⟨#[91]⟩:zB) ++ t167).size+1)=False:=eq_false (Nat.not_lt.2 c27)
     try have c27x:(9223372036854775807 < 1+t167.size+1)=False:=eq_false (by have e1:=c27;simp only [ByteArray.size_append,show ∀ x:UInt8,(⟨#[x]⟩:zB).size=1 from fun _=>rfl] at e1;omega)
     obtain rfl:=Option.some.inj H;go_enter Tryz.func92,Tryz.ntmps92
     go_wp2_with (first | ((with_reducible refine gate_dst (N:=1) rfl ?_);refine bxe (N:=1) (cs:=#[.int .i64 a0_0,.int .i64 a0_1,.int .i64 a0_2,.int .i64 a0_3]) (t:=23) ?_;intro gb162 hg w28 hbox hb;have BK162:=Aside0.mk hbox;have GW162:Aside0 (w.heap.size≤gb162):=⟨gwb⟩;have GE162:Aside0 (w.heap.size≤gb162):=⟨gwb⟩;replace HB:=Aside0.mk (below_step blw hb);clear hb hbox hg;obtain ⟨_,_,_,_,_,_,_,_⟩:=bz4 BK162.out) | ((with_reducible refine gate_callee (f:=90) rfl ?_);refine gl (some 32) Tryz.func90 #[.int .i64 a0_2] ?_;(with_reducible refine (insn_register.calls a0_2 _ _ A25.out gwy).mono ?_);rintro e w30 ⟨rfl,hb⟩;refine ⟨_,rfl,?_⟩;replace BK162:=Aside0.mk (blk_below (g:=gb162) bko hb);replace HB:=Aside0.mk (below_step blw hb);clear hb))
     go_ret;exact ⟨rew,blw⟩
    ·rw [if_neg c27] at H;exact absurd H (by simp)
   ·rw [if_neg c26] at H;exact absurd H (by simp)
def insn_distance.f (a0:Int):Option (ByteArray):=if a0 < 0 then ((strconv_FormatInt.f a0 10).bind fun t168=>(if 1+t168.size≤9223372036854775807 then (some ((⟨#[46]⟩:zB) ++ t168)) else (none))) else ((strconv_FormatInt.f a0 10).bind fun t169=>(if 2+t169.size≤9223372036854775807 then (some ((⟨#[46,43]⟩:zB) ++ t169)) else (none)))
theorem insn_distance.calls (a0:Int) (r:ByteArray) (w:World) (h:insn_distance.f a0=some r) (hgw:GW w) :
  Calls Tryz.prog 93 #[.int .i64 a0] w fun e w'=>e=.returned (.string r)∧Below w.heap.size w w':=by
 have HB:=Aside0.mk (Below.refl w.heap.size w);unfold insn_distance.f at h;have H:=h;clear h;by_cases c2:a0 < 0
 ·rw [if_pos c2] at H;have c2b0:=decide_eq_true c2;clear c2;obtain ⟨t168,A3,H⟩:=bas H;(try dsimp only at H);by_cases c4:1+t168.size≤9223372036854775807
  ·rw [if_pos c4] at H;have c4b0:=eq_true c4;have c4b1:=decide_eq_true c4;try have c4b2:(9223372036854775807 < 1+t168.size)=False:=eq_false (Nat.not_lt.2 c4)
   obtain rfl:=Option.some.inj H;go_enter Tryz.func93,Tryz.ntmps93
   go_wp2_with (first | ((with_reducible refine gate_callee (f:=91) rfl ?_);refine gl (some 6) Tryz.func91 #[.int .i64 a0,.int .i64 10] ?_;(with_reducible refine (strconv_FormatInt.calls a0 10 _ _ A3.out gwy).mono ?_);rintro e w5 ⟨rfl,hb⟩;refine ⟨_,rfl,?_⟩;replace HB:=Aside0.mk (below_step blw hb);clear hb))
   go_ret;exact ⟨rew,blw⟩
  ·rw [if_neg c4] at H;exact absurd H (by simp)
 ·rw [if_neg c2] at H;have c2b0:=decide_eq_false c2;clear c2;obtain ⟨t169,A6,H⟩:=bas H;(try dsimp only at H);by_cases c7:2+t169.size≤9223372036854775807
  ·rw [if_pos c7] at H;have c7b0:=eq_true c7;have c7b1:=decide_eq_true c7;try have c7b2:(9223372036854775807 < 2+t169.size)=False:=eq_false (Nat.not_lt.2 c7)
   obtain rfl:=Option.some.inj H;go_enter Tryz.func93,Tryz.ntmps93
   go_wp2_with (first | ((with_reducible refine gate_callee (f:=91) rfl ?_);refine gl (some 9) Tryz.func91 #[.int .i64 a0,.int .i64 10] ?_;(with_reducible refine (strconv_FormatInt.calls a0 10 _ _ A6.out gwy).mono ?_);rintro e w8 ⟨rfl,hb⟩;refine ⟨_,rfl,?_⟩;replace HB:=Aside0.mk (below_step blw hb);clear hb))
   go_ret;exact ⟨rew,blw⟩
  ·rw [if_neg c7] at H;exact absurd H (by simp)
end Go.Proofs.YtffojmgmpfjlhaaGreatDoor.Q
