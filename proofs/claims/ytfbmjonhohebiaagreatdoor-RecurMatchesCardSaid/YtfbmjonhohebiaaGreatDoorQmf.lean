/- RecurMatches: whether a rule holds on a day is told, or what is wrong; the rule stays as it was: the tied card. Conditions: none but the row's own (the listed variables of Go's library read as its text lays them). -/
import Derived.Test.YtfbmjonhohebiaaGreatDoorQme
import Derived.Shelf.SlSortCmp.NoneTotal
import Derived.Ground.SlsfProg
import Derived.Shelf.Strings.Builder1
import Derived.Shelf.Strings.Builder2
import Derived.Shelf.Strings.OnBuilder
import Derived.Shelf.Small.Bits
import Derived.Shelf.Small.Wraps
import Derived.Shelf.Strings.BuilderF
import Derived.Shelf.Strings.BuilderK
import Derived.Shelf.Strings.Builder2Cap
import Derived.Shelf.Strconv.Atoi
import Derived.Shelf.Strconv.Itoa0
import Derived.Shelf.Strconv.Itoa1
import Derived.Shelf.LaysM
import Derived.Shelf.Strconv.Itoa2
import Derived.Shelf.Strconv.Itoa3
import Derived.Shelf.Strconv.AtoiErrFast
import Derived.Shelf.Strconv.ParseIntEmpty
import Derived.Shelf.Strconv.AtoiFail
import Derived.Shelf.Strconv.Clone
import Derived.Shelf.Strconv.SyntaxError
import Derived.Shelf.LaysC
import Derived.Shelf.Strconv.ToError
import Derived.Shelf.Strconv.AtoiErr
import Derived.Shelf.Strconv.ErrVar
import Derived.Shelf.Strconv.Lower
import Derived.Shelf.Strconv.ParseUint10
import Derived.Shelf.Strconv.ParseUint10Empty
import Derived.Shelf.Strconv.ParseUint10Any
import Derived.Shelf.Strconv.ParseInt10
import Derived.Shelf.Strconv.AtoiLong
import Derived.Shelf.Strconv.AtoiInnerAll
import Derived.Shelf.Strconv.RangeError
import Derived.Shelf.Strconv.ToErrorRange
import Derived.Shelf.Strconv.AtoiAll
import Derived.Shelf.Strconv.ErrVarAll
import Derived.Shelf.Strconv.ParseUintEmpty
import Derived.Shelf.Strconv.ParseUint10b64
import Derived.Shelf.Strconv.ParseUint10b32
import Derived.Shelf.Strconv.ParseUint10b16
import Derived.Shelf.Strconv.ParseUint10b8
import Derived.Shelf.Strconv.ParseUint10At
import Derived.Shelf.Strconv.ParseInt10At64
import Derived.Shelf.Strconv.ParseInt10At32
import Derived.Shelf.Strconv.ParseInt10At16
import Derived.Shelf.Strconv.ParseInt10At8
import Derived.Shelf.Strconv.ParseInt10All
import Derived.Shelf.Strings.Search1
import Derived.Shelf.Strings.Search2
import Derived.Shelf.Strings.Search3
import Derived.Shelf.Strings.Cut
import Derived.Shelf.Strings.Count
import Derived.Shelf.Strings.Shaped
import Derived.Shelf.Sort.Plain
import Derived.Shelf.Strings.Prefix
import Derived.Shelf.Strings.Split
import Derived.Shelf.Strings.SplitShaped
import Derived.Shelf.Bits.Mul64
import Derived.Shelf.Unicode.DecodeSlow
import Derived.Shelf.Strings.BuilderCap
import Derived.Shelf.Slices.In.SortNone
import Derived.WalkSmall
import Derived.Deep.RegionWith
import Derived.Maps.OwnSet
import Derived.RangeFuncBox
import Derived.RangeFuncNested
import Derived.RangeFuncBound
import Derived.RangeFuncCalls
import Derived.RangeFuncLeaves
import Derived.Shelf.Abstract
import Derived.OwnWalkIn
import Derived.TacticsInMore
import Derived.LoopNIn
import Derived.LoopIn
import Derived.ScopeJumps
import Derived.Lib.SmallJoins
import Derived.Deep.Slices
import Derived.ChangeSame
import Derived.Test.YtfbmjonhohebiaaGreatDoorRows
import Derived.LaidSub
import Derived.MakeChecks
import Derived.Lay
import Derived.Lib.LaidTab
import Derived.Shelf.Vars
import Derived.ProofKit
import Derived.OpenShut
import Derived.ChangeOld
import Derived.Carry
import Derived.Test.YtfbmjonhohebiaaGreatDoorTie
import Derived.Test.YtfbmjonhohebiaaGreatDoorCards
import Derived.SevenTiedAt
import Derived.LaidMore
section
namespace Go.Proofs
open Go.Shelf
def Tryz.sortWd_ren : Go.Shelf.Ren := ⟨fun | 6 => 105 | 15 => 131 | 14 => 133 | 28 => 159 | 29 => 135 | 20 => 160 | 21 => 161 | 22 => 162 | 23 => 163 | 24 => 164 | 25 => 165 | 26 => 166 | 27 => 167 | 46 => 179 | 47 => 174 | 48 => 175 | 49 => 180 | 50 => 181 | 57 => 185 | n => n, fun | 22 => 23 | 24 => 59 | 25 => 80 | 3 => 3 | 39 => 148 | 0 => 0 | 53 => 165 | 55 => 143 | 4 => 4 | 46 => 180 | 45 => 179 | 50 => 106 | 5 => 5 | 9 => 9 | 66 => 200 | 70 => 204 | 76 => 215 | 77 => 216 | n => n, fun | n => n⟩
theorem Tryz.sortWd : Go.Proofs.SlLaysF0.n6 Tryz.prog Tryz.sortWd_ren := {
  mixed := by kernel_rfl
  f6 := ⟨Tryz.f105.name, by decide, Tryz.func105.trans (congrArg some (by kernel_rfl))⟩
  f14 := ⟨Tryz.f133.name, by decide, Tryz.func133.trans (congrArg some (by kernel_rfl))⟩
  f15 := Tryz.func131.trans (congrArg some (by kernel_rfl))
  f20 := ⟨Tryz.f160.name, by decide, Tryz.func160.trans (congrArg some (by kernel_rfl))⟩
  f21 := ⟨Tryz.f161.name, by decide, Tryz.func161.trans (congrArg some (by kernel_rfl))⟩
  f22 := ⟨Tryz.f162.name, by decide, Tryz.func162.trans (congrArg some (by kernel_rfl))⟩
  f23 := ⟨Tryz.f163.name, by decide, Tryz.func163.trans (congrArg some (by kernel_rfl))⟩
  f24 := ⟨Tryz.f164.name, by decide, Tryz.func164.trans (congrArg some (by kernel_rfl))⟩
  f25 := ⟨Tryz.f165.name, by decide, Tryz.func165.trans (congrArg some (by kernel_rfl))⟩
  f26 := ⟨Tryz.f166.name, by decide, Tryz.func166.trans (congrArg some (by kernel_rfl))⟩
  f27 := ⟨Tryz.f167.name, by decide, Tryz.func167.trans (congrArg some (by kernel_rfl))⟩
  f28 := Tryz.func159.trans (congrArg some (by kernel_rfl))
  f29 := Tryz.func135.trans (congrArg some (by kernel_rfl))
  f46 := ⟨Tryz.f179.name, by decide, Tryz.func179.trans (congrArg some (by kernel_rfl))⟩
  f47 := Tryz.func174.trans (congrArg some (by kernel_rfl))
  f48 := Tryz.func175.trans (congrArg some (by kernel_rfl))
  f49 := ⟨Tryz.f180.name, by decide, Tryz.func180.trans (congrArg some (by kernel_rfl))⟩
  f50 := ⟨Tryz.f181.name, by decide, Tryz.func181.trans (congrArg some (by kernel_rfl))⟩
  f57 := ⟨Tryz.f185.name, by decide, Tryz.func185.trans (congrArg some (by kernel_rfl))⟩
  t0 := Tryz.underlying0
  a0 := Tryz.isAgg0
  z0 := Tryz.sizeOf0
  v0 := Tryz.zeroValue0
  t3 := Tryz.underlying3
  a3 := Tryz.isAgg3
  z3 := Tryz.sizeOf3
  v3 := Tryz.zeroValue3
  t4 := Tryz.underlying4
  a4 := Tryz.isAgg4
  z4 := Tryz.sizeOf4
  v4 := Tryz.zeroValue4
  t5 := Tryz.underlying5
  a5 := Tryz.isAgg5
  z5 := Tryz.sizeOf5
  v5 := Tryz.zeroValue5
  t9 := Tryz.underlying9
  a9 := Tryz.isAgg9
  z9 := Tryz.sizeOf9
  v9 := Tryz.zeroValue9
  t22 := Tryz.underlying23
  a22 := Tryz.isAgg23
  z22 := Tryz.sizeOf23
  v22 := Tryz.zeroValue23
  t25 := Tryz.underlying80
  a25 := Tryz.isAgg80
  z25 := Tryz.sizeOf80
  v25 := Tryz.zeroValue80
  t39 := Tryz.underlying148
  a39 := Tryz.isAgg148
  z39 := Tryz.sizeOf148
  v39 := Tryz.zeroValue148
  t45 := Tryz.underlying179
  a45 := Tryz.isAgg179
  z45 := Tryz.sizeOf179
  v45 := Tryz.zeroValue179
  t46 := Tryz.underlying180
  a46 := Tryz.isAgg180
  z46 := Tryz.sizeOf180
  v46 := Tryz.zeroValue180
  t50 := Tryz.underlying106
  a50 := Tryz.isAgg106
  z50 := Tryz.sizeOf106
  v50 := Tryz.zeroValue106
  t53 := Tryz.underlying165
  a53 := Tryz.isAgg165
  z53 := Tryz.sizeOf165
  v53 := Tryz.zeroValue165
  t55 := Tryz.underlying143
  a55 := Tryz.isAgg143
  z55 := Tryz.sizeOf143
  v55 := Tryz.zeroValue143
  t66 := Tryz.underlying200
  a66 := Tryz.isAgg200
  z66 := Tryz.sizeOf200
  v66 := Tryz.zeroValue200
  t70 := Tryz.underlying204
  a70 := Tryz.isAgg204
  z70 := Tryz.sizeOf204
  v70 := Tryz.zeroValue204
  t76 := Tryz.underlying215
  a76 := Tryz.isAgg215
  z76 := Tryz.sizeOf215
  v76 := Tryz.zeroValue215
  t77 := Tryz.underlying216
  a77 := Tryz.isAgg216
  z77 := Tryz.sizeOf216
  v77 := Tryz.zeroValue216 }
end Go.Proofs
end
section
namespace Go.Proofs
open Go.Shelf
def Tryz.lays103_ren : Go.Shelf.Ren := ⟨fun | 103 => 104 | 210 => 132 | 206 => 141 | n => n, fun | 9 => 9 | 4 => 4 | 24 => 134 | 3 => 3 | n => n, fun | n => n⟩
theorem Tryz.lays103 : Go.Proofs.Lays.n103 Tryz.prog Tryz.lays103_ren := {
  mixed := by kernel_rfl
  f103 := Tryz.func104.trans (congrArg some (by kernel_rfl))
  f206 := Tryz.func141.trans (congrArg some (by kernel_rfl))
  f210 := Tryz.func132.trans (congrArg some (by kernel_rfl))
  t3 := Tryz.underlying3
  a3 := Tryz.isAgg3
  z3 := Tryz.sizeOf3
  v3 := Tryz.zeroValue3
  t4 := Tryz.underlying4
  a4 := Tryz.isAgg4
  z4 := Tryz.sizeOf4
  v4 := Tryz.zeroValue4
  t9 := Tryz.underlying9
  a9 := Tryz.isAgg9
  z9 := Tryz.sizeOf9
  v9 := Tryz.zeroValue9
  t24 := Tryz.underlying134
  a24 := Tryz.isAgg134
  z24 := Tryz.sizeOf134
  v24 := Tryz.zeroValue134 }
open Go.RowKit in

theorem Tryz.strings_CutPrefix (s p : ByteArray) (w : World) :
    Calls Tryz.prog 104 #[.string s, .string p] w fun e w' => e = .returned (.tuple #[.string ⟨(Lib.trimPrefix s.data.toList p.data.toList).toArray⟩, .bool (Lib.hasPrefix s.data.toList p.data.toList)]) ∧ w' = w := Any.strings_CutPrefix Tryz.lays103 s p w
def Tryz.laysM171_ren : Go.Shelf.Ren := ⟨fun | 171 => 34 | 243 => 66 | 246 => 92 | 283 => 112 | 284 => 113 | 285 => 114 | 286 => 115 | 129 => 135 | 317 => 134 | 318 => 136 | 319 => 137 | 320 => 138 | 337 => 168 | 338 => 169 | n => n, fun | 3 => 3 | 9 => 9 | 2 => 2 | 4 => 4 | 171 => 142 | 0 => 0 | 53 => 143 | 37 => 95 | 5 => 5 | 173 => 146 | 212 => 164 | 51 => 165 | 20 => 20 | 213 => 166 | 46 => 148 | 232 => 208 | 233 => 209 | n => n, fun | 17 => 1 | 18 => 6 | 19 => 7 | n => n⟩
theorem Tryz.laysM171 : Go.Proofs.LaysM.n171 Tryz.prog Tryz.laysM171_ren := {
  mixed := by kernel_rfl
  f129 := Tryz.func135.trans (congrArg some (by kernel_rfl))
  f171 := Tryz.func34.trans (congrArg some (by kernel_rfl))
  f243 := Tryz.func66.trans (congrArg some (by kernel_rfl))
  f246 := Tryz.func92.trans (congrArg some (by kernel_rfl))
  f283 := Tryz.func112.trans (congrArg some (by kernel_rfl))
  f284 := Tryz.func113.trans (congrArg some (by kernel_rfl))
  f285 := Tryz.func114.trans (congrArg some (by kernel_rfl))
  f286 := Tryz.func115.trans (congrArg some (by kernel_rfl))
  f317 := Tryz.func134.trans (congrArg some (by kernel_rfl))
  f318 := Tryz.func136.trans (congrArg some (by kernel_rfl))
  f319 := Tryz.func137.trans (congrArg some (by kernel_rfl))
  f320 := Tryz.func138.trans (congrArg some (by kernel_rfl))
  f337 := Tryz.func168.trans (congrArg some (by kernel_rfl))
  f338 := Tryz.func169.trans (congrArg some (by kernel_rfl))
  t0 := Tryz.underlying0
  a0 := Tryz.isAgg0
  z0 := Tryz.sizeOf0
  v0 := Tryz.zeroValue0
  t2 := Tryz.underlying2
  a2 := Tryz.isAgg2
  z2 := Tryz.sizeOf2
  v2 := Tryz.zeroValue2
  t3 := Tryz.underlying3
  a3 := Tryz.isAgg3
  z3 := Tryz.sizeOf3
  v3 := Tryz.zeroValue3
  t4 := Tryz.underlying4
  a4 := Tryz.isAgg4
  z4 := Tryz.sizeOf4
  v4 := Tryz.zeroValue4
  t5 := Tryz.underlying5
  a5 := Tryz.isAgg5
  z5 := Tryz.sizeOf5
  v5 := Tryz.zeroValue5
  t9 := Tryz.underlying9
  a9 := Tryz.isAgg9
  z9 := Tryz.sizeOf9
  v9 := Tryz.zeroValue9
  t20 := Tryz.underlying20
  a20 := Tryz.isAgg20
  z20 := Tryz.sizeOf20
  v20 := Tryz.zeroValue20
  t37 := Tryz.underlying95
  a37 := Tryz.isAgg95
  z37 := Tryz.sizeOf95
  v37 := Tryz.zeroValue95
  t46 := Tryz.underlying148
  a46 := Tryz.isAgg148
  z46 := Tryz.sizeOf148
  v46 := Tryz.zeroValue148
  t51 := Tryz.underlying165
  a51 := Tryz.isAgg165
  z51 := Tryz.sizeOf165
  v51 := Tryz.zeroValue165
  t53 := Tryz.underlying143
  a53 := Tryz.isAgg143
  z53 := Tryz.sizeOf143
  v53 := Tryz.zeroValue143
  t171 := Tryz.underlying142
  a171 := Tryz.isAgg142
  z171 := Tryz.sizeOf142
  v171 := Tryz.zeroValue142
  t173 := Tryz.underlying146
  a173 := Tryz.isAgg146
  z173 := Tryz.sizeOf146
  v173 := Tryz.zeroValue146
  t212 := Tryz.underlying164
  a212 := Tryz.isAgg164
  z212 := Tryz.sizeOf164
  v212 := Tryz.zeroValue164
  t213 := Tryz.underlying166
  a213 := Tryz.isAgg166
  z213 := Tryz.sizeOf166
  t232 := Tryz.underlying208
  a232 := Tryz.isAgg208
  z232 := Tryz.sizeOf208
  v232 := Tryz.zeroValue208
  t233 := Tryz.underlying209
  a233 := Tryz.isAgg209
  z233 := Tryz.sizeOf209
  v233 := Tryz.zeroValue209
  g17 := by kernel_rfl
  g18 := by kernel_rfl
  g19 := by kernel_rfl
  i0 := by kernel_rfl
  i2 := by kernel_rfl
  i3 := by kernel_rfl
  i4 := by kernel_rfl
  i5 := by kernel_rfl
  i9 := by kernel_rfl
  i20 := by kernel_rfl
  i37 := by kernel_rfl
  i46 := by kernel_rfl
  i51 := by kernel_rfl
  i53 := by kernel_rfl
  i171 := by kernel_rfl
  i173 := by kernel_rfl
  i212 := by kernel_rfl
  i232 := by kernel_rfl
  i233 := by kernel_rfl
  m17 := by kernel_rfl
  m18 := by kernel_rfl
  m19 := by kernel_rfl }
open Go.RowKit Go.Sort Go.Lib in

theorem Tryz.strconv_Itoa (n : Int) (h0 : -9223372036854775808 ≤ n) (h1 : n ≤ 9223372036854775807) (w : World) (htab : Lib.TabIs Tryz.prog w "internal/strconv.uint64pow10" .u64 Lib.pow10Tab) :
    Calls Tryz.prog 34 #[.int .i64 n] w fun e w' => e = .returned (.string ⟨(Lib.itoa n).toArray⟩) ∧ ∃ k os, w' = grow (w.drewN k) os := Any.strconv_Itoa Tryz.laysM171 n h0 h1 w htab
def Tryz.laysC172_ren : Go.Shelf.Ren := ⟨fun | 172 => 100 | 244 => 128 | 245 => 129 | 247 => 145 | 279 => 146 | 280 => 147 | 281 => 148 | 282 => 149 | 287 => 170 | 316 => 171 | 171 => 34 | 205 => 172 | 321 => 182 | 322 => 183 | 243 => 66 | 246 => 92 | 283 => 112 | 284 => 113 | 285 => 114 | 286 => 115 | 129 => 135 | 317 => 134 | 318 => 136 | 319 => 137 | 320 => 138 | 337 => 168 | 338 => 169 | n => n, fun | 9 => 9 | 3 => 3 | 75 => 100 | 76 => 101 | 4 => 4 | 5 => 5 | 167 => 172 | 37 => 95 | 0 => 0 | 85 => 173 | 2 => 2 | 168 => 175 | 53 => 143 | 175 => 195 | 46 => 148 | 210 => 198 | 127 => 128 | 145 => 214 | 143 => 212 | 21 => 21 | 171 => 142 | 173 => 146 | 212 => 164 | 51 => 165 | 20 => 20 | 213 => 166 | 232 => 208 | 233 => 209 | 80 => 103 | n => n, fun | 15 => 4 | 16 => 5 | 17 => 1 | 18 => 6 | 19 => 7 | n => n⟩
theorem Tryz.laysC172 : Go.Proofs.LaysC.n172 Tryz.prog Tryz.laysC172_ren := {
  mixed := by kernel_rfl
  f129 := Tryz.func135.trans (congrArg some (by kernel_rfl))
  f171 := Tryz.func34.trans (congrArg some (by kernel_rfl))
  f172 := Tryz.func100.trans (congrArg some (by kernel_rfl))
  f205 := Tryz.func172.trans (congrArg some (by kernel_rfl))
  f243 := Tryz.func66.trans (congrArg some (by kernel_rfl))
  f244 := Tryz.func128.trans (congrArg some (by kernel_rfl))
  f245 := Tryz.func129.trans (congrArg some (by kernel_rfl))
  f246 := Tryz.func92.trans (congrArg some (by kernel_rfl))
  f247 := Tryz.func145.trans (congrArg some (by kernel_rfl))
  f279 := Tryz.func146.trans (congrArg some (by kernel_rfl))
  f280 := Tryz.func147.trans (congrArg some (by kernel_rfl))
  f281 := Tryz.func148.trans (congrArg some (by kernel_rfl))
  f282 := Tryz.func149.trans (congrArg some (by kernel_rfl))
  f283 := Tryz.func112.trans (congrArg some (by kernel_rfl))
  f284 := Tryz.func113.trans (congrArg some (by kernel_rfl))
  f285 := Tryz.func114.trans (congrArg some (by kernel_rfl))
  f286 := Tryz.func115.trans (congrArg some (by kernel_rfl))
  f287 := Tryz.func170.trans (congrArg some (by kernel_rfl))
  f316 := Tryz.func171.trans (congrArg some (by kernel_rfl))
  f317 := Tryz.func134.trans (congrArg some (by kernel_rfl))
  f318 := Tryz.func136.trans (congrArg some (by kernel_rfl))
  f319 := Tryz.func137.trans (congrArg some (by kernel_rfl))
  f320 := Tryz.func138.trans (congrArg some (by kernel_rfl))
  f321 := Tryz.func182.trans (congrArg some (by kernel_rfl))
  f322 := Tryz.func183.trans (congrArg some (by kernel_rfl))
  f337 := Tryz.func168.trans (congrArg some (by kernel_rfl))
  f338 := Tryz.func169.trans (congrArg some (by kernel_rfl))
  t0 := Tryz.underlying0
  a0 := Tryz.isAgg0
  z0 := Tryz.sizeOf0
  v0 := Tryz.zeroValue0
  t2 := Tryz.underlying2
  a2 := Tryz.isAgg2
  z2 := Tryz.sizeOf2
  v2 := Tryz.zeroValue2
  t3 := Tryz.underlying3
  a3 := Tryz.isAgg3
  z3 := Tryz.sizeOf3
  v3 := Tryz.zeroValue3
  t4 := Tryz.underlying4
  a4 := Tryz.isAgg4
  z4 := Tryz.sizeOf4
  v4 := Tryz.zeroValue4
  t5 := Tryz.underlying5
  a5 := Tryz.isAgg5
  z5 := Tryz.sizeOf5
  v5 := Tryz.zeroValue5
  t9 := Tryz.underlying9
  a9 := Tryz.isAgg9
  z9 := Tryz.sizeOf9
  v9 := Tryz.zeroValue9
  t20 := Tryz.underlying20
  a20 := Tryz.isAgg20
  z20 := Tryz.sizeOf20
  v20 := Tryz.zeroValue20
  t21 := Tryz.underlying21
  a21 := Tryz.isAgg21
  z21 := Tryz.sizeOf21
  v21 := Tryz.zeroValue21
  t37 := Tryz.underlying95
  a37 := Tryz.isAgg95
  z37 := Tryz.sizeOf95
  v37 := Tryz.zeroValue95
  t46 := Tryz.underlying148
  a46 := Tryz.isAgg148
  z46 := Tryz.sizeOf148
  v46 := Tryz.zeroValue148
  t51 := Tryz.underlying165
  a51 := Tryz.isAgg165
  z51 := Tryz.sizeOf165
  v51 := Tryz.zeroValue165
  t53 := Tryz.underlying143
  a53 := Tryz.isAgg143
  z53 := Tryz.sizeOf143
  v53 := Tryz.zeroValue143
  t75 := Tryz.underlying100
  a75 := Tryz.isAgg100
  z75 := Tryz.sizeOf100
  v75 := Tryz.zeroValue100
  t76 := Tryz.underlying101
  a76 := Tryz.isAgg101
  z76 := Tryz.sizeOf101
  v76 := Tryz.zeroValue101
  t85 := Tryz.underlying173
  a85 := Tryz.isAgg173
  z85 := Tryz.sizeOf173
  v85 := Tryz.zeroValue173
  t127 := Tryz.underlying128
  a127 := Tryz.isAgg128
  z127 := Tryz.sizeOf128
  v127 := Tryz.zeroValue128
  t143 := Tryz.underlying212
  a143 := Tryz.isAgg212
  z143 := Tryz.sizeOf212
  v143 := Tryz.zeroValue212
  t145 := Tryz.underlying214
  a145 := Tryz.isAgg214
  z145 := Tryz.sizeOf214
  v145 := Tryz.zeroValue214
  t167 := Tryz.underlying172
  a167 := Tryz.isAgg172
  z167 := Tryz.sizeOf172
  v167 := Tryz.zeroValue172
  t168 := Tryz.underlying175
  a168 := Tryz.isAgg175
  z168 := Tryz.sizeOf175
  v168 := Tryz.zeroValue175
  t171 := Tryz.underlying142
  a171 := Tryz.isAgg142
  z171 := Tryz.sizeOf142
  v171 := Tryz.zeroValue142
  t173 := Tryz.underlying146
  a173 := Tryz.isAgg146
  z173 := Tryz.sizeOf146
  v173 := Tryz.zeroValue146
  t175 := Tryz.underlying195
  a175 := Tryz.isAgg195
  z175 := Tryz.sizeOf195
  v175 := Tryz.zeroValue195
  t210 := Tryz.underlying198
  a210 := Tryz.isAgg198
  z210 := Tryz.sizeOf198
  v210 := Tryz.zeroValue198
  t212 := Tryz.underlying164
  a212 := Tryz.isAgg164
  z212 := Tryz.sizeOf164
  v212 := Tryz.zeroValue164
  t213 := Tryz.underlying166
  a213 := Tryz.isAgg166
  z213 := Tryz.sizeOf166
  t232 := Tryz.underlying208
  a232 := Tryz.isAgg208
  z232 := Tryz.sizeOf208
  v232 := Tryz.zeroValue208
  t233 := Tryz.underlying209
  a233 := Tryz.isAgg209
  z233 := Tryz.sizeOf209
  v233 := Tryz.zeroValue209
  g15 := by kernel_rfl
  g16 := by kernel_rfl
  g17 := by kernel_rfl
  g18 := by kernel_rfl
  g19 := by kernel_rfl
  t80 := Tryz.underlying103
  a80 := Tryz.isAgg103
  z80 := Tryz.sizeOf103
  v80 := Tryz.zeroValue103
  i0 := by kernel_rfl
  i2 := by kernel_rfl
  i3 := by kernel_rfl
  i4 := by kernel_rfl
  i5 := by kernel_rfl
  i9 := by kernel_rfl
  i20 := by kernel_rfl
  i21 := by kernel_rfl
  i37 := by kernel_rfl
  i46 := by kernel_rfl
  i51 := by kernel_rfl
  i53 := by kernel_rfl
  i75 := by kernel_rfl
  i76 := by kernel_rfl
  i80 := by kernel_rfl
  i85 := by kernel_rfl
  i127 := by kernel_rfl
  i143 := by kernel_rfl
  i145 := by kernel_rfl
  i167 := by kernel_rfl
  i168 := by kernel_rfl
  i171 := by kernel_rfl
  i173 := by kernel_rfl
  i175 := by kernel_rfl
  i210 := by kernel_rfl
  i212 := by kernel_rfl
  i232 := by kernel_rfl
  i233 := by kernel_rfl
  m15 := by kernel_rfl
  m16 := by kernel_rfl
  m17 := by kernel_rfl
  m18 := by kernel_rfl
  m19 := by kernel_rfl
  c0 := by kernel_rfl
  c2 := by kernel_rfl
  c3 := by kernel_rfl
  c4 := by kernel_rfl
  c5 := by kernel_rfl
  c9 := by kernel_rfl
  c20 := by kernel_rfl
  c21 := by kernel_rfl
  c37 := by kernel_rfl
  c46 := by kernel_rfl
  c51 := by kernel_rfl
  c53 := by kernel_rfl
  c75 := by kernel_rfl
  c76 := by kernel_rfl
  c80 := by kernel_rfl
  c85 := by kernel_rfl
  c127 := by kernel_rfl
  c143 := by kernel_rfl
  c145 := by kernel_rfl
  c167 := by kernel_rfl
  c168 := by kernel_rfl
  c171 := by kernel_rfl
  c173 := by kernel_rfl
  c175 := by kernel_rfl
  c210 := by kernel_rfl
  c212 := by kernel_rfl
  c213 := by kernel_rfl
  c232 := by kernel_rfl
  c233 := by kernel_rfl }
open Go.RowKit in

theorem Tryz.strconv_Atoi_ok (s : ByteArray) (hmax : s.size ≤ 9223372036854775806) (v : Int) (h : Lib.atoiAll s.data.toList = .ok v) (w : World) :
    Calls Tryz.prog 100 #[.string s] w fun e w' => e = .returned (.tuple #[.int .i64 v, .nilIface]) ∧ (w' = w ∨ ∃ t, w' = Lib.bytesWorld w 5 t) := Any.strconv_Atoi_ok Tryz.laysC172 s hmax v h w
open Go.RowKit in
theorem Tryz.strconv_Atoi_range_var (s : ByteArray) (hlim : s.size ≤ 281474976710656) (h : Lib.atoiAll s.data.toList = .range) (tp : TypeId) (p : Value) (w : World) (hvar : w.var? Tryz.prog "strconv.ErrRange" = some #[.iface tp p]) :
    Calls Tryz.prog 100 #[.string s] w fun e w' => ∃ N, e = .returned (.tuple #[.int .i64 (Lib.atoiSat s.data.toList), .iface 175 (.pointer (some ⟨N, 0, none⟩))]) ∧ w.heap.size ≤ N ∧ w'.heap[N]? = some (.cells #[.string ⟨#[65, 116, 111, 105]⟩, .string s, .iface tp p] 198 (0, 0)) ∧ Below w.heap.size w w' := Any.strconv_Atoi_range_var Tryz.laysC172 s hlim h tp p w hvar
def Tryz.lays145_ren : Go.Shelf.Ren := ⟨fun | 145 => 46 | 220 => 73 | 219 => 99 | 217 => 124 | 225 => 125 | 224 => 126 | 267 => 127 | 266 => 143 | 314 => 144 | n => n, fun | 9 => 9 | 4 => 4 | 59 => 73 | 3 => 3 | 5 => 5 | 46 => 148 | 146 => 167 | 51 => 165 | n => n, fun | 1 => 0 | n => n⟩
theorem Tryz.lays145 : Go.Proofs.Lays.n145 Tryz.prog Tryz.lays145_ren := {
  mixed := by kernel_rfl
  f145 := Tryz.func46.trans (congrArg some (by kernel_rfl))
  f217 := Tryz.func124.trans (congrArg some (by kernel_rfl))
  f219 := Tryz.func99.trans (congrArg some (by kernel_rfl))
  f220 := Tryz.func73.trans (congrArg some (by kernel_rfl))
  f224 := Tryz.func126.trans (congrArg some (by kernel_rfl))
  f225 := Tryz.func125.trans (congrArg some (by kernel_rfl))
  f266 := Tryz.func143.trans (congrArg some (by kernel_rfl))
  f267 := Tryz.func127.trans (congrArg some (by kernel_rfl))
  f314 := Tryz.func144.trans (congrArg some (by kernel_rfl))
  t3 := Tryz.underlying3
  a3 := Tryz.isAgg3
  z3 := Tryz.sizeOf3
  v3 := Tryz.zeroValue3
  t4 := Tryz.underlying4
  a4 := Tryz.isAgg4
  z4 := Tryz.sizeOf4
  v4 := Tryz.zeroValue4
  t5 := Tryz.underlying5
  a5 := Tryz.isAgg5
  z5 := Tryz.sizeOf5
  v5 := Tryz.zeroValue5
  t9 := Tryz.underlying9
  a9 := Tryz.isAgg9
  z9 := Tryz.sizeOf9
  v9 := Tryz.zeroValue9
  t46 := Tryz.underlying148
  a46 := Tryz.isAgg148
  z46 := Tryz.sizeOf148
  v46 := Tryz.zeroValue148
  t51 := Tryz.underlying165
  a51 := Tryz.isAgg165
  z51 := Tryz.sizeOf165
  v51 := Tryz.zeroValue165
  t59 := Tryz.underlying73
  a59 := Tryz.isAgg73
  z59 := Tryz.sizeOf73
  v59 := Tryz.zeroValue73
  t146 := Tryz.underlying167
  a146 := Tryz.isAgg167
  z146 := Tryz.sizeOf167
  v146 := Tryz.zeroValue167
  g1 := by kernel_rfl }
open Go.RowKit Go.Lib in

theorem Tryz.strings_Cut (s sep : ByteArray) (m : Int) (w : World) (hs : s.size < 4294967281) (hm : w.cell? ⟨0, 0, none⟩ = some (.int .i64 m)) :
    Calls Tryz.prog 46 #[.string s, .string sep] w fun e w' => e = .returned (.tuple #[.string ⟨(Lib.cut s.data.toList sep.data.toList).1.toArray⟩, .string ⟨(Lib.cut s.data.toList sep.data.toList).2.1.toArray⟩, .bool (Lib.cut s.data.toList sep.data.toList).2.2]) ∧ ∃ n, w' = w.drewN n := Any.strings_Cut Tryz.lays145 s sep m w hs hm
def Tryz.lays189_ren : Go.Shelf.Ren := ⟨fun | 189 => 103 | 125 => 131 | 257 => 130 | 128 => 159 | 129 => 135 | 294 => 150 | 295 => 151 | 296 => 152 | 297 => 153 | 298 => 154 | 299 => 155 | 216 => 156 | 300 => 157 | 301 => 158 | 328 => 173 | 329 => 174 | 330 => 175 | 331 => 176 | 332 => 177 | 215 => 178 | 343 => 184 | n => n, fun | 28 => 22 | 3 => 3 | 46 => 148 | 0 => 0 | 51 => 165 | 53 => 143 | 4 => 4 | 183 => 180 | 182 => 179 | 131 => 106 | 5 => 5 | 9 => 9 | 218 => 200 | 222 => 204 | 228 => 215 | 229 => 216 | n => n, fun | n => n⟩
theorem Tryz.lays189 : Go.Proofs.Lays.n189 Tryz.prog Tryz.lays189_ren := {
  mixed := by kernel_rfl
  f125 := Tryz.func131.trans (congrArg some (by kernel_rfl))
  f128 := Tryz.func159.trans (congrArg some (by kernel_rfl))
  f129 := Tryz.func135.trans (congrArg some (by kernel_rfl))
  f189 := Tryz.func103.trans (congrArg some (by kernel_rfl))
  f215 := Tryz.func178.trans (congrArg some (by kernel_rfl))
  f216 := Tryz.func156.trans (congrArg some (by kernel_rfl))
  f257 := Tryz.func130.trans (congrArg some (by kernel_rfl))
  f294 := Tryz.func150.trans (congrArg some (by kernel_rfl))
  f295 := Tryz.func151.trans (congrArg some (by kernel_rfl))
  f296 := Tryz.func152.trans (congrArg some (by kernel_rfl))
  f297 := Tryz.func153.trans (congrArg some (by kernel_rfl))
  f298 := Tryz.func154.trans (congrArg some (by kernel_rfl))
  f299 := Tryz.func155.trans (congrArg some (by kernel_rfl))
  f300 := Tryz.func157.trans (congrArg some (by kernel_rfl))
  f301 := Tryz.func158.trans (congrArg some (by kernel_rfl))
  f328 := Tryz.func173.trans (congrArg some (by kernel_rfl))
  f329 := Tryz.func174.trans (congrArg some (by kernel_rfl))
  f330 := Tryz.func175.trans (congrArg some (by kernel_rfl))
  f331 := Tryz.func176.trans (congrArg some (by kernel_rfl))
  f332 := Tryz.func177.trans (congrArg some (by kernel_rfl))
  f343 := Tryz.func184.trans (congrArg some (by kernel_rfl))
  t0 := Tryz.underlying0
  a0 := Tryz.isAgg0
  z0 := Tryz.sizeOf0
  v0 := Tryz.zeroValue0
  t3 := Tryz.underlying3
  a3 := Tryz.isAgg3
  z3 := Tryz.sizeOf3
  v3 := Tryz.zeroValue3
  t4 := Tryz.underlying4
  a4 := Tryz.isAgg4
  z4 := Tryz.sizeOf4
  v4 := Tryz.zeroValue4
  t5 := Tryz.underlying5
  a5 := Tryz.isAgg5
  z5 := Tryz.sizeOf5
  v5 := Tryz.zeroValue5
  t9 := Tryz.underlying9
  a9 := Tryz.isAgg9
  z9 := Tryz.sizeOf9
  v9 := Tryz.zeroValue9
  t28 := Tryz.underlying22
  a28 := Tryz.isAgg22
  z28 := Tryz.sizeOf22
  v28 := Tryz.zeroValue22
  t46 := Tryz.underlying148
  a46 := Tryz.isAgg148
  z46 := Tryz.sizeOf148
  v46 := Tryz.zeroValue148
  t51 := Tryz.underlying165
  a51 := Tryz.isAgg165
  z51 := Tryz.sizeOf165
  v51 := Tryz.zeroValue165
  t53 := Tryz.underlying143
  a53 := Tryz.isAgg143
  z53 := Tryz.sizeOf143
  v53 := Tryz.zeroValue143
  t131 := Tryz.underlying106
  a131 := Tryz.isAgg106
  z131 := Tryz.sizeOf106
  v131 := Tryz.zeroValue106
  t182 := Tryz.underlying179
  a182 := Tryz.isAgg179
  z182 := Tryz.sizeOf179
  v182 := Tryz.zeroValue179
  t183 := Tryz.underlying180
  a183 := Tryz.isAgg180
  z183 := Tryz.sizeOf180
  v183 := Tryz.zeroValue180
  t218 := Tryz.underlying200
  a218 := Tryz.isAgg200
  z218 := Tryz.sizeOf200
  v218 := Tryz.zeroValue200
  t222 := Tryz.underlying204
  a222 := Tryz.isAgg204
  z222 := Tryz.sizeOf204
  v222 := Tryz.zeroValue204
  t228 := Tryz.underlying215
  a228 := Tryz.isAgg215
  z228 := Tryz.sizeOf215
  v228 := Tryz.zeroValue215
  t229 := Tryz.underlying216
  a229 := Tryz.isAgg216
  z229 := Tryz.sizeOf216
  v229 := Tryz.zeroValue216 }
open Go.Sort Go.RowKit in
theorem Tryz.slices_Sort_int (blk off cap : Nat) (zs : List Int) (w : World) (hH : Holds (Value.int .i64) w blk off zs.toArray) (hblk : blk < w.heap.size) (hsz : zs.length < 4611686018427387904) :
    Calls Tryz.prog 103 #[.slice (some ⟨blk, off, none⟩) zs.length cap] w fun e w' =>
      e = .returned (.tuple #[]) ∧ ∃ n os, w' = grow (putRow (Value.int .i64) (Sort.ahead w n) blk off (zs.mergeSort fun x y => decide (x ≤ y)).toArray) os := Any.slices_Sort_int Tryz.lays189 blk off cap zs w hH hblk hsz
def Tryz.lays146_ren : Go.Shelf.Ren := ⟨fun | 146 => 44 | 221 => 72 | 268 => 96 | 138 => 97 | 143 => 98 | 195 => 121 | 197 => 122 | 218 => 123 | 219 => 99 | 260 => 142 | 217 => 124 | 225 => 125 | 224 => 126 | 267 => 127 | 266 => 143 | 314 => 144 | n => n, fun | 9 => 9 | 31 => 68 | 3 => 3 | 4 => 4 | 0 => 0 | 105 => 156 | 21 => 21 | 5 => 5 | 46 => 148 | 119 => 191 | 139 => 194 | 138 => 193 | 146 => 167 | 51 => 165 | n => n, fun | 1 => 0 | 3 => 2 | 4 => 3 | n => n⟩
theorem Tryz.lays146 : Go.Proofs.Lays.n146 Tryz.prog Tryz.lays146_ren := {
  mixed := by kernel_rfl
  f138 := Tryz.func97.trans (congrArg some (by kernel_rfl))
  f143 := Tryz.func98.trans (congrArg some (by kernel_rfl))
  f146 := Tryz.func44.trans (congrArg some (by kernel_rfl))
  f195 := Tryz.func121.trans (congrArg some (by kernel_rfl))
  f197 := Tryz.func122.trans (congrArg some (by kernel_rfl))
  f217 := Tryz.func124.trans (congrArg some (by kernel_rfl))
  f218 := Tryz.func123.trans (congrArg some (by kernel_rfl))
  f219 := Tryz.func99.trans (congrArg some (by kernel_rfl))
  f221 := Tryz.func72.trans (congrArg some (by kernel_rfl))
  f224 := Tryz.func126.trans (congrArg some (by kernel_rfl))
  f225 := Tryz.func125.trans (congrArg some (by kernel_rfl))
  f260 := Tryz.func142.trans (congrArg some (by kernel_rfl))
  f266 := Tryz.func143.trans (congrArg some (by kernel_rfl))
  f267 := Tryz.func127.trans (congrArg some (by kernel_rfl))
  f268 := Tryz.func96.trans (congrArg some (by kernel_rfl))
  f314 := Tryz.func144.trans (congrArg some (by kernel_rfl))
  t0 := Tryz.underlying0
  a0 := Tryz.isAgg0
  z0 := Tryz.sizeOf0
  v0 := Tryz.zeroValue0
  t3 := Tryz.underlying3
  a3 := Tryz.isAgg3
  z3 := Tryz.sizeOf3
  v3 := Tryz.zeroValue3
  t4 := Tryz.underlying4
  a4 := Tryz.isAgg4
  z4 := Tryz.sizeOf4
  v4 := Tryz.zeroValue4
  t5 := Tryz.underlying5
  a5 := Tryz.isAgg5
  z5 := Tryz.sizeOf5
  v5 := Tryz.zeroValue5
  t9 := Tryz.underlying9
  a9 := Tryz.isAgg9
  z9 := Tryz.sizeOf9
  v9 := Tryz.zeroValue9
  t21 := Tryz.underlying21
  a21 := Tryz.isAgg21
  z21 := Tryz.sizeOf21
  v21 := Tryz.zeroValue21
  t31 := Tryz.underlying68
  a31 := Tryz.isAgg68
  z31 := Tryz.sizeOf68
  v31 := Tryz.zeroValue68
  t46 := Tryz.underlying148
  a46 := Tryz.isAgg148
  z46 := Tryz.sizeOf148
  v46 := Tryz.zeroValue148
  t51 := Tryz.underlying165
  a51 := Tryz.isAgg165
  z51 := Tryz.sizeOf165
  v51 := Tryz.zeroValue165
  t105 := Tryz.underlying156
  a105 := Tryz.isAgg156
  z105 := Tryz.sizeOf156
  v105 := Tryz.zeroValue156
  t119 := Tryz.underlying191
  a119 := Tryz.isAgg191
  z119 := Tryz.sizeOf191
  t138 := Tryz.underlying193
  a138 := Tryz.isAgg193
  z138 := Tryz.sizeOf193
  v138 := Tryz.zeroValue193
  t139 := Tryz.underlying194
  a139 := Tryz.isAgg194
  z139 := Tryz.sizeOf194
  v139 := Tryz.zeroValue194
  t146 := Tryz.underlying167
  a146 := Tryz.isAgg167
  z146 := Tryz.sizeOf167
  v146 := Tryz.zeroValue167
  g1 := by kernel_rfl
  g3 := by kernel_rfl
  g4 := by kernel_rfl }
open Go.RowKit Go.Lib in

theorem Tryz.strings_Split (s sep : ByteArray) (m : Int) (w : World) (hs : s.size < 4294967281) (hm : w.cell? ⟨0, 0, none⟩ = some (.int .i64 m)) (h1 : 1 ≤ sep.size) :
    Calls Tryz.prog 44 #[.string s, .string sep] w fun e w' =>
      e = .returned (.slice (some ⟨w.heap.size, 0, none⟩) (Lib.countB s sep + 1) (Lib.countB s sep + 1)) ∧ w' = w.alloc (.cells ((Lib.splitB sep 0 (Lib.countB s sep) s).map Value.string).toArray 9) := Any.strings_Split Tryz.lays146 (by kernel_rfl) s sep m w hs hm h1
open Go.RowKit Go.Sort in

theorem Tryz.slices_Sort_int_none (p : Option Addr) (cap : Nat) (w : World) :
    Calls Tryz.prog 103 #[.slice p 0 cap] w fun e w' => e = .returned (.tuple #[]) ∧ w' = w := Any.slices_Sort_int_none Tryz.lays189 p cap w
end Go.Proofs
end
section
set_option linter.unusedVariables false
set_option linter.unusedSimpArgs false
namespace Go.Proofs.YtfbmjonhohebiaaGreatDoor
open Go.RowKit Go.Proofs.YtfbmjonhohebiaaGreatDoorW.PrintWords Go.Proofs.YtfbmjonhohebiaaGreatDoorW.PrintLast Go.Proofs.YtfbmjonhohebiaaGreatDoorW.PrintMore PRecurExpands
structure Globs (w : World) : Prop where
  size : 8 ≤ w.heap.size
  maxlen : ∃ m : Int, w.cell? ⟨0, 0, none⟩ = some (.int .i64 m)
  tab : Lib.TabIs Tryz.prog w "internal/strconv.uint64pow10" .u64 Lib.pow10Tab
  syn : ∃ tp p, w.var? Tryz.prog "strconv.ErrSyntax" = some #[.iface tp p]
  rng : ∃ tp p, w.var? Tryz.prog "strconv.ErrRange" = some #[.iface tp p]
theorem Globs.below {w w' : World} (h : Globs w) (hb : Below w.heap.size w w') : Globs w' := by
  have hs := h.size
  refine ⟨Nat.le_trans hs hb.size, ?_, ?_, ?_, ?_⟩
  · obtain ⟨m, hm⟩ := h.maxlen
    exact ⟨m, (hb.cell (p := ⟨0, 0, none⟩) (by show (0 : Nat) < _; omega)).trans hm⟩
  · exact var?_below (g := 1) hb (by kernel_rfl) (by omega) h.tab
  · obtain ⟨tp, p, hv⟩ := h.syn
    exact ⟨tp, p, var?_below (g := 4) hb (by kernel_rfl) (by omega) hv⟩
  · obtain ⟨tp, p, hv⟩ := h.rng
    exact ⟨tp, p, var?_below (g := 5) hb (by kernel_rfl) (by omega) hv⟩
theorem grow_below (w : World) (k : Nat) (os : Array Obj) : Below w.heap.size w (Go.Sort.grow (w.drewN k) os) := by
  refine ⟨rfl, rfl, rfl, ?_, fun i hi => ?_⟩
  · show w.heap.size ≤ (w.heap ++ os).size
    simp
  · show (w.heap ++ os)[i]? = w.heap[i]?
    rw [Array.getElem?_append_left hi]
def numV (l : List UInt8) : Int := match Lib.atoiAll l with | .ok v => v | .range => Lib.atoiSat l | _ => 0
def numB (l : List UInt8) : Bool := match Lib.atoiAll l with | .ok v => (Lib.itoa v == l) && decide (l.length < 9) | _ => false
theorem atoiAll_rng {l : List UInt8} {v : Int} (h : Lib.atoiAll l = .ok v) : -9223372036854775808 ≤ v ∧ v ≤ 9223372036854775807 := by
  unfold Lib.atoiAll at h
  cases l with
  | nil => simp at h
  | cons c r =>
    simp only at h
    split at h
    · cases h
    · cases h
    · rename_i u _
      split at h
      · cases h
      · rename_i h1
        split at h
        · cases h
        · rename_i h2
          injection h with h
          subst h
          split
          · rename_i hn; have : ¬ 9223372036854775808 < u := fun hc => h2 ⟨hn, hc⟩; omega
          · rename_i hn; have : ¬ 9223372036854775808 ≤ u := fun hc => h1 ⟨hn, hc⟩; omega
theorem atoi_ok (s : ByteArray) (hs : s.size ≤ 140737488351232) (v : Int) (h : Lib.atoiAll s.data.toList = .ok v) (w : World) :
    Calls Tryz.prog 100 #[.string s] w fun e w' => e = .returned (.tuple #[.int .i64 v, .nilIface]) ∧ Below w.heap.size w w' := by
  refine (Tryz.strconv_Atoi_ok s (by omega) v h w).mono ?_
  rintro e w' ⟨rfl, rfl | ⟨t, rfl⟩⟩
  · exact ⟨rfl, Below.refl _ _⟩
  · exact ⟨rfl, bytes_below (Below.refl _ _) (Nat.le_refl _) 5 t⟩
theorem atoi_bad (s : ByteArray) (hs : s.size ≤ 140737488351232) (h : ∀ v, Lib.atoiAll s.data.toList ≠ .ok v) (w : World) (hG : Globs w) :
    Calls Tryz.prog 100 #[.string s] w fun e w' => (∃ t x, e = .returned (.tuple #[.int .i64 (numV s.data.toList), .iface t x])) ∧ Below w.heap.size w w' := by
  cases h' : Lib.atoiAll s.data.toList
  · exact absurd h' (h _)
  · obtain ⟨tp, p, hv⟩ := hG.syn
    have hx : Calls Tryz.prog 100 #[.string s] w (fun e w' => ∃ N tt, e = .returned (.tuple #[.int .i64 0, .iface tt (.pointer (some ⟨N, 0, none⟩))]) ∧ Below w.heap.size w w') :=
      (Any.strconv_Atoi_syntax_var Tryz.laysC172 s (by omega) h' tp p w hv).mono (fun e w' ⟨N, h1, _, _, h4⟩ => ⟨N, _, h1, h4⟩)
    refine hx.mono ?_
    rintro e w' ⟨N, tt, rfl, hb⟩
    exact ⟨⟨_, _, by rw [show numV s.data.toList = 0 from by simp only [numV, h']]⟩, hb⟩
  · obtain ⟨tp, p, hv⟩ := hG.rng
    refine (Tryz.strconv_Atoi_range_var s (by omega) h' tp p w hv).mono ?_
    rintro e w' ⟨N, rfl, _, _, hb⟩
    exact ⟨⟨_, _, by rw [show numV s.data.toList = Lib.atoiSat s.data.toList from by simp only [numV, h']]⟩, hb⟩
theorem itoa_c (n : Int) (h0 : -9223372036854775808 ≤ n) (h1 : n ≤ 9223372036854775807) (w : World) (hG : Globs w) :
    Calls Tryz.prog 34 #[.int .i64 n] w fun e w' => e = .returned (.string ⟨(Lib.itoa n).toArray⟩) ∧ Below w.heap.size w w' := by
  refine (Tryz.strconv_Itoa n h0 h1 w hG.tab).mono ?_
  rintro e w' ⟨rfl, k, os, rfl⟩
  exact ⟨rfl, grow_below w k os⟩
theorem ret2_ib {k : IntKind} {a b : Int} {a' b' : Bool} (h : a = b) (h' : a' = b') : Ending.returned (.tuple #[.int k a, .bool a']) = .returned (.tuple #[.int k b, .bool b']) := by rw [h, h']
set_option maxRecDepth 100000 in
set_option maxHeartbeats 2000000 in
theorem recur_number (s : ByteArray) (hs : s.size ≤ 140737488351232) (w : World) (hG : Globs w) :
    Calls Tryz.prog 74 #[.string s] w fun e w' => e = .returned (.tuple #[.int .i64 (numV s.data.toList), .bool (numB s.data.toList)]) ∧ Below w.heap.size w w' := by
  by_cases hok : ∃ v, Lib.atoiAll s.data.toList = .ok v
  · obtain ⟨v, h⟩ := hok
    have hrng := atoiAll_rng h
    obtain ⟨r0, r1⟩ := hrng
    have H := Aside0.mk h
    have hv : numV s.data.toList = v := by simp only [numV, h]
    have hB : numB s.data.toList = ((Lib.itoa v == s.data.toList) && decide (s.data.toList.length < 9)) := by simp only [numB, h]
    have HV := Aside0.mk hv
    have HB := Aside0.mk hB
    clear h hv hB
    go_enter Tryz.func74, Tryz.ntmps74
    go_wp2_with (first
        | (go_at_call 100; refine (atoi_ok s hs v H.out _).mono ?_; rintro e w2 ⟨rfl, hb2⟩)
        | (go_at_call 34; refine (itoa_c v r0 r1 _ (hG.below hb2)).mono ?_; rintro e w3 ⟨rfl, hb3⟩))
    · have he : Lib.itoa v = s.toList := by assumption
      go_ret2
      exact ⟨ret2_ib HV.out.symm (by rw [HB.out, ← Lib.toList_data, beq_iff_eq.mpr he, Bool.true_and, Lib.toList_data, data_length]; rw [decide_eq_decide]; omega), hb2.trans (hb3.mono hb2.size)⟩
    · have he : ¬ Lib.itoa v = s.toList := by assumption
      go_ret2
      exact ⟨ret2_ib HV.out.symm (by rw [HB.out, ← Lib.toList_data, beq_eq_false_iff_ne.mpr he, Bool.false_and]), hb2.trans (hb3.mono hb2.size)⟩
  · have hv : numB s.data.toList = false := by
      cases h : Lib.atoiAll s.data.toList
      · exact absurd ⟨_, h⟩ hok
      · simp only [numB, h]
      · simp only [numB, h]
    have HV := Aside0.mk hv
    clear hv
    go_enter Tryz.func74, Tryz.ntmps74
    go_wp2_with (go_at_call 100; refine (atoi_bad s hs (fun v h => hok ⟨v, h⟩) _ hG).mono ?_; rintro e w2 ⟨⟨t, x, rfl⟩, hb2⟩)
    go_ret2
    exact ⟨ret2_ib rfl HV.out.symm, hb2⟩
end Go.Proofs.YtfbmjonhohebiaaGreatDoor
end
section
set_option linter.unusedVariables false
set_option linter.unusedSimpArgs false
namespace Go.Proofs.YtfbmjonhohebiaaGreatDoor
open Go.RowKit Go.Proofs.YtfbmjonhohebiaaGreatDoorW.PrintWords Go.Proofs.YtfbmjonhohebiaaGreatDoorW.PrintLast Go.Proofs.YtfbmjonhohebiaaGreatDoorW.PrintMore PRecurExpands
def freqL (n : Int) : List UInt8 := if n = 1 then [68, 65, 73, 76, 89] else if n = 2 then [87, 69, 69, 75, 76, 89] else if n = 3 then [77, 79, 78, 84, 72, 76, 89] else [89, 69, 65, 82, 76, 89]
def wdL (n : Int) : List UInt8 := if n = 0 then [77, 79] else if n = 1 then [84, 85] else if n = 2 then [87, 69] else if n = 3 then [84, 72] else if n = 4 then [70, 82] else if n = 5 then [83, 65] else [83, 85]
set_option maxRecDepth 100000 in
set_option maxHeartbeats 2000000 in
theorem recur_freq (n : Int) (h0 : 1 ≤ n) (h1 : n ≤ 4) (w : World) :
    Calls Tryz.prog 33 #[.int .i64 n] w fun e w' => e = .returned (.string ⟨(freqL n).toArray⟩) ∧ Below w.heap.size w w' := by
  have h : n = 1 ∨ n = 2 ∨ n = 3 ∨ n = 4 := by omega
  clear h0 h1
  rcases h with rfl | rfl | rfl | rfl <;>
  ( go_enter Tryz.func33, Tryz.ntmps33
    go_wp2
    go_ret
    exact ⟨rfl, (Below.refl _ _).alloc (Nat.le_refl _) _⟩)
set_option maxRecDepth 100000 in
set_option maxHeartbeats 2000000 in
theorem recur_weekday (n : Int) (h0 : 0 ≤ n) (h1 : n ≤ 6) (w : World) :
    Calls Tryz.prog 37 #[.int .i64 n] w fun e w' => e = .returned (.string ⟨(wdL n).toArray⟩) ∧ Below w.heap.size w w' := by
  have h : n = 0 ∨ n = 1 ∨ n = 2 ∨ n = 3 ∨ n = 4 ∨ n = 5 ∨ n = 6 := by omega
  clear h0 h1
  rcases h with rfl | rfl | rfl | rfl | rfl | rfl | rfl <;>
  ( go_enter Tryz.func37, Tryz.ntmps37
    go_wp2
    go_ret
    exact ⟨rfl, (Below.refl _ _).alloc (Nat.le_refl _) _⟩)
end Go.Proofs.YtfbmjonhohebiaaGreatDoor
end
section
set_option linter.unusedVariables false
set_option linter.unusedSimpArgs false
namespace Go.Proofs.YtfbmjonhohebiaaGreatDoor
open Go.RowKit Go.Proofs.YtfbmjonhohebiaaGreatDoorW.PrintWords Go.Proofs.YtfbmjonhohebiaaGreatDoorW.PrintLast Go.Proofs.YtfbmjonhohebiaaGreatDoorW.PrintMore PRecurExpands
def sufL (l : List UInt8) : List UInt8 := l.drop (l.length - 2)
def dayUp (l : List UInt8) : Nat → Int
  | 0 => -1
  | i + 1 => if wdL i = sufL l then (i : Int) else dayUp l i
def digL (l : List UInt8) : List UInt8 := Lib.trimPrefix (l.take (l.length - 2)) [43]
def wkBadV (b : Bool) (v : Int) (c : UInt8) : Bool := !b || v == 0 || (c == 43 && decide (v < 0))
def wkBad (l : List UInt8) : Bool := wkBadV (numB (digL l)) (numV (digL l)) (l.headD 0)
theorem u8_43 {c : UInt8} (h : (c.toNat : Int) = 43) : c = 43 := by
  have : c.toNat = 43 := by omega
  exact UInt8.toNat_inj.mp this
theorem head_get (X : ByteArray) (h : 0 < X.size) : X.data.toList.headD 0 = X[0] := by
  have e : X[0] = X.data[0] := rfl
  rw [e]
  have h2 : 0 < X.data.size := h
  cases hl : X.data.toList with
  | nil => have := congrArg List.length hl; rw [Array.length_toList] at this; simp only [List.length_nil] at this; omega
  | cons a r =>
    have : X.data.toList[0]'(by simpa using h2) = a := by simp [hl]
    rw [← this]; simp
def wkOne (l : List UInt8) : Option S59 :=
  if l.length < 2 then none else
  if l.take (l.length - 2) = [] then some ⟨dayUp l 7, 0⟩ else
  if wkBad l = true then none else some ⟨dayUp l 7, numV (digL l)⟩
def wkAll : List (List UInt8) → Option (List S59)
  | [] => some []
  | l :: ls => match wkOne l with | none => none | some x => (wkAll ls).map (x :: ·)
def enc59 (x : S59) : List Value := [.int .i64 x.f0, .int .i64 x.f1]
theorem info_59 : (Tryz.prog.info? 59).map (fun i => (i.zero, i.size, i.bytes)) = some (some (.agg #[.int .i64 0, .int .i64 0]), 2, 16) := by kernel_rfl
set_option maxRecDepth 100000 in
set_option maxHeartbeats 2000000 in
theorem recur_order_c (x y : S59) (w : World) :
    Calls Tryz.prog 52 #[.agg #[.int .i64 x.f0, .int .i64 x.f1], .agg #[.int .i64 y.f0, .int .i64 y.f1]] w fun e w' => e = .returned (.int .i64 (if x.f0 = y.f0 then wrap64 (x.f1 - y.f1) else wrap64 (x.f0 - y.f0))) ∧ ∃ q os', w' = Go.Sort.grow (w.drewN q) os' := by
  by_cases h : x.f0 = y.f0
  · rw [if_pos h]
    go_enter Tryz.func52, Tryz.ntmps52
    go_wp2
    go_ret
    exact ⟨rfl, 0, _, by rw [Go.Sort.alloc_eq_grow, Go.Sort.alloc_eq_grow, Go.Sort.grow_grow]; rfl⟩
  · rw [if_neg h]
    go_enter Tryz.func52, Tryz.ntmps52
    go_wp2
    go_ret
    exact ⟨rfl, 0, _, by rw [Go.Sort.alloc_eq_grow, Go.Sort.alloc_eq_grow, Go.Sort.grow_grow]; rfl⟩
def In59 (x : S59) : Prop := -1 ≤ x.f0 ∧ x.f0 ≤ 6 ∧ -1000000000 ≤ x.f1 ∧ x.f1 ≤ 1000000000
theorem itoa_in {v : Int} (h : (Lib.itoa v).length < 9) : -1000000000 ≤ v ∧ v ≤ 1000000000 := by
  by_cases hneg : v < 0
  · obtain ⟨u, rfl⟩ : ∃ u : Nat, v = -(u : Int) := ⟨v.natAbs, by omega⟩
    rw [Lib.itoa_neg u (by omega), List.length_cons, Lib.decDigits_length] at h
    have h1 := Lib.lt_pow_nDigits u
    have h2 : 10 ^ Lib.nDigits u ≤ 10 ^ 9 := Nat.pow_le_pow_right (by omega) (by omega)
    omega
  · obtain ⟨u, rfl⟩ : ∃ u : Nat, v = u := ⟨v.toNat, by omega⟩
    rw [Lib.itoa_nonneg, Lib.decDigits_length] at h
    have h1 := Lib.lt_pow_nDigits u
    have h2 : 10 ^ Lib.nDigits u ≤ 10 ^ 9 := Nat.pow_le_pow_right (by omega) (by omega)
    omega
theorem numB_in {l : List UInt8} (h : numB l = true) : -1000000000 ≤ numV l ∧ numV l ≤ 1000000000 := by
  unfold numB at h
  cases hl : Lib.atoiAll l
  · rename_i v
    rw [hl] at h
    simp only [Bool.and_eq_true, beq_iff_eq, decide_eq_true_eq] at h
    have e : numV l = v := by simp only [numV, hl]
    rw [e]
    exact itoa_in (by rw [h.1]; exact h.2)
  · rw [hl] at h; cases h
  · rw [hl] at h; cases h
theorem wkAll_none {l : List UInt8} (hl : wkOne l = none) (b : List (List UInt8)) : ∀ {a : List (List UInt8)} {xs : List S59}, wkAll a = some xs → wkAll (a ++ l :: b) = none := by
  intro a
  induction a with
  | nil => intro xs _; simp [wkAll, hl]
  | cons x a ih =>
    intro xs h
    simp only [wkAll] at h
    cases hx : wkOne x with
    | none => rw [hx] at h; cases h
    | some y =>
      rw [hx] at h
      simp only [Option.map_eq_some_iff] at h
      obtain ⟨ys, h1, _⟩ := h
      simp only [List.cons_append, wkAll, hx, ih h1, Option.map_none]
theorem wkAll_some {l : List UInt8} {y : S59} (hl : wkOne l = some y) : ∀ {a : List (List UInt8)} {xs : List S59}, wkAll a = some xs → wkAll (a ++ [l]) = some (xs ++ [y]) := by
  intro a
  induction a with
  | nil => intro xs h; injection h with h; subst h; simp [wkAll, hl]
  | cons x a ih =>
    intro xs h
    simp only [wkAll] at h
    cases hx : wkOne x with
    | none => rw [hx] at h; cases h
    | some z =>
      rw [hx] at h
      simp only [Option.map_eq_some_iff] at h
      obtain ⟨ys, h1, rfl⟩ := h
      simp only [List.cons_append, wkAll, hx, ih h1, Option.map_some]
theorem map_split {α β : Type} (f : α → β) (L : List α) (k : Nat) (X : α) (h : L[k]? = some X) : L.map f = (L.take k).map f ++ f X :: (L.drop (k + 1)).map f := by
  obtain ⟨hk, rfl⟩ := List.getElem?_eq_some_iff.mp h
  rw [← List.map_cons, ← List.map_append, ← List.drop_eq_getElem_cons hk, List.take_append_drop]
theorem map_take {α β : Type} (f : α → β) (L : List α) (k : Nat) (X : α) (h : L[k]? = some X) : (L.take (k + 1)).map f = (L.take k).map f ++ [f X] := by
  obtain ⟨hk, rfl⟩ := List.getElem?_eq_some_iff.mp h
  rw [List.take_succ_eq_append_getElem hk, List.map_append, List.map_cons, List.map_nil]
theorem digL_len (l : List UInt8) : (digL l).length ≤ l.length := by
  unfold digL Lib.trimPrefix
  split
  · simp; omega
  · simp
theorem isEmpty_take {X : ByteArray} {b : Bool} (h2 : ¬ X.size < 2) (hE : (X.extract 0 (X.size - 2)).toList.isEmpty = b) : (X.data.toList.take (X.data.toList.length - 2)).isEmpty = b := by
  rw [← hE, Lib.toList_data, Lib.extract_from_zero, data_length]
theorem wk_plain {X : ByteArray} (h2 : ¬ X.size < 2) (hE : (X.extract 0 (X.size - 2)).toList.isEmpty = true) : wkOne X.data.toList = some ⟨dayUp X.data.toList 7, 0⟩ := by
  unfold wkOne
  rw [if_neg (by rw [data_length]; exact h2), if_pos (List.isEmpty_iff.mp (isEmpty_take h2 hE))]
theorem wk_bad {X : ByteArray} (h2 : ¬ X.size < 2) (hE : (X.extract 0 (X.size - 2)).toList.isEmpty = false) (hb : wkBad X.data.toList = true) : wkOne X.data.toList = none := by
  unfold wkOne
  rw [if_neg (by rw [data_length]; exact h2), if_neg (fun h => by have := isEmpty_take h2 hE; rw [h] at this; cases this), if_pos hb]
theorem wk_good {X : ByteArray} (h2 : ¬ X.size < 2) (hE : (X.extract 0 (X.size - 2)).toList.isEmpty = false) (hb : wkBad X.data.toList = false) : wkOne X.data.toList = some ⟨dayUp X.data.toList 7, numV (digL X.data.toList)⟩ := by
  unfold wkOne
  rw [if_neg (by rw [data_length]; exact h2), if_neg (fun h => by have := isEmpty_take h2 hE; rw [h] at this; cases this), if_neg (by rw [hb]; decide)]
theorem suf_eq {X : ByteArray} (h2 : ¬ X.size < 2) : (X.extract (X.size - 2) X.size).toList = sufL X.data.toList := by
  unfold sufL
  rw [Lib.toList_data, data_length]
  simp [ByteArray.data_extract]
  rw [show X.size = X.data.toList.length from by simp]
  exact List.take_of_length_le (by simp)
theorem day_yes {X : ByteArray} {d : Nat} (h2 : ¬ X.size < 2) (h : (wdL d == (X.extract (X.size - 2) X.size).toList) = true) : dayUp X.data.toList (d + 1) = d := by
  rw [suf_eq h2] at h
  rw [dayUp, if_pos (by simpa using h)]
theorem day_no {X : ByteArray} {d : Nat} (h2 : ¬ X.size < 2) (h : (wdL d == (X.extract (X.size - 2) X.size).toList) = false) : dayUp X.data.toList (d + 1) = dayUp X.data.toList d := by
  rw [suf_eq h2] at h
  rw [dayUp, if_neg (by simpa using h)]
theorem wkOne_in {l : List UInt8} {x : S59} (h : wkOne l = some x) : In59 x := by
  have hd : ∀ k : Nat, k ≤ 7 → -1 ≤ dayUp l k ∧ dayUp l k ≤ 6 := by
    intro k
    induction k with
    | zero => intro _; simp [dayUp]
    | succ k ih =>
      intro hk
      have := ih (by omega)
      rw [dayUp]
      split
      · omega
      · exact this
  have hd7 := hd 7 (by omega)
  unfold wkOne at h
  split at h
  · cases h
  · split at h
    · injection h with h; subst h; exact ⟨hd7.1, hd7.2, by simp, by simp⟩
    · split at h
      · cases h
      · rename_i hb
        injection h with h; subst h
        have hb' : wkBad l = false := by simpa using hb
        have hn : numB (digL l) = true := by
          unfold wkBad wkBadV at hb'
          simp at hb'
          exact hb'.1.1
        obtain ⟨n1, n2⟩ := numB_in hn
        exact ⟨hd7.1, hd7.2, n1, n2⟩
theorem wkAll_in : ∀ {a : List (List UInt8)} {xs : List S59}, wkAll a = some xs → ∀ x ∈ xs, In59 x := by
  intro a
  induction a with
  | nil => intro xs h; injection h with h; subst h; simp
  | cons l a ih =>
    intro xs h
    simp only [wkAll] at h
    cases hx : wkOne l with
    | none => rw [hx] at h; cases h
    | some y =>
      rw [hx] at h
      simp only [Option.map_eq_some_iff] at h
      obtain ⟨ys, h1, rfl⟩ := h
      intro x hm
      rcases List.mem_cons.mp hm with rfl | hm
      · exact wkOne_in hx
      · exact ih h1 x hm
def lt59 (x y : S59) : Bool := decide (x.f0 < y.f0) || (decide (x.f0 = y.f0) && decide (x.f1 < y.f1))
def srt59 (l : List S59) : List S59 := l.mergeSort fun x y => !lt59 y x
def SortC : Prop := ∀ (base : Nat) (v : Value) (xs : List S59) (W : World), (∀ x ∈ xs, In59 x) → W.ownsRow base 59 2 v xs.length (xs.flatMap enc59) → xs.length ≤ 4294967296 →
  Calls Tryz.prog 105 #[v, .func (.func 52) #[] #[]] W fun e w' => e = .returned (.tuple #[]) ∧ w'.ownsRow base 59 2 v xs.length ((srt59 xs).flatMap enc59) ∧ Below base W w'
def wkPost (o : Option (List S59)) (n₀ : Nat) (e : Ending) (w' : World) : Prop := match o with
  | none => e = .returned (.tuple #[.slice none 0 0, .bool false])
  | some xs => ∃ v, e = .returned (.tuple #[v, .bool true]) ∧ w'.ownsRow n₀ 59 2 v xs.length ((srt59 xs).flatMap enc59)
theorem cell_two_at (w : World) (x y : Value) (t : TypeId) {b : Nat} (h : b = w.heap.size) : ∀ j u, [x, y][j]? = some u → (w.alloc (.cells #[x, y] t)).cell? ((⟨b, 0, none⟩ : Addr).add j) = some u := by
  subst h; exact cell_two_new w x y t
theorem week_app {w W1 wr w1 : World} {n m : Nat} {v : Value} {xs : List Value} {o tmp : Obj} (hb : Below n w W1) (hbk : W1.heap[n]? = some o) (hrow : W1.ownsRow (n + 1) 59 2 v m xs) (hbq : Below W1.heap.size W1 wr) (hg : (wr.alloc tmp).grownBy w1 v.ownBlock) :
    Below n w w1 ∧ w1.heap[n]? = some o := by
  have hz := blk_lt hbk
  have h2 := hbq.size
  have key : ∀ k, v.ownBlock = some k → n + 1 ≤ k := fun k hk => own_base hrow k hk
  refine ⟨((hb.trans (hbq.mono (by omega))).alloc (by omega) _).grown hg (by simp; omega) (fun k hk => by have := key k hk; omega), blk_grown (blk_alloc (blk_below hbk hbq) _) hg (fun e => by have := key n e.symm; omega)⟩
def spl (s : ByteArray) (c : UInt8) : List ByteArray := Lib.splitB ⟨#[c]⟩ 0 (Lib.countB s ⟨#[c]⟩) s
theorem spl_len (s : ByteArray) (c : UInt8) : (spl s c).length = Lib.countB s ⟨#[c]⟩ + 1 := Lib.splitB_all ⟨#[c]⟩ (Nat.le_refl 1) 0 _ s rfl
theorem splitB_mem (sep : ByteArray) : ∀ (k : Nat) (s : ByteArray), ∀ x ∈ Lib.splitB sep 0 k s, x.size ≤ s.size := by
  intro k
  induction k with
  | zero => intro s x hx; rw [Lib.splitB_zero] at hx; rw [List.mem_singleton.mp hx]; exact Nat.le_refl _
  | succ k ih =>
    intro s x hx
    unfold Lib.splitB at hx
    split at hx
    · rw [List.mem_singleton.mp hx]; exact Nat.le_refl _
    · rcases List.mem_cons.mp hx with rfl | hx
      · simp [ByteArray.size_extract]; omega
      · have := ih _ x hx
        simp [ByteArray.size_extract] at this
        omega
theorem spl_mem (s : ByteArray) (c : UInt8) : ∀ x ∈ spl s c, x.size ≤ s.size := splitB_mem _ _ s
set_option maxRecDepth 100000 in
set_option maxHeartbeats 2000000 in
theorem recur_week (hsort : SortC) (s : ByteArray) (hs : s.size < 4294967000) (w : World) (hG : Globs w) :
    Calls Tryz.prog 77 #[.string s] w fun e w' => wkPost (wkAll ((spl s 44).map (·.data.toList))) w.heap.size e w' ∧ Below w.heap.size w w' := by
  obtain ⟨m, hm⟩ := hG.maxlen
  obtain ⟨L, hL⟩ : ∃ L, L = spl s 44 := ⟨_, rfl⟩
  have hlen : Lib.countB s ⟨#[44]⟩ + 1 = L.length := by rw [hL]; exact (spl_len s 44).symm
  rw [← hL]
  have hLs : ∀ x ∈ L, x.size ≤ s.size := by rw [hL]; exact spl_mem s 44
  have hLl : L.length ≤ s.size + 1 := by rw [hL, spl_len]; have := Lib.countB_le ⟨#[44]⟩ (by decide) s.size s (Nat.le_refl _); omega
  have hcut := Tryz.strings_Split s ⟨#[44]⟩ m w (by omega) hm (by decide)
  rw [show Lib.splitB ⟨#[44]⟩ 0 (Lib.countB s ⟨#[44]⟩) s = L from hL.symm, hlen] at hcut
  have hG1 := Aside0.mk hG
  clear hG hL hlen
  go_enter Tryz.func77, Tryz.ntmps77
  go_wp2_with (go_at_call 44; refine hcut.mono ?_; rintro e w2 ⟨rfl, rfl⟩)
  have hb0 : Below w.heap.size w (w.alloc (.cells (L.map Value.string).toArray 9)) := (Below.refl _ _).alloc (Nat.le_refl _) _
  have hk0 : (w.alloc (.cells (L.map Value.string).toArray 9)).heap[w.heap.size]? = some (.cells (L.map Value.string).toArray 9) := blk_new w _
  obtain ⟨i0, hi, hz0, hz1, hz2⟩ := info_parts info_59
  go_loopw [4, 15] (fun v i wr => ∃ (k : Nat) (xs : List S59), k ≤ L.length ∧ i = .int .i64 k ∧ Below w.heap.size w wr ∧ wr.heap[w.heap.size]? = some (.cells (L.map Value.string).toArray 9) ∧ wkAll ((L.take k).map (·.data.toList)) = some xs ∧ xs.length = k ∧ wr.ownsRow (w.heap.size + 1) 59 2 v xs.length (xs.flatMap enc59)) (fun v i _ => L.length - (intOf i).toNat)
  case atStart => exact ⟨0, [], by omega, rfl, hb0, hk0, rfl, rfl, World.ownsRow_nil _ _ _ _⟩
  case round =>
    obtain ⟨k, xs, hk, rfl, hb, hbk, hall, rfl, hrow⟩ := hrel
    obtain ⟨W1, hW1⟩ : ∃ W1, W1 = wr := ⟨_, rfl⟩
    subst hW1
    have hzz1 := blk_lt hbk
    by_cases hlt : xs.length < L.length
    · obtain ⟨X, hX⟩ : ∃ X, L[xs.length]? = some X := ⟨L[xs.length], List.getElem?_eq_getElem hlt⟩
      have hXs := hLs X (List.mem_of_getElem? hX)
      have hcell : W1.cell? ⟨w.heap.size, xs.length, none⟩ = some (.string X) := by rw [blk_cell hbk]; simp [hX]
      obtain ⟨A, cv, rfl⟩ := own_slice hrow
      have HROW := Aside0.mk hrow
      have HALL := Aside0.mk hall
      have HB := Aside0.mk hb
      have HBK := Aside0.mk hbk
      clear hrow hall hb hbk
      by_cases h2 : X.size < 2
      · go_wp2
        go_ret2
        refine ⟨?_, HB.out⟩
        rw [map_split _ L _ X hX, wkAll_none (by unfold wkOne; rw [if_pos (by simpa using h2)]) _ HALL.out]
        rfl
      · go_wp2
        go_loopw [23] (fun j wq => ∃ d : Nat, d ≤ 7 ∧ j = .int .i64 d ∧ Below W1.heap.size W1 wq ∧ wq.heap[W1.heap.size]? = some (.cells #[.int .i64 (dayUp X.data.toList d), .int .i64 0] 59)) (fun j _ => 7 - (intOf j).toNat)
        case atStart => exact ⟨0, by omega, rfl, (Below.refl _ _).alloc (Nat.le_refl _) _, blk_new W1 _⟩
        case round =>
          obtain ⟨d, hd, rfl, hbq, hq⟩ := hrel
          have hzq := hbq.size
          have c0 := blk_cell hq 0
          have c1 := blk_cell hq 1
          have cf := blk_frozen hq 0
          simp at c0 c1
          by_cases hd7 : d < 7
          · clear hX HROW HALL HB HBK
            go_wp2
            have q1 : IntKind.i64.wrap ((X.size : Int) - 2) = (X.size : Int) - 2 := IntWalk.i64_in _ ⟨by omega, by omega⟩
            have q2 : (0 : Int) ≤ (X.size : Int) - 2 := by omega
            have q3 : ((X.size : Int) - 2).toNat = X.size - 2 := by omega
            have q4 : (X.size : Int) - 2 ≤ (X.size : Int) := by omega
            have q5 : X.size - 2 ≤ X.size := by omega
            go_region_with (go_at_call 37; refine (recur_weekday d (by omega) (by omega) _).mono ?_; rintro e w3 ⟨rfl, hb3⟩)
            clear q1 q2 q3 q4 q5
            have hb3 : Below wr.heap.size wr w3 := ((Below.refl _ wr).drew).trans hb3
            have hq3 := blk_below hq hb3
            have d0 := blk_cell hq3 0
            have d1 := blk_cell hq3 1
            have df := blk_frozen hq3 0
            simp at d0 d1
            go_wp2
            · have l1 : (wdL d == (X.extract (X.size - 2) X.size).toList) = true := by assumption
              go_roundw
              case rel => exact ⟨d + 1, by omega, by go_num, (hbq.trans (hb3.mono hbq.size)).setCell (p := ⟨W1.heap.size, 0, none⟩) (Nat.le_refl _) _, by rw [day_yes h2 l1]; exact blk_set hq3 0 _⟩
              case measure => simp [intOf]; omega
            · have l1 : (wdL d == (X.extract (X.size - 2) X.size).toList) = false := by assumption
              go_roundw
              case rel => exact ⟨d + 1, by omega, by go_num, hbq.trans (hb3.mono hbq.size), by rw [day_no h2 l1]; exact hq3⟩
              case measure => simp [intOf]; omega
          · obtain rfl : d = 7 := by omega
            have hE : (X.extract 0 (X.size - 2)).toList.isEmpty = true ∨ (X.extract 0 (X.size - 2)).toList.isEmpty = false := by cases (X.extract 0 (X.size - 2)).toList.isEmpty <;> simp
            rcases hE with hE | hE
            · have P := Aside0.mk (wk_plain h2 hE)
              go_wp2_with (at_builtin; refine wpList_append_own _ rfl _ _ 23 rfl (w.heap.size + 1) 59 i0 (.agg #[.int .i64 0, .int .i64 0]) 2 16 Tryz.underlying23 hi hz0 hz1 hz2 rfl (by decide) _ _ _ rfl ((pw_own_below HROW.out hbq).alloc _) ⟨wr.heap.size, 0, none⟩ 1 1 [.int .i64 (dayUp X.data.toList 7), .int .i64 0] rfl rfl (cell_two_new _ _ _ _) (fun x hx => by simp at hx; rcases hx with rfl | rfl <;> rfl) (by unfold maxLen; omega) (by omega) (by simp; omega) ?_; intro v' w1 hown' hgrow _)
              have T := Aside0.mk (week_app HB.out HBK.out HROW.out hbq hgrow)
              go_roundw
              case rel => exact ⟨xs.length + 1, xs ++ [⟨dayUp X.data.toList 7, 0⟩], by omega, by go_num, T.out.1, T.out.2, by rw [map_take _ L _ X hX]; exact wkAll_some P.out HALL.out, by simp, by simpa [enc59] using hown'⟩
              case measure => simp [intOf]; omega
            · obtain ⟨v, hv⟩ : ∃ v, v = numV (digL X.data.toList) := ⟨_, rfl⟩
              obtain ⟨b, hb⟩ : ∃ b, b = numB (digL X.data.toList) := ⟨_, rfl⟩
              obtain ⟨D, hD⟩ : ∃ D : ByteArray, D = ⟨(digL X.data.toList).toArray⟩ := ⟨_, rfl⟩
              have hcp : ∀ W, ∃ bb, Calls Tryz.prog 104 #[.string (X.extract 0 (X.size - 2)), .string ⟨#[43]⟩] W fun e w' => e = .returned (.tuple #[.string D, .bool bb]) ∧ w' = W := fun W => by
                have h := Tryz.strings_CutPrefix (X.extract 0 (X.size - 2)) ⟨#[43]⟩ W
                rw [Lib.extract_from_zero] at h
                exact ⟨_, by rw [hD]; exact h⟩
              have hnum : ∀ W, Globs W → Calls Tryz.prog 74 #[.string D] W fun e w' => e = .returned (.tuple #[.int .i64 v, .bool b]) ∧ Below W.heap.size W w' := fun W hW => by
                have hDl : D.data.toList = digL X.data.toList := by rw [hD]
                have h := recur_number D (by rw [← data_length, hDl]; exact Nat.le_trans (digL_len _) (by rw [data_length]; omega)) W hW
                rw [hDl, ← hv, ← hb] at h
                exact h
              have HN := Aside0.mk hnum
              have HV := Aside0.mk hv
              have HBB := Aside0.mk hb
              clear hnum hv hb hD
              obtain ⟨bb, hcp⟩ := hcp wr
              have hX0 : 0 < X.size := by omega
              have HD := Aside0.mk (head_get X hX0)
              go_wp2_with (first
                | (go_at_call 104; refine hcp.mono ?_; rintro e w2 ⟨rfl, rfl⟩)
                | (go_at_call 74; refine (HN.out _ (hG1.out.below (HB.out.trans (hbq.mono (Nat.le_of_lt hzz1))))).mono ?_; rintro e w3 ⟨rfl, hb3⟩; have hz3 := hb3.size; have hq3 := blk_below hq hb3; have d0 := blk_cell hq3 0; have d1 := blk_cell hq3 1; have df := blk_frozen hq3 1; simp at d0 d1)
                | (at_builtin; refine wpList_append_own _ rfl _ _ 23 rfl (w.heap.size + 1) 59 i0 (.agg #[.int .i64 0, .int .i64 0]) 2 16 Tryz.underlying23 hi hz0 hz1 hz2 rfl (by decide) _ _ _ rfl ((pw_own_below HROW.out ((hbq.trans (hb3.mono hbq.size)).setCell (p := ⟨W1.heap.size, 1, none⟩) (Nat.le_refl _) (.int .i64 v))).alloc _) ⟨w3.heap.size, 0, none⟩ 1 1 [.int .i64 (dayUp X.data.toList 7), .int .i64 v] rfl rfl (cell_two_at _ _ _ _ (by simp)) (fun x hx => by simp at hx; rcases hx with rfl | rfl <;> rfl) (by unfold maxLen; omega) (by omega) (by simp; omega) ?_; intro v' w1 hown' hgrow _))
              all_goals first
                | (have hbad : wkBad X.data.toList = true := by
                     unfold wkBad; rw [← HBB.out, ← HV.out, HD.out]
                     first
                       | (have e1 : ¬ b = true := (by assumption); simp [wkBadV, e1]; done)
                       | (have e1 : v = 0 := (by assumption); simp [wkBadV, e1]; done)
                       | (have e1 : (X[0].toNat : Int) = 43 := (by assumption); have e5 : (v == 0) = true ∨ v < 0 := (by assumption); have e6 : ¬ v = 0 := (by assumption); have e2 : v < 0 := e5.resolve_left (by simpa using e6); simp [wkBadV, u8_43 e1, e2]; done)
                   go_ret2
                   refine ⟨?_, HB.out.trans ((hbq.trans (hb3.mono hbq.size)).mono (Nat.le_of_lt hzz1))⟩
                   rw [map_split _ L _ X hX, wkAll_none (wk_bad h2 hE hbad) _ HALL.out]
                   rfl)
                | (have hgood : wkBad X.data.toList = false := by
                     unfold wkBad; rw [← HBB.out, ← HV.out, HD.out]
                     have e0 : b = true := (by assumption)
                     have e3 : ¬ v = 0 := (by assumption)
                     first
                       | (have e1 : ¬ (X[0].toNat : Int) = 43 := (by assumption); have e2 : ¬ X[0] = 43 := fun h => e1 (by rw [h]; rfl); simp [wkBadV, e0, e3, e2]; done)
                       | (have e2 : ¬ v < 0 := (by omega); simp [wkBadV, e0, e3, e2]; done)
                   have T := Aside0.mk (week_app HB.out HBK.out HROW.out ((hbq.trans (hb3.mono hbq.size)).setCell (p := ⟨W1.heap.size, 1, none⟩) (Nat.le_refl _) (.int .i64 v)) hgrow)
                   go_roundw
                   case rel => exact ⟨xs.length + 1, xs ++ [⟨dayUp X.data.toList 7, v⟩], by omega, by go_num, T.out.1, T.out.2, by rw [map_take _ L _ X hX]; exact wkAll_some (by rw [HV.out]; exact wk_good h2 hE hgood) HALL.out, by simp, by simpa [enc59] using hown'⟩
                   case measure => simp [intOf]; omega)
    · have hkL : xs.length = L.length := by omega
      rw [hkL, List.take_length] at hall
      go_wp2_with (go_at_call 105; refine (hsort (w.heap.size + 1) _ xs _ (wkAll_in hall) hrow (by omega)).mono ?_; rintro e w2 ⟨rfl, hrow2, hb2⟩)
      go_ret2
      refine ⟨?_, hb.trans (hb2.mono (by omega))⟩
      rw [hall]
      exact ⟨_, rfl, own_weaken hrow2 (by omega)⟩
end Go.Proofs.YtfbmjonhohebiaaGreatDoor
end
section
set_option linter.unusedVariables false
set_option linter.unusedSimpArgs false
namespace Go.Proofs.YtfbmjonhohebiaaGreatDoor
open Go.RowKit Go.Shelf Go.Lib Go.Sort Go.Proofs.YtfbmjonhohebiaaGreatDoorW.PrintWords Go.Proofs.YtfbmjonhohebiaaGreatDoorW.PrintLast Go.Proofs.YtfbmjonhohebiaaGreatDoorW.PrintMore PRecurExpands
def B59 : Type := {x : S59 // In59 x}
instance : Inhabited B59 := ⟨⟨⟨0, 0⟩, by simp [In59]⟩⟩
def encB (x : B59) : List Value := enc59 x.1
def cfB (x y : B59) : Int := if x.1.f0 = y.1.f0 then x.1.f1 - y.1.f1 else x.1.f0 - y.1.f0
theorem ltB (x y : B59) : ltOf cfB x y = lt59 x.1 y.1 := by
  unfold ltOf cfB lt59
  by_cases h : x.1.f0 = y.1.f0
  · rw [if_pos h]
    simp [h]
    omega
  · rw [if_neg h]
    simp [h]
    omega
theorem swoB : SWO (ltOf cfB) where
  irrefl x := by rw [ltB]; simp [lt59]
  trans x y z h1 h2 := by rw [ltB] at *; simp [lt59] at *; omega
  ntrans x y z h1 h2 := by rw [ltB] at *; simp [lt59] at *; omega
theorem partB (x y : B59) (h1 : (ltOf cfB) x y = false) (h2 : (ltOf cfB) y x = false) : x = y := by
  rw [ltB] at *
  simp [lt59] at *
  apply Subtype.ext
  obtain ⟨⟨a, b⟩, _⟩ := x
  obtain ⟨⟨c, d⟩, _⟩ := y
  simp at *
  omega
theorem cmpB (blk off size : Nat) (w : World) : CmpLays Tryz.prog 52 #[] encB 2 cfB blk off size w := fun m os dk _ x y => by
  have h := recur_order_c x.1 y.1 (sortWorldK encB 2 w blk off m dk os)
  obtain ⟨a1, a2, a3, a4⟩ := x.2
  obtain ⟨b1, b2, b3, b4⟩ := y.2
  have e : (if x.1.f0 = y.1.f0 then wrap64 (x.1.f1 - y.1.f1) else wrap64 (x.1.f0 - y.1.f0)) = cfB x y := by
    unfold cfB
    split
    · exact wrap64_in (by omega) (by omega)
    · exact wrap64_in (by omega) (by omega)
  rw [e] at h
  exact h
theorem flat_get {α : Type} (a b : α → Value) : ∀ (l : List α) (t : Nat), (l.flatMap fun x => [a x, b x])[t]? = (l[t / 2]?).map (fun x => if t % 2 = 0 then a x else b x) := by
  intro l
  induction l with
  | nil => intro t; simp
  | cons x l ih =>
    intro t
    match t with
    | 0 => simp
    | 1 => simp
    | t + 2 =>
      have h1 : (t + 2) / 2 = t / 2 + 1 := by omega
      have h2 : (t + 2) % 2 = t % 2 := by omega
      simp only [List.flatMap_cons, List.cons_append, List.nil_append, List.getElem?_cons_succ, h1, h2]
      exact ih t
theorem flatK_get (d : Array B59) (t : Nat) (h : t < d.size * 2) : (d.toList.flatMap encB)[t]? = some ((flatK encB 2 d)[t]!) := by
  rw [get_flatK _ _ _ _ h]
  have e : (d.toList.flatMap encB) = d.toList.flatMap fun x => [.int .i64 x.1.f0, .int .i64 x.1.f1] := rfl
  have h2 : t / 2 < d.size := by omega
  rw [e, flat_get]
  rw [List.getElem?_eq_getElem (by simpa using h2)]
  simp only [Option.map_some, Array.getElem_toList]
  rw [getElem!_pos d (t / 2) h2]
  have h3 : t % 2 = 0 ∨ t % 2 = 1 := by omega
  rcases h3 with h3 | h3
  · rw [h3]; rfl
  · rw [h3]; rfl
theorem flatK_list (d : Array B59) : (flatK encB 2 d).toList = d.toList.flatMap encB := by
  apply List.ext_getElem?
  intro t
  by_cases h : t < d.size * 2
  · rw [flatK_get d t h]
    rw [List.getElem?_eq_getElem (by simpa using h)]
    rw [getElem!_pos _ t (by simpa using h)]
    simp
  · have e : (d.toList.flatMap encB) = d.toList.flatMap fun x => [.int .i64 x.1.f0, .int .i64 x.1.f1] := rfl
    rw [List.getElem?_eq_none (by simpa using h), e, flat_get, List.getElem?_eq_none (by simp; omega)]
    rfl
def bring : (xs : List S59) → (∀ x ∈ xs, In59 x) → List B59
  | [], _ => []
  | x :: xs, h => ⟨x, h x (List.mem_cons_self ..)⟩ :: bring xs (fun y hy => h y (List.mem_cons_of_mem _ hy))
theorem bring_map : ∀ (xs : List S59) (h : ∀ x ∈ xs, In59 x), (bring xs h).map (·.1) = xs := by
  intro xs
  induction xs with
  | nil => intro h; rfl
  | cons x xs ih => intro h; show x :: (bring xs _).map (·.1) = x :: xs; rw [ih]
theorem bring_flat (xs : List S59) (h : ∀ x ∈ xs, In59 x) : (bring xs h).flatMap encB = xs.flatMap enc59 := by
  conv => rhs; rw [← bring_map xs h]
  rw [List.flatMap_map]
  rfl
theorem flat_len : ∀ (r : List B59), (r.flatMap encB).length = r.length * 2 := by
  intro r
  induction r with
  | nil => rfl
  | cons x r ih => rw [List.flatMap_cons, List.length_append, ih, List.length_cons]; simp [encB, enc59]; omega
theorem heap_sortedK {w : World} {g n : Nat} {os : Array Obj} {cur : Array Value} {e : TypeId} {fr : Nat × Nat} (d : Array B59) (hb : w.heap[g]? = some (.cells cur e fr)) :
    (sortWorldK encB 2 w g 0 n d os).heap[g]? = some (.cells (putCells id 0 (flatK encB 2 d) cur) e fr) := by
  have hg : g < w.heap.size := (Array.getElem?_eq_some_iff.1 hb).1
  unfold sortWorldK putRowK
  rw [heap_grow_old _ _ (by simpa using hg)]
  simp [putRow, mapBlock, Sort.ahead, Array.getElem?_modify, hb, onCells]
theorem below_sortedK {w : World} {g n : Nat} {os : Array Obj} (d : Array B59) {base : Nat} (hbase : base ≤ g) (hg : g < w.heap.size) : Below base w (sortWorldK encB 2 w g 0 n d os) := by
  refine ⟨rfl, rfl, rfl, by simp [sortWorldK, putRowK], fun k hk => ?_⟩
  unfold sortWorldK putRowK
  rw [heap_grow_old _ _ (by simp; omega)]
  have : g ≠ k := by omega
  simp [putRow, mapBlock, Sort.ahead, Array.getElem?_modify, this]
theorem sortC : SortC := by
  intro base v xs W hin hown hlen
  rcases hown.2 with ⟨rfl, h0⟩ | ⟨g, cap, cur, rfl, hbase, hh, hc1, hc2, hcs, htk⟩
  · have hx : xs = [] := List.eq_nil_of_length_eq_zero h0
    subst hx
    refine (AnyF.slices_SortFunc_none { Tryz.sortWd with } none 0 _ W).mono ?_
    rintro e w' ⟨rfl, rfl⟩
    exact ⟨rfl, by simpa [srt59] using hown, Below.refl _ _⟩
  · obtain ⟨l, hl⟩ : ∃ l, l = bring xs hin := ⟨_, rfl⟩
    have hm : l.map (·.1) = xs := by rw [hl]; exact bring_map xs hin
    have hf : l.flatMap encB = xs.flatMap enc59 := by rw [hl]; exact bring_flat xs hin
    have hn : l.length = xs.length := by rw [← hm]; simp
    have hcur : ∀ j, j < xs.length * 2 → cur[j]? = (xs.flatMap enc59)[j]? := by
      intro j hj
      rw [← htk, List.getElem?_take_of_lt hj]
      simp
    have hH : HoldsK encB 2 W g 0 l.toArray := by
      intro j hj
      have hj' : j < xs.length * 2 := by simpa [hn] using hj
      refine ⟨?_, blk_frozen hh _⟩
      rw [Nat.zero_add, blk_cell hh j, hcur j hj', ← hf]
      exact flatK_get l.toArray j (by simpa using hj)
    have eg : ∀ args w, (callFunc 52 args).run Tryz.prog w = .ok (.enter 52 args) w := enters_of Tryz.func52 (by kernel_rfl) rfl
    have hcon := AnyQ.slices_SortFunc_total Tryz.sortWd 2 Tryz.isAgg59 Tryz.sizeOf59 encB (fun _ => rfl) (fun x v hv => by simp [encB, enc59] at hv; rcases hv with rfl | rfl <;> rfl) cfB swoB 52 #[] g 0 cap l.toArray W eg (cmpB _ _ _ _) hH (blk_lt hh) (by simp; omega) partB
    have hsz : l.toArray.size = xs.length := by simpa using hn
    rw [hsz] at hcon
    refine Calls.mono hcon ?_
    rintro e w' ⟨rfl, n, os, rfl⟩
    have hs : (l.mergeSort fun x y => !(ltOf cfB) y x).map (·.1) = srt59 xs := by
      rw [← hm]
      unfold srt59
      rw [List.map_mergeSort]
      intro a _ b _
      rw [ltB]
    have hsl : (l.mergeSort fun x y => !(ltOf cfB) y x).length = xs.length := by rw [List.length_mergeSort]; exact hn
    obtain ⟨r, hr⟩ : ∃ r, r = l.mergeSort fun x y => !(ltOf cfB) y x := ⟨_, rfl⟩
    rw [← hr] at hs hsl ⊢
    have hsf : r.flatMap encB = (srt59 xs).flatMap enc59 := by rw [← hs, List.flatMap_map]; rfl
    refine ⟨rfl, ⟨by rw [← hsf, flat_len, hsl], .inr ⟨g, cap, _, rfl, hbase, heap_sortedK r.toArray hh, hc1, hc2, by simp [putCells, hcs], ?_⟩⟩, below_sortedK _ hbase (blk_lt hh)⟩
    rw [← hsf]
    have e := flatK_list r.toArray
    rw [show r.toArray.toList = r from rfl] at e
    rw [← e]
    have hz : (flatK encB 2 r.toArray).size = xs.length * 2 := by simp [hsl]
    have hcz : xs.length * 2 ≤ cur.size := by rw [hcs]; omega
    generalize flatK encB 2 r.toArray = F at hz
    apply List.ext_getElem?
    intro j
    by_cases hj : j < xs.length * 2
    · rw [List.getElem?_take_of_lt hj, Array.getElem?_toList]
      simp [putCells, hz, hj, show j < cur.size by omega]
    · rw [List.getElem?_take_eq_none (by omega), List.getElem?_eq_none (by simp; omega)]
end Go.Proofs.YtfbmjonhohebiaaGreatDoor
end
section
set_option linter.unusedVariables false
set_option linter.unusedSimpArgs false
namespace Go.Proofs.YtfbmjonhohebiaaGreatDoor
open Go.RowKit Go.Proofs.YtfbmjonhohebiaaGreatDoorW.PrintWords Go.Proofs.YtfbmjonhohebiaaGreatDoorW.PrintLast Go.Proofs.YtfbmjonhohebiaaGreatDoorW.PrintMore PRecurExpands
def frUp (l : List UInt8) (f : Int) : Nat → Int
  | 0 => f
  | k + 1 => if freqL ((k : Int) + 1) = l then (k : Int) + 1 else frUp l f k
def frOk (l : List UInt8) : Nat → Bool
  | 0 => false
  | k + 1 => if freqL ((k : Int) + 1) = l then true else frOk l k
theorem grown_set (W : World) (b i : Nat) (v : Value) : W.grownBy (W.setCell ⟨b, i, none⟩ v) (some b) :=
  ⟨rfl, rfl, rfl, by simp, fun k _ hk => Below.heap_setCell _ _ _ k (fun e => hk (by rw [e]))⟩
theorem fr_yes {l : List UInt8} {X : ByteArray} (h : (l == X.toList) = true) : l = X.data.toList := by rw [← Lib.toList_data]; simpa using h
theorem fr_no {l : List UInt8} {X : ByteArray} (h : (l == X.toList) = false) : ¬ l = X.data.toList := by rw [← Lib.toList_data]; simpa using h
def cells7 (a0 a1 a2 a3 : Int) (v4 v5 v6 : Value) : Array Value := #[.int .i64 a0, .int .i64 a1, .int .i64 a2, .int .i64 a3, v4, v5, v6]
def RuleAt (w : World) (p : Nat) (a0 a1 a2 a3 : Int) (v4 v5 v6 : Value) : Prop := w.heap[p]? = some (.cells (cells7 a0 a1 a2 a3 v4 v5 v6) 25 (0, 0))
theorem RuleAt.all {w : World} {p : Nat} {a0 a1 a2 a3 : Int} {v4 v5 v6 : Value} (h : RuleAt w p a0 a1 a2 a3 v4 v5 v6) :
    w.cell? ⟨p, 0, none⟩ = some (.int .i64 a0) ∧ w.cell? ⟨p, 1, none⟩ = some (.int .i64 a1) ∧ w.cell? ⟨p, 2, none⟩ = some (.int .i64 a2) ∧ w.cell? ⟨p, 3, none⟩ = some (.int .i64 a3) ∧
    w.cell? ⟨p, 4, none⟩ = some v4 ∧ w.cell? ⟨p, 5, none⟩ = some v5 ∧ w.cell? ⟨p, 6, none⟩ = some v6 ∧ (∀ i, w.frozen? ⟨p, i, none⟩ = false) ∧ p < w.heap.size :=
  ⟨blk_cell h 0, blk_cell h 1, blk_cell h 2, blk_cell h 3, blk_cell h 4, blk_cell h 5, blk_cell h 6, fun i => blk_frozen h i, blk_lt h⟩
theorem grown_trans {a b c : World} {row : Option Nat} (h : a.grownBy b row) (k : b.grownBy c row) : a.grownBy c row :=
  ⟨k.os.trans h.os, k.tape.trans h.tape, k.output.trans h.output, Nat.le_trans h.size k.size, fun i hi hne => (k.block i (Nat.lt_of_lt_of_le hi h.size) hne).trans (h.block i hi hne)⟩
set_option maxRecDepth 100000 in
set_option maxHeartbeats 2000000 in
theorem part_FREQ (X : ByteArray) (p : Nat) (a0 a1 a2 a3 : Int) (v4 v5 v6 : Value) (w : World) (hR : RuleAt w p a0 a1 a2 a3 v4 v5 v6) :
    Calls Tryz.prog 47 #[.pointer (some ⟨p, 0, none⟩), .string ⟨#[70, 82, 69, 81]⟩, .string X] w fun e w' => e = .returned (.bool (frOk X.data.toList 4)) ∧
      w.grownBy w' (some p) ∧ RuleAt w' p (frUp X.data.toList a0 4) a1 a2 a3 v4 v5 v6 := by
  have HR := Aside0.mk hR
  clear hR
  go_enter Tryz.func47, Tryz.ntmps47
  go_wp2
  go_loopw [7, 14] (fun b i wr => ∃ k : Nat, k ≤ 4 ∧ i = .int .i64 k ∧ b = .bool (frOk X.data.toList k) ∧ w.grownBy wr (some p) ∧ RuleAt wr p (frUp X.data.toList a0 k) a1 a2 a3 v4 v5 v6) (fun b i _ => 4 - (intOf i).toNat)
  case atStart => exact ⟨0, by omega, rfl, rfl, grown_of_below (Below.refl _ _) _, HR.out⟩
  case round =>
    obtain ⟨k, hk, rfl, rfl, hg, hr⟩ := hrel
    by_cases h4 : k < 4
    · have HG := Aside0.mk hg
      have HRR := Aside0.mk hr
      clear hg hr
      go_wp2_with (go_at_call 33; refine (recur_freq ((k : Int) + 1) (by omega) (by omega) _).mono ?_; rintro e w3 ⟨rfl, hb3⟩; obtain ⟨c0, c1, c2, c3, c4, c5, c6, cf, cz⟩ := (show RuleAt w3 p (frUp X.data.toList a0 k) a1 a2 a3 v4 v5 v6 from blk_below HRR.out hb3).all; have cf0 := cf 0; clear cf)
      · have l1 : (freqL ((k : Int) + 1) == X.toList) = true := by assumption
        go_roundw
        case rel => exact ⟨k + 1, by omega, by go_num, by rw [frOk, if_pos (fr_yes l1)], grown_trans (grown_trans HG.out (grown_of_below hb3 _)) (grown_set _ _ _ _), by rw [frUp, if_pos (fr_yes l1)]; exact blk_set (blk_below HRR.out hb3) 0 _⟩
        case measure => simp [intOf]; omega
      · have l1 : (freqL ((k : Int) + 1) == X.toList) = false := by assumption
        go_roundw
        case rel => exact ⟨k + 1, by omega, by go_num, by rw [frOk, if_neg (fr_no l1)], grown_trans HG.out (grown_of_below hb3 _), by rw [frUp, if_neg (fr_no l1)]; exact blk_below HRR.out hb3⟩
        case measure => simp [intOf]; omega
    · obtain rfl : k = 4 := by omega
      go_wp2
      go_ret
      exact ⟨rfl, hg, hr⟩
set_option maxRecDepth 100000 in
set_option maxHeartbeats 2000000 in
theorem part_INTERVAL (X : ByteArray) (hX : X.size ≤ 140737488351232) (p : Nat) (a0 a1 a2 a3 : Int) (v4 v5 v6 : Value) (w : World) (hG : Globs w) (hR : RuleAt w p a0 a1 a2 a3 v4 v5 v6) :
    Calls Tryz.prog 47 #[.pointer (some ⟨p, 0, none⟩), .string ⟨#[73, 78, 84, 69, 82, 86, 65, 76]⟩, .string X] w fun e w' => e = .returned (.bool (numB X.data.toList)) ∧
      w.grownBy w' (some p) ∧ RuleAt w' p a0 (numV X.data.toList) a2 a3 v4 v5 v6 := by
  have HR := Aside0.mk hR
  clear hR
  go_enter Tryz.func47, Tryz.ntmps47
  go_wp2_with (go_at_call 74; refine (recur_number X hX _ hG).mono ?_; rintro e w3 ⟨rfl, hb3⟩; obtain ⟨c0, c1, c2, c3, c4, c5, c6, cf, cz⟩ := (show RuleAt w3 p a0 a1 a2 a3 v4 v5 v6 from blk_below HR.out hb3).all; have cf0 := cf 1; clear cf)
  go_ret
  exact ⟨rfl, grown_trans (grown_of_below hb3 _) (grown_set _ _ _ _), blk_set (blk_below HR.out hb3) 1 _⟩
set_option maxRecDepth 100000 in
set_option maxHeartbeats 2000000 in
theorem part_COUNT (X : ByteArray) (hX : X.size ≤ 140737488351232) (p : Nat) (a0 a1 a2 a3 : Int) (v4 v5 v6 : Value) (w : World) (hG : Globs w) (hR : RuleAt w p a0 a1 a2 a3 v4 v5 v6) :
    Calls Tryz.prog 47 #[.pointer (some ⟨p, 0, none⟩), .string ⟨#[67, 79, 85, 78, 84]⟩, .string X] w fun e w' => e = .returned (.bool (numB X.data.toList && decide (0 < numV X.data.toList))) ∧
      w.grownBy w' (some p) ∧ RuleAt w' p a0 a1 (numV X.data.toList) a3 v4 v5 v6 := by
  have HR := Aside0.mk hR
  clear hR
  have hnum := recur_number X hX w hG
  obtain ⟨v, hv⟩ : ∃ v, v = numV X.data.toList := ⟨_, rfl⟩
  obtain ⟨b, hb⟩ : ∃ b, b = numB X.data.toList := ⟨_, rfl⟩
  rw [← hv, ← hb] at hnum ⊢
  clear hv hb
  cases b <;>
  ( go_enter Tryz.func47, Tryz.ntmps47
    go_wp2_with (go_at_call 74; refine hnum.mono ?_; rintro e w3 ⟨rfl, hb3⟩; obtain ⟨c0, c1, c2, c3, c4, c5, c6, cf, cz⟩ := (show RuleAt w3 p a0 a1 a2 a3 v4 v5 v6 from blk_below HR.out hb3).all; have cf0 := cf 2; clear cf)
    go_ret
    exact ⟨rfl, grown_trans (grown_of_below hb3 _) (grown_set _ _ _ _), blk_set (blk_below HR.out hb3) 2 _⟩)
set_option maxRecDepth 100000 in
set_option maxHeartbeats 2000000 in
theorem part_BYDAY (hsort : SortC) (X : ByteArray) (hX : X.size < 4294967000) (p : Nat) (a0 a1 a2 a3 : Int) (v4 v5 v6 : Value) (w : World) (hG : Globs w) (hR : RuleAt w p a0 a1 a2 a3 v4 v5 v6) :
    Calls Tryz.prog 47 #[.pointer (some ⟨p, 0, none⟩), .string ⟨#[66, 89, 68, 65, 89]⟩, .string X] w fun e w' => e = .returned (.bool (wkAll ((spl X 44).map (·.data.toList))).isSome) ∧
      w.grownBy w' (some p) ∧ ∃ v, RuleAt w' p a0 a1 a2 a3 v4 v5 v ∧ ∀ xs, wkAll ((spl X 44).map (·.data.toList)) = some xs → w'.ownsRow w.heap.size 59 2 v xs.length ((srt59 xs).flatMap enc59) := by
  have HR := Aside0.mk hR
  clear hR
  have hwk := recur_week hsort X hX w hG
  obtain ⟨o, ho⟩ : ∃ o, o = wkAll ((spl X 44).map (·.data.toList)) := ⟨_, rfl⟩
  rw [← ho] at hwk ⊢
  clear ho
  cases o with
  | none =>
    go_enter Tryz.func47, Tryz.ntmps47
    go_wp2_with (go_at_call 77; refine hwk.mono ?_; rintro e w3 ⟨rfl, hb3⟩; obtain ⟨c0, c1, c2, c3, c4, c5, c6, cf, cz⟩ := (show RuleAt w3 p a0 a1 a2 a3 v4 v5 v6 from blk_below HR.out hb3).all; have cf0 := cf 6; clear cf)
    go_ret
    exact ⟨rfl, grown_trans (grown_of_below hb3 _) (grown_set _ _ _ _), _, blk_set (blk_below HR.out hb3) 6 _, fun xs h => by cases h⟩
  | some xs =>
    go_enter Tryz.func47, Tryz.ntmps47
    go_wp2_with (go_at_call 77; refine hwk.mono ?_; rintro e w3 ⟨⟨v, rfl, hrow⟩, hb3⟩; obtain ⟨A, cv, rfl⟩ := own_slice hrow; have HROW := Aside0.mk hrow; clear hrow; obtain ⟨c0, c1, c2, c3, c4, c5, c6, cf, cz⟩ := (show RuleAt w3 p a0 a1 a2 a3 v4 v5 v6 from blk_below HR.out hb3).all; have cf0 := cf 6; clear cf)
    go_ret
    refine ⟨rfl, grown_trans (grown_of_below hb3 _) (grown_set _ _ _ _), _, blk_set (blk_below HR.out hb3) 6 _, fun ys h => ?_⟩
    injection h with h
    subst h
    refine own_move HROW.out (fun k hk => Below.heap_setCell _ _ _ k (fun e => ?_))
    have h1 := own_base HROW.out k hk
    have h2 := blk_lt HR.out
    simp at e
    omega
end Go.Proofs.YtfbmjonhohebiaaGreatDoor
end
section
set_option linter.unusedVariables false
set_option linter.unusedSimpArgs false
namespace Go.Proofs.YtfbmjonhohebiaaGreatDoor
open Go.RowKit Go.Proofs.YtfbmjonhohebiaaGreatDoorW.PrintWords Go.Proofs.YtfbmjonhohebiaaGreatDoorW.PrintLast Go.Proofs.YtfbmjonhohebiaaGreatDoorW.PrintMore PRecurExpands
def nlOne (l : List UInt8) : Option Int := if numB l = true then some (numV l) else none
def nlAll : List (List UInt8) → Option (List Int)
  | [] => some []
  | l :: ls => match nlOne l with | none => none | some x => (nlAll ls).map (x :: ·)
theorem nlAll_none {l : List UInt8} (hl : nlOne l = none) (b : List (List UInt8)) : ∀ {a : List (List UInt8)} {xs : List Int}, nlAll a = some xs → nlAll (a ++ l :: b) = none := by
  intro a
  induction a with
  | nil => intro xs _; simp [nlAll, hl]
  | cons x a ih =>
    intro xs h
    simp only [nlAll] at h
    cases hx : nlOne x with
    | none => rw [hx] at h; cases h
    | some y =>
      rw [hx] at h
      simp only [Option.map_eq_some_iff] at h
      obtain ⟨ys, h1, _⟩ := h
      simp only [List.cons_append, nlAll, hx, ih h1, Option.map_none]
theorem nlAll_some {l : List UInt8} {y : Int} (hl : nlOne l = some y) : ∀ {a : List (List UInt8)} {xs : List Int}, nlAll a = some xs → nlAll (a ++ [l]) = some (xs ++ [y]) := by
  intro a
  induction a with
  | nil => intro xs h; injection h with h; subst h; simp [nlAll, hl]
  | cons x a ih =>
    intro xs h
    simp only [nlAll] at h
    cases hx : nlOne x with
    | none => rw [hx] at h; cases h
    | some z =>
      rw [hx] at h
      simp only [Option.map_eq_some_iff] at h
      obtain ⟨ys, h1, rfl⟩ := h
      simp only [List.cons_append, nlAll, hx, ih h1, Option.map_some]
def srtI (l : List Int) : List Int := l.mergeSort fun x y => decide (x ≤ y)
theorem heap_sortedZ {w : World} {g n : Nat} {os : Array Obj} {cur : Array Value} {e : TypeId} {fr : Nat × Nat} (d : Array Int) (hb : w.heap[g]? = some (.cells cur e fr)) :
    (Go.Sort.grow (Go.Sort.putRow (Value.int .i64) (Go.Sort.ahead w n) g 0 d) os).heap[g]? = some (.cells (Go.Sort.putCells (Value.int .i64) 0 d cur) e fr) := by
  have hg : g < w.heap.size := (Array.getElem?_eq_some_iff.1 hb).1
  rw [Go.Sort.heap_grow_old _ _ (by simpa using hg)]
  simp [Go.Sort.putRow, Go.Sort.mapBlock, Go.Sort.ahead, Array.getElem?_modify, hb, Go.Sort.onCells]
theorem below_sortedZ {w : World} {g n : Nat} {os : Array Obj} (d : Array Int) {base : Nat} (hbase : base ≤ g) (hg : g < w.heap.size) : Below base w (Go.Sort.grow (Go.Sort.putRow (Value.int .i64) (Go.Sort.ahead w n) g 0 d) os) := by
  refine ⟨rfl, rfl, rfl, by simp, fun k hk => ?_⟩
  rw [Go.Sort.heap_grow_old _ _ (by simp; omega)]
  have : g ≠ k := by omega
  simp [Go.Sort.putRow, Go.Sort.mapBlock, Go.Sort.ahead, Array.getElem?_modify, this]
theorem sortI (base : Nat) (v : Value) (xs : List Int) (W : World) (hown : W.ownsRow base 3 1 v xs.length (xs.map (.int .i64))) (hlen : xs.length ≤ 4294967296) :
    Calls Tryz.prog 103 #[v] W fun e w' => e = .returned (.tuple #[]) ∧ w'.ownsRow base 3 1 v xs.length ((srtI xs).map (.int .i64)) ∧ Below base W w' := by
  rcases hown.2 with ⟨rfl, h0⟩ | ⟨g, cap, cur, rfl, hbase, hh, hc1, hc2, hcs, htk⟩
  · have hx : xs = [] := List.eq_nil_of_length_eq_zero h0
    subst hx
    refine (Tryz.slices_Sort_int_none none 0 W).mono ?_
    rintro e w' ⟨rfl, rfl⟩
    exact ⟨rfl, by simpa [srtI] using hown, Below.refl _ _⟩
  · have hcur : ∀ j, j < xs.length → cur[j]? = some (.int .i64 (xs.toArray[j]!)) := by
      intro j hj
      have : (xs.map (Value.int .i64))[j]? = some (.int .i64 (xs.toArray[j]!)) := by simp [hj]
      rw [← this, ← htk, List.getElem?_take_of_lt (by omega)]
      simp
    have hH : Go.Sort.Holds (Value.int .i64) W g 0 xs.toArray := by
      intro j hj
      refine ⟨?_, blk_frozen hh _⟩
      rw [Nat.zero_add, blk_cell hh j, hcur j (by simpa using hj)]
    refine (Tryz.slices_Sort_int g 0 cap xs W hH (blk_lt hh) (by omega)).mono ?_
    rintro e w' ⟨rfl, n, os, rfl⟩
    have hl : (srtI xs).length = xs.length := by unfold srtI; rw [List.length_mergeSort]
    refine ⟨rfl, ⟨by simp [hl], .inr ⟨g, cap, _, rfl, hbase, heap_sortedZ _ hh, hc1, hc2, by simp [Go.Sort.putCells, hcs], ?_⟩⟩, below_sortedZ _ hbase (blk_lt hh)⟩
    show ((Go.Sort.putCells (Value.int .i64) 0 (srtI xs).toArray cur).toList.take (xs.length * 1)) = _
    generalize srtI xs = ts at hl
    rw [Nat.mul_one, ← hl]
    apply List.ext_getElem?
    intro j
    by_cases hj : j < ts.length
    · rw [List.getElem?_take_of_lt hj, Array.getElem?_toList]
      simp [Go.Sort.putCells, hj, show j < cur.size by omega]
    · rw [List.getElem?_take_eq_none (by omega), List.getElem?_eq_none (by simp; omega)]
theorem info_int : (Tryz.prog.info? 3).map (fun i => (i.zero, i.size, i.bytes)) = some (some (.int .i64 0), 1, 8) := by kernel_rfl
def nlPost (o : Option (List Int)) (n₀ : Nat) (e : Ending) (w' : World) : Prop := match o with
  | none => e = .returned (.tuple #[.slice none 0 0, .bool false])
  | some xs => ∃ v, e = .returned (.tuple #[v, .bool true]) ∧ w'.ownsRow n₀ 3 1 v xs.length ((srtI xs).map (.int .i64))
theorem list_app {w W1 wr w1 : World} {n m : Nat} {v : Value} {xs : List Value} {o tmp : Obj} (hb : Below n w W1) (hbk : W1.heap[n]? = some o) (hrow : W1.ownsRow (n + 1) 3 1 v m xs) (hbq : Below W1.heap.size W1 wr) (hg : (wr.alloc tmp).grownBy w1 v.ownBlock) :
    Below n w w1 ∧ w1.heap[n]? = some o := by
  have hz := blk_lt hbk
  have h2 := hbq.size
  have key : ∀ k, v.ownBlock = some k → n + 1 ≤ k := fun k hk => own_base hrow k hk
  refine ⟨((hb.trans (hbq.mono (by omega))).alloc (by omega) _).grown hg (by simp; omega) (fun k hk => by have := key k hk; omega), blk_grown (blk_alloc (blk_below hbk hbq) _) hg (fun e => by have := key n e.symm; omega)⟩
theorem cell_one_at2 (w : World) (x : Value) (t : TypeId) {b : Nat} (h : b = w.heap.size) : ∀ j u, [x][j]? = some u → (w.alloc (.cells #[x] t)).cell? ((⟨b, 0, none⟩ : Addr).add j) = some u := by
  subst h; exact cell_one_new w x t
set_option maxRecDepth 100000 in
set_option maxHeartbeats 2000000 in
theorem recur_list (s : ByteArray) (hs : s.size < 4294967000) (w : World) (hG : Globs w) :
    Calls Tryz.prog 76 #[.string s] w fun e w' => nlPost (nlAll ((spl s 44).map (·.data.toList))) w.heap.size e w' ∧ Below w.heap.size w w' := by
  obtain ⟨m, hm⟩ := hG.maxlen
  obtain ⟨L, hL⟩ : ∃ L, L = spl s 44 := ⟨_, rfl⟩
  have hlen : Lib.countB s ⟨#[44]⟩ + 1 = L.length := by rw [hL]; exact (spl_len s 44).symm
  rw [← hL]
  have hLs : ∀ x ∈ L, x.size ≤ s.size := by rw [hL]; exact spl_mem s 44
  have hLl : L.length ≤ s.size + 1 := by rw [hL, spl_len]; have := Lib.countB_le ⟨#[44]⟩ (by decide) s.size s (Nat.le_refl _); omega
  have hcut := Tryz.strings_Split s ⟨#[44]⟩ m w (by omega) hm (by decide)
  rw [show Lib.splitB ⟨#[44]⟩ 0 (Lib.countB s ⟨#[44]⟩) s = L from hL.symm, hlen] at hcut
  have hG1 := Aside0.mk hG
  clear hG hL hlen
  go_enter Tryz.func76, Tryz.ntmps76
  go_wp2_with (go_at_call 44; refine hcut.mono ?_; rintro e w2 ⟨rfl, rfl⟩)
  have hb0 : Below w.heap.size w (w.alloc (.cells (L.map Value.string).toArray 9)) := (Below.refl _ _).alloc (Nat.le_refl _) _
  have hk0 : (w.alloc (.cells (L.map Value.string).toArray 9)).heap[w.heap.size]? = some (.cells (L.map Value.string).toArray 9) := blk_new w _
  obtain ⟨i0, hi, hz0, hz1, hz2⟩ := info_parts info_int
  go_loopw [4, 12] (fun v i wr => ∃ (k : Nat) (xs : List Int), k ≤ L.length ∧ i = .int .i64 k ∧ Below w.heap.size w wr ∧ wr.heap[w.heap.size]? = some (.cells (L.map Value.string).toArray 9) ∧ nlAll ((L.take k).map (·.data.toList)) = some xs ∧ xs.length = k ∧ wr.ownsRow (w.heap.size + 1) 3 1 v xs.length (xs.map (.int .i64))) (fun v i _ => L.length - (intOf i).toNat)
  case atStart => exact ⟨0, [], by omega, rfl, hb0, hk0, rfl, rfl, World.ownsRow_nil _ _ _ _⟩
  case round =>
    obtain ⟨k, xs, hk, rfl, hb, hbk, hall, rfl, hrow⟩ := hrel
    obtain ⟨W1, hW1⟩ : ∃ W1, W1 = wr := ⟨_, rfl⟩
    subst hW1
    have hzz1 := blk_lt hbk
    by_cases hlt : xs.length < L.length
    · obtain ⟨X, hX⟩ : ∃ X, L[xs.length]? = some X := ⟨L[xs.length], List.getElem?_eq_getElem hlt⟩
      have hXs := hLs X (List.mem_of_getElem? hX)
      have hcell : W1.cell? ⟨w.heap.size, xs.length, none⟩ = some (.string X) := by rw [blk_cell hbk]; simp [hX]
      obtain ⟨A, cv, rfl⟩ := own_slice hrow
      have HROW := Aside0.mk hrow
      have HALL := Aside0.mk hall
      have HB := Aside0.mk hb
      have HBK := Aside0.mk hbk
      have hnum := recur_number X (by omega) W1 (hG1.out.below hb)
      obtain ⟨v, hv⟩ : ∃ v, v = numV X.data.toList := ⟨_, rfl⟩
      obtain ⟨b, hbb⟩ : ∃ b, b = numB X.data.toList := ⟨_, rfl⟩
      rw [← hv, ← hbb] at hnum
      have HV := Aside0.mk hv
      have HBB := Aside0.mk hbb
      clear hrow hall hb hbk hv hbb
      cases b with
      | false =>
        go_wp2_with (go_at_call 74; refine hnum.mono ?_; rintro e w3 ⟨rfl, hb3⟩; have hz3 := hb3.size)
        go_ret2
        refine ⟨?_, HB.out.trans (hb3.mono (Nat.le_of_lt hzz1))⟩
        rw [map_split _ L _ X hX, nlAll_none (by unfold nlOne; rw [if_neg (by rw [← HBB.out]; decide)]) _ HALL.out]
        rfl
      | true =>
        go_wp2_with (first
          | (go_at_call 74; refine hnum.mono ?_; rintro e w3 ⟨rfl, hb3⟩; have hz3 := hb3.size)
          | (at_builtin; refine wpList_append_own _ rfl _ _ 22 rfl (w.heap.size + 1) 3 i0 (.int .i64 0) 1 8 Tryz.underlying22 hi hz0 hz1 hz2 rfl (by decide) _ _ _ rfl ((pw_own_below HROW.out hb3).alloc _) ⟨w3.heap.size, 0, none⟩ 1 1 [.int .i64 v] rfl rfl (cell_one_at2 _ _ _ (by simp)) (fun x hx => by simp at hx; rcases hx with rfl; rfl) (by unfold maxLen; omega) (by omega) (by simp; omega) ?_; intro v' w1 hown' hgrow _))
        have T := Aside0.mk (list_app HB.out HBK.out HROW.out hb3 hgrow)
        go_roundw
        case rel => exact ⟨xs.length + 1, xs ++ [v], by omega, by go_num, T.out.1, T.out.2, by rw [map_take _ L _ X hX]; exact nlAll_some (by unfold nlOne; rw [if_pos HBB.out.symm, HV.out]) HALL.out, by simp, by simpa using hown'⟩
        case measure => simp [intOf]; omega
    · have hkL : xs.length = L.length := by omega
      rw [hkL, List.take_length] at hall
      go_wp2_with (go_at_call 103; refine (sortI (w.heap.size + 1) _ xs _ hrow (by omega)).mono ?_; rintro e w2 ⟨rfl, hrow2, hb2⟩)
      go_ret2
      refine ⟨?_, hb.trans (hb2.mono (by omega))⟩
      rw [hall]
      exact ⟨_, rfl, own_weaken hrow2 (by omega)⟩
end Go.Proofs.YtfbmjonhohebiaaGreatDoor
end
section
set_option linter.unusedVariables false
set_option linter.unusedSimpArgs false
namespace Go.Proofs.YtfbmjonhohebiaaGreatDoor
open Go.RowKit Go.Proofs.YtfbmjonhohebiaaGreatDoorW.PrintWords Go.Proofs.YtfbmjonhohebiaaGreatDoorW.PrintLast Go.Proofs.YtfbmjonhohebiaaGreatDoorW.PrintMore PRecurExpands
def wdig (c : UInt8) : Bool := decide (48 ≤ c.toNat) && decide (c.toNat ≤ 57)
def wval (l : List UInt8) : Int := l.foldl (fun n c => 10 * n + ((c.toNat : Int) - 48)) 0
def wnum (l : List UInt8) : Int := if l.isEmpty || !l.all wdig then -1 else wval l
theorem wval_snoc (l : List UInt8) (c : UInt8) : wval (l ++ [c]) = 10 * wval l + ((c.toNat : Int) - 48) := by simp [wval, List.foldl_append]
theorem wval_rng : ∀ (l : List UInt8), l.all wdig = true → 0 ≤ wval l ∧ wval l < 10 ^ l.length := by
  intro l
  generalize hn : l.length = n
  induction n generalizing l with
  | zero => intro h; rw [List.eq_nil_of_length_eq_zero hn]; simp [wval]
  | succ n ih =>
    intro h
    obtain ⟨a, c, rfl⟩ : ∃ a c, l = a ++ [c] := by
      cases h1 : l.reverse with
      | nil => simp at h1; subst h1; simp at hn
      | cons c r => exact ⟨r.reverse, c, by rw [← List.reverse_reverse l, h1]; simp⟩
    simp only [List.all_append, Bool.and_eq_true] at h
    have h1 := ih a (by simpa using hn) h.1
    have h2 : 48 ≤ c.toNat ∧ c.toNat ≤ 57 := by simpa [wdig] using h.2
    rw [wval_snoc, Int.pow_succ]
    omega
theorem wnum_bad {l : List UInt8} {k : Nat} {c : UInt8} (h : l[k]? = some c) (hc : wdig c = false) : wnum l = -1 := by
  unfold wnum
  have : l.all wdig = false := by
    rw [List.all_eq_false]
    exact ⟨c, List.mem_of_getElem? h, by rw [hc]; decide⟩
  rw [this]
  simp
set_option maxRecDepth 100000 in
set_option maxHeartbeats 2000000 in
theorem when_number (s : ByteArray) (hs : s.size ≤ 4) (w : World) :
    Calls Tryz.prog 101 #[.string s] w fun e w' => e = .returned (.int .i64 (wnum s.data.toList)) ∧ w' = w := by
  go_enter Tryz.func101, Tryz.ntmps101
  go_wp2
  go_loopw [3, 7] (fun n i wr => ∃ k : Nat, k ≤ s.size ∧ i = .int .i64 k ∧ n = .int .i64 (wval (s.data.toList.take k)) ∧ (s.data.toList.take k).all wdig = true ∧ wr = w) (fun n i _ => s.size - (intOf i).toNat)
  case atStart => exact ⟨0, by omega, rfl, rfl, rfl, rfl⟩
  case round =>
    obtain ⟨k, hk, rfl, rfl, hall, rfl⟩ := hrel
    have hl : s.data.toList.length = s.size := data_length s
    obtain ⟨q1, q2⟩ := wval_rng _ hall
    have q3 : wval (s.data.toList.take k) ≤ 9999 := by
      have : (10 : Int) ^ (s.data.toList.take k).length ≤ 10 ^ 4 := by
        have h4 : (s.data.toList.take k).length ≤ 4 := by simp [List.length_take]; omega
        exact_mod_cast Nat.pow_le_pow_right (n := 10) (by omega) h4
      omega
    clear q2
    have HALL := Aside0.mk hall
    clear hall
    by_cases hlt : k < s.size
    · have hg : s.data.toList[k]? = some s[k] := by rw [Array.getElem?_toList, Array.getElem?_eq_getElem (show k < s.data.size from hlt)]; rfl
      have hc := (s[k]).toNat_lt
      have HG := Aside0.mk hg
      clear hg
      go_wp2
      · have l1 : (s[k].toNat : Int) < 48 ∨ 57 < (s[k].toNat : Int) := by assumption
        go_ret
        exact ⟨ret_int (wnum_bad HG.out (by simp [wdig]; omega)).symm, rfl⟩
      · have l1 : 48 ≤ (s[k].toNat : Int) ∧ (s[k].toNat : Int) ≤ 57 := by assumption
        go_roundw
        case rel => exact ⟨k + 1, by omega, by go_num, by rw [List.take_add_one, HG.out]; simp only [Option.toList_some]; rw [wval_snoc], by rw [List.take_add_one, HG.out]; simp [HALL.out, wdig]; omega, trivial⟩
        case measure => simp [intOf]; omega
      · have l1 : (s[k].toNat : Int) < 48 := by assumption
        go_ret
        exact ⟨ret_int (wnum_bad HG.out (by simp [wdig]; omega)).symm, rfl⟩
    · obtain rfl : k = s.size := by omega
      rw [← hl, List.take_length] at HALL q1 q3
      have hE : s.toList.isEmpty = true ∨ s.toList.isEmpty = false := by cases s.toList.isEmpty <;> simp
      rcases hE with hE | hE
      · go_wp2
        go_ret
        exact ⟨ret_int (by unfold wnum; rw [Lib.toList_data] at hE; rw [hE]; rfl), rfl⟩
      · go_wp2
        go_ret
        exact ⟨ret_int (by unfold wnum; rw [Lib.toList_data] at hE; rw [hE, HALL.out, ← hl, List.take_length]; rfl), rfl⟩
set_option maxRecDepth 100000 in
set_option maxHeartbeats 4000000 in
theorem when_Days_low (y m d : Int) (h : y < 1970 ∨ 9999 < y ∨ m < 1 ∨ 12 < m ∨ d < 1) (w : World) :
    Calls Tryz.prog 102 #[.int .i64 y, .int .i64 m, .int .i64 d] w fun e w' => e = .returned (.tuple #[.int .i64 0, .int .i64 110]) ∧ Below w.heap.size w w' := by
  by_cases h1 : y < 1970
  · go_enter Tryz.func102, Tryz.ntmps102
    go_wp2
    go_ret2
    exact ⟨rfl, Below.refl _ _⟩
  by_cases h2 : 9999 < y
  · go_enter Tryz.func102, Tryz.ntmps102
    go_wp2
    go_ret2
    exact ⟨rfl, Below.refl _ _⟩
  by_cases h3 : m < 1
  · go_enter Tryz.func102, Tryz.ntmps102
    go_wp2
    go_ret2
    exact ⟨rfl, Below.refl _ _⟩
  by_cases h4 : 12 < m
  · go_enter Tryz.func102, Tryz.ntmps102
    go_wp2
    go_ret2
    exact ⟨rfl, Below.refl _ _⟩
  have h5 : d < 1 := by omega
  clear h
  go_enter Tryz.func102, Tryz.ntmps102
  go_wp2
  go_ret2
  exact ⟨rfl, Below.refl _ _⟩
def dayOk (y m d : Int) : Bool := decide (1970 ≤ y) && decide (y ≤ 9999) && decide (1 ≤ m) && decide (m ≤ 12) && decide (1 ≤ d) && decide (d ≤ Cal.mlen y m)
theorem when_Days_all (y m d : Int) (hd2 : d ≤ 2000000) (w : World) :
    Calls Tryz.prog 102 #[.int .i64 y, .int .i64 m, .int .i64 d] w fun e w' => e = .returned (.tuple #[.int .i64 (if dayOk y m d = true then Cal.bef y + Cal.cum y m.toNat + d - 1 else 0), .int .i64 (if dayOk y m d = true then 0 else 110)]) ∧ Below w.heap.size w w' := by
  by_cases h : y < 1970 ∨ 9999 < y ∨ m < 1 ∨ 12 < m ∨ d < 1
  · have e : dayOk y m d = false := by
      unfold dayOk
      rcases h with h | h | h | h | h
      · simp [show ¬ 1970 ≤ y by omega]
      · simp [show ¬ y ≤ 9999 by omega]
      · simp [show ¬ 1 ≤ m by omega]
      · simp [show ¬ m ≤ 12 by omega]
      · simp [show ¬ 1 ≤ d by omega]
    rw [e]
    exact when_Days_low y m d h w
  · obtain ⟨k, rfl⟩ : ∃ k : Nat, m = k := ⟨m.toNat, by omega⟩
    by_cases h6 : Cal.mlen y k < d
    · have e : dayOk y k d = false := by unfold dayOk; simp [show ¬ d ≤ Cal.mlen y k by omega]
      rw [e]
      exact when_Days_over y d k (by omega) (by omega) (by omega) (by omega) (by omega) hd2 h6 w
    · have e : dayOk y k d = true := by unfold dayOk; simp; omega
      rw [e]
      exact when_Days_ok y d k (by omega) (by omega) (by omega) (by omega) (by omega) (by omega) w
end Go.Proofs.YtfbmjonhohebiaaGreatDoor
end
section
set_option linter.unusedVariables false
set_option linter.unusedSimpArgs false
namespace Go.Proofs.YtfbmjonhohebiaaGreatDoor
open Go.RowKit Go.Proofs.YtfbmjonhohebiaaGreatDoorW.PrintWords Go.Proofs.YtfbmjonhohebiaaGreatDoorW.PrintLast Go.Proofs.YtfbmjonhohebiaaGreatDoorW.PrintMore PRecurExpands
def cutL (l : List UInt8) (a b : Nat) : List UInt8 := (l.drop a).take (b - a)
def pY (l : List UInt8) : Int := wnum (cutL l 0 4)
def pM (l : List UInt8) : Int := wnum (cutL l 4 6)
def pD (l : List UInt8) : Int := wnum (cutL l 6 8)
def ph (l : List UInt8) : Int := wnum (cutL l 9 11)
def pm (l : List UInt8) : Int := wnum (cutL l 11 13)
def ps (l : List UInt8) : Int := wnum (cutL l 13 15)
def pOk (l : List UInt8) : Bool := l.length == 16 && l[8]? == some 84 && l[15]? == some 90 && dayOk (pY l) (pM l) (pD l) && decide (0 ≤ ph l) && decide (ph l ≤ 23) && decide (0 ≤ pm l) && decide (pm l ≤ 59) && decide (0 ≤ ps l) && decide (ps l ≤ 59)
def pT (l : List UInt8) : Int := (Cal.bef (pY l) + Cal.cum (pY l) (pM l).toNat + pD l - 1) * 86400 + ph l * 3600 + pm l * 60 + ps l
theorem num_at (s : ByteArray) (a b : Nat) (hab : b - a ≤ 4) (hb : b ≤ s.size) (w : World) : Calls Tryz.prog 101 #[.string (s.extract a b)] w fun e w' => e = .returned (.int .i64 (wnum (cutL s.data.toList a b))) ∧ w' = w := by
  have h := when_number (s.extract a b) (by simp [ByteArray.size_extract]; omega) w
  have e : (s.extract a b).data.toList = cutL s.data.toList a b := by
    rw [ByteArray.data_extract, Array.toList_extract]
    simp [cutL, List.extract]
  rw [e] at h
  exact h
theorem wnum_rng (l : List UInt8) (h : l.length ≤ 4) : -1 ≤ wnum l ∧ wnum l ≤ 9999 := by
  unfold wnum
  by_cases ha : l.all wdig = true
  · rw [ha]
    obtain ⟨q1, q2⟩ := wval_rng _ ha
    have : (10 : Int) ^ l.length ≤ 10 ^ 4 := by exact_mod_cast Nat.pow_le_pow_right (n := 10) (by omega) h
    split <;> omega
  · have : l.all wdig = false := by simpa using ha
    rw [this]; simp
theorem u8_of {c : UInt8} {n : Nat} [h0 : OfNat UInt8 n] (h : (c.toNat : Int) = n) (hn : (OfNat.ofNat n : UInt8).toNat = n := by decide) : c = OfNat.ofNat n := by
  apply UInt8.toNat_inj.mp
  rw [hn]
  omega
theorem day_rng {y m d : Int} (h : dayOk y m d = true) : 0 ≤ Cal.bef y + Cal.cum y m.toNat + d - 1 ∧ Cal.bef y + Cal.cum y m.toNat + d - 1 ≤ 2932896 := by
  unfold dayOk at h
  simp at h
  obtain ⟨⟨⟨⟨⟨h1, h2⟩, h3⟩, h4⟩, h5⟩, h6⟩ := h
  obtain ⟨k, rfl⟩ : ∃ k : Nat, m = k := ⟨m.toNat, by omega⟩
  have b1 := Cal.bef_mono h1
  rw [Cal.bef_1970] at b1
  have b2 := Cal.cum_bd y k h3 (by omega)
  have b3 := Cal.cum_succ y k h3 h4
  have b4 := Cal.cum_bd y (k + 1) (by omega) (by omega)
  have b5 := Cal.bef_succ y
  have b6 := Cal.bef_mono (show y + 1 ≤ 10000 by omega)
  rw [Cal.bef_10000] at b6
  simp only [Int.toNat_natCast]
  omega
theorem cutL_len (l : List UInt8) (a b : Nat) : (cutL l a b).length ≤ b - a := by simp [cutL, List.length_take]; omega
set_option maxRecDepth 100000 in
set_option maxHeartbeats 8000000 in
theorem when_Parse (s : ByteArray) (w : World) :
    Calls Tryz.prog 75 #[.string s] w fun e w' => e = .returned (.tuple #[.int .i64 (if pOk s.data.toList = true then pT s.data.toList else 0), .int .i64 (if pOk s.data.toList = true then 0 else 110)]) ∧ Below w.heap.size w w' := by
  obtain ⟨ok, hok⟩ : ∃ ok, ok = pOk s.data.toList := ⟨_, rfl⟩
  obtain ⟨T, hT⟩ : ∃ T, T = pT s.data.toList := ⟨_, rfl⟩
  rw [← hok, ← hT]
  obtain ⟨r1, hr1⟩ : ∃ r1 : Int, r1 = if ok = true then T else 0 := ⟨_, rfl⟩
  obtain ⟨r2, hr2⟩ : ∃ r2 : Int, r2 = if ok = true then 0 else 110 := ⟨_, rfl⟩
  rw [← hr1, ← hr2]
  have HO := Aside0.mk hok
  have HT := Aside0.mk hT
  have H1 := Aside0.mk hr1
  have H2 := Aside0.mk hr2
  clear hok hT hr1 hr2
  by_cases h16 : s.size = 16
  · have g8 : s.data.toList[8]? = some (s[8]'(by omega)) := by rw [Array.getElem?_toList, Array.getElem?_eq_getElem (show 8 < s.data.size from by rw [show s.data.size = s.size from rfl]; omega)]; rfl
    have g15 : s.data.toList[15]? = some (s[15]'(by omega)) := by rw [Array.getElem?_toList, Array.getElem?_eq_getElem (show 15 < s.data.size from by rw [show s.data.size = s.size from rfl]; omega)]; rfl
    have hz8 : 8 < s.size := by omega
    have hz15 : 15 < s.size := by omega
    have G := Aside0.mk (And.intro g8 g15)
    clear g8 g15
    have hz : (s.size : Int) = 16 := by omega
    by_cases h8 : (s[8].toNat : Int) = 84
    · by_cases h15 : (s[15].toNat : Int) = 90
      · go_enter Tryz.func75, Tryz.ntmps75
        go_wp2
        go_quiet ((go_at_call 101; exact Calls.quiet_of_same (num_at s _ _ (by omega) (by omega) _)))
        go_wp2
        generalize hw1 : w.drewN _ = w1
        have hb1 : Below w.heap.size w w1 := by rw [← hw1]; exact ⟨rfl, rfl, rfl, Nat.le_refl _, fun _ _ => rfl⟩
        clear hw1
        have dl := cutL_len s.data.toList 6 8
        obtain ⟨d1, d2⟩ := wnum_rng (cutL s.data.toList 6 8) (by omega)
        have hdays := when_Days_all (wnum (cutL s.data.toList 0 4)) (wnum (cutL s.data.toList 4 6)) (wnum (cutL s.data.toList 6 8)) (by omega)
        obtain ⟨dv, hdv⟩ : ∃ dv : Int, dv = if dayOk (wnum (cutL s.data.toList 0 4)) (wnum (cutL s.data.toList 4 6)) (wnum (cutL s.data.toList 6 8)) = true then Cal.bef (wnum (cutL s.data.toList 0 4)) + Cal.cum (wnum (cutL s.data.toList 0 4)) (wnum (cutL s.data.toList 4 6)).toNat + (wnum (cutL s.data.toList 6 8)) - 1 else 0 := ⟨_, rfl⟩
        obtain ⟨de, hde⟩ : ∃ de : Int, de = if dayOk (wnum (cutL s.data.toList 0 4)) (wnum (cutL s.data.toList 4 6)) (wnum (cutL s.data.toList 6 8)) = true then 0 else 110 := ⟨_, rfl⟩
        rw [← hdv, ← hde] at hdays
        have HDV := Aside0.mk hdv
        have HDE := Aside0.mk hde
        clear hdv hde
        go_region_with (first
          | (go_at_call 101; refine (num_at s _ _ (by omega) (by omega) _).mono ?_; rintro e w' ⟨rfl, rfl⟩)
          | (go_at_call 102; refine (hdays _).mono ?_; rintro e w2 ⟨rfl, hb2⟩))
        have hb2 : Below w1.heap.size w1 w2 := ((Below.refl _ w1).drew).trans hb2
        have hb3 := hb1.trans (hb2.mono hb1.size)
        have hOK : ok = (dayOk (wnum (cutL s.data.toList 0 4)) (wnum (cutL s.data.toList 4 6)) (wnum (cutL s.data.toList 6 8)) && decide (0 ≤ wnum (cutL s.data.toList 9 11)) && decide (wnum (cutL s.data.toList 9 11) ≤ 23) && decide (0 ≤ wnum (cutL s.data.toList 11 13)) && decide (wnum (cutL s.data.toList 11 13) ≤ 59) && decide (0 ≤ wnum (cutL s.data.toList 13 15)) && decide (wnum (cutL s.data.toList 13 15) ≤ 59)) := by
          rw [HO.out]
          unfold pOk
          rw [G.out.1, G.out.2, data_length, show s[8] = 84 from u8_of h8, show s[15] = 90 from u8_of h15, h16]
          rfl
        have hTT : T = (Cal.bef (wnum (cutL s.data.toList 0 4)) + Cal.cum (wnum (cutL s.data.toList 0 4)) (wnum (cutL s.data.toList 4 6)).toNat + (wnum (cutL s.data.toList 6 8)) - 1) * 86400 + wnum (cutL s.data.toList 9 11) * 3600 + wnum (cutL s.data.toList 11 13) * 60 + wnum (cutL s.data.toList 13 15) := by rw [HT.out]; rfl
        have dl1 := cutL_len s.data.toList 9 11
        have dl2 := cutL_len s.data.toList 11 13
        have dl3 := cutL_len s.data.toList 13 15
        obtain ⟨e1, e2⟩ := wnum_rng (cutL s.data.toList 9 11) (by omega)
        obtain ⟨e3, e4⟩ := wnum_rng (cutL s.data.toList 11 13) (by omega)
        obtain ⟨e5, e6⟩ := wnum_rng (cutL s.data.toList 13 15) (by omega)
        have hde := HDE.out
        have hdv := HDV.out
        clear HDE HDV dl dl1 dl2 dl3
        obtain ⟨dk, hdk⟩ : ∃ dk, dk = dayOk (wnum (cutL s.data.toList 0 4)) (wnum (cutL s.data.toList 4 6)) (wnum (cutL s.data.toList 6 8)) := ⟨_, rfl⟩
        rw [← hdk] at hde hdv hOK
        have hdr : dk = true → 0 ≤ dv ∧ dv ≤ 2932896 := fun h => by rw [hdv, if_pos h]; rw [h] at hdk; exact day_rng hdk.symm
        generalize wnum (cutL s.data.toList 9 11) = n1 at *
        generalize wnum (cutL s.data.toList 11 13) = n2 at *
        generalize wnum (cutL s.data.toList 13 15) = n3 at *
        clear hdk
        cases dk with
        | false =>
          have HOK := Aside0.mk hOK
          clear hdr hdv hOK hTT
          simp at hde
          subst hde
          go_wp2
          go_ret2
          have e : ok = false := by rw [HOK.out]; rfl
          exact ⟨ret2_ii (by rw [H1.out, e]; rfl) (by rw [H2.out, e]; rfl), hb3⟩
        | true =>
          obtain ⟨v1, v2⟩ := hdr rfl
          simp only [if_true] at hde hdv
          rw [← hdv] at hTT
          have HOK := Aside0.mk hOK
          have HTT := Aside0.mk hTT
          clear hdr hdv hOK hTT
          subst hde
          go_wp2
          all_goals go_ret2
          all_goals first
            | (have e : ok = true := (by rw [HOK.out]; simp; omega)
               exact ⟨ret2_ii (by rw [H1.out, e, HTT.out]; rfl) (by rw [H2.out, e]; rfl), hb3⟩)
            | (have e : ok = false := (by rw [HOK.out, Bool.eq_false_iff]; simp; omega)
               exact ⟨ret2_ii (by rw [H1.out, e]; rfl) (by rw [H2.out, e]; rfl), hb3⟩)
      · go_enter Tryz.func75, Tryz.ntmps75
        go_wp2
        go_ret2
        have e : ok = false := by
          rw [HO.out]; unfold pOk
          rw [G.out.2, show (some s[15] == some (90 : UInt8)) = false from beq_eq_false_iff_ne.mpr (fun hc => h15 (by injection hc with hc; rw [hc]; rfl))]
          simp
        exact ⟨ret2_ii (by rw [H1.out, e]; rfl) (by rw [H2.out, e]; rfl), Below.refl _ _⟩
    · go_enter Tryz.func75, Tryz.ntmps75
      go_wp2
      go_ret2
      have e : ok = false := by
        rw [HO.out]; unfold pOk
        rw [G.out.1, show (some s[8] == some (84 : UInt8)) = false from beq_eq_false_iff_ne.mpr (fun hc => h8 (by injection hc with hc; rw [hc]; rfl))]
        simp
      exact ⟨ret2_ii (by rw [H1.out, e]; rfl) (by rw [H2.out, e]; rfl), Below.refl _ _⟩
  · go_enter Tryz.func75, Tryz.ntmps75
    go_wp2
    go_ret2
    have e : ok = false := by rw [HO.out]; unfold pOk; rw [data_length]; simp [h16]
    exact ⟨ret2_ii (by rw [H1.out, e]; rfl) (by rw [H2.out, e]; rfl), Below.refl _ _⟩
end Go.Proofs.YtfbmjonhohebiaaGreatDoor
end
section
set_option linter.unusedVariables false
set_option linter.unusedSimpArgs false
namespace Go.Proofs.YtfbmjonhohebiaaGreatDoor
open Go.RowKit Go.Proofs.YtfbmjonhohebiaaGreatDoorW.PrintWords Go.Proofs.YtfbmjonhohebiaaGreatDoorW.PrintLast Go.Proofs.YtfbmjonhohebiaaGreatDoorW.PrintMore PRecurExpands
set_option maxRecDepth 100000 in
set_option maxHeartbeats 2000000 in
theorem part_UNTIL (X : ByteArray) (p : Nat) (a0 a1 a2 a3 : Int) (v4 v5 v6 : Value) (w : World) (hR : RuleAt w p a0 a1 a2 a3 v4 v5 v6) :
    Calls Tryz.prog 47 #[.pointer (some ⟨p, 0, none⟩), .string ⟨#[85, 78, 84, 73, 76]⟩, .string X] w fun e w' => e = .returned (.bool (pOk X.data.toList)) ∧
      w.grownBy w' (some p) ∧ RuleAt w' p a0 a1 a2 (if pOk X.data.toList = true then pT X.data.toList else 0) v4 v5 v6 := by
  have HR := Aside0.mk hR
  clear hR
  have hp := when_Parse X w
  obtain ⟨ok, hok⟩ : ∃ ok, ok = pOk X.data.toList := ⟨_, rfl⟩
  rw [← hok] at hp ⊢
  clear hok
  cases ok with
  | true =>
    rw [if_pos rfl, if_pos rfl] at hp
    rw [if_pos rfl]
    generalize pT X.data.toList = T at hp ⊢
    go_enter Tryz.func47, Tryz.ntmps47
    go_wp2_with (go_at_call 75; refine hp.mono ?_; rintro e w3 ⟨rfl, hb3⟩; obtain ⟨c0, c1, c2, c3, c4, c5, c6, cf, cz⟩ := (show RuleAt w3 p a0 a1 a2 a3 v4 v5 v6 from blk_below HR.out hb3).all; have cf0 := cf 3; clear cf)
    go_ret
    exact ⟨rfl, grown_trans (grown_of_below hb3 _) (grown_set _ _ _ _), blk_set (blk_below HR.out hb3) 3 _⟩
  | false =>
    rw [if_neg (by decide), if_neg (by decide)] at hp
    rw [if_neg (by decide)]
    go_enter Tryz.func47, Tryz.ntmps47
    go_wp2_with (go_at_call 75; refine hp.mono ?_; rintro e w3 ⟨rfl, hb3⟩; obtain ⟨c0, c1, c2, c3, c4, c5, c6, cf, cz⟩ := (show RuleAt w3 p a0 a1 a2 a3 v4 v5 v6 from blk_below HR.out hb3).all; have cf0 := cf 3; clear cf)
    go_ret
    exact ⟨rfl, grown_trans (grown_of_below hb3 _) (grown_set _ _ _ _), blk_set (blk_below HR.out hb3) 3 _⟩
set_option maxRecDepth 100000 in
set_option maxHeartbeats 2000000 in
theorem part_BYMONTH (X : ByteArray) (hX : X.size < 4294967000) (p : Nat) (a0 a1 a2 a3 : Int) (v4 v5 v6 : Value) (w : World) (hG : Globs w) (hR : RuleAt w p a0 a1 a2 a3 v4 v5 v6) :
    Calls Tryz.prog 47 #[.pointer (some ⟨p, 0, none⟩), .string ⟨#[66, 89, 77, 79, 78, 84, 72]⟩, .string X] w fun e w' => e = .returned (.bool (nlAll ((spl X 44).map (·.data.toList))).isSome) ∧
      w.grownBy w' (some p) ∧ ∃ v, RuleAt w' p a0 a1 a2 a3 v v5 v6 ∧ ∀ xs, nlAll ((spl X 44).map (·.data.toList)) = some xs → w'.ownsRow w.heap.size 3 1 v xs.length ((srtI xs).map (.int .i64)) := by
  have HR := Aside0.mk hR
  clear hR
  have hwk := recur_list X hX w hG
  obtain ⟨o, ho⟩ : ∃ o, o = nlAll ((spl X 44).map (·.data.toList)) := ⟨_, rfl⟩
  rw [← ho] at hwk ⊢
  clear ho
  cases o with
  | none =>
    go_enter Tryz.func47, Tryz.ntmps47
    go_wp2_with (go_at_call 76; refine hwk.mono ?_; rintro e w3 ⟨rfl, hb3⟩; obtain ⟨c0, c1, c2, c3, c4, c5, c6, cf, cz⟩ := (show RuleAt w3 p a0 a1 a2 a3 v4 v5 v6 from blk_below HR.out hb3).all; have cf0 := cf 4; clear cf)
    go_ret
    exact ⟨rfl, grown_trans (grown_of_below hb3 _) (grown_set _ _ _ _), _, blk_set (blk_below HR.out hb3) 4 _, fun xs h => by cases h⟩
  | some xs =>
    go_enter Tryz.func47, Tryz.ntmps47
    go_wp2_with (go_at_call 76; refine hwk.mono ?_; rintro e w3 ⟨⟨v, rfl, hrow⟩, hb3⟩; obtain ⟨A, cv, rfl⟩ := own_slice hrow; have HROW := Aside0.mk hrow; clear hrow; obtain ⟨c0, c1, c2, c3, c4, c5, c6, cf, cz⟩ := (show RuleAt w3 p a0 a1 a2 a3 v4 v5 v6 from blk_below HR.out hb3).all; have cf0 := cf 4; clear cf)
    go_ret
    refine ⟨rfl, grown_trans (grown_of_below hb3 _) (grown_set _ _ _ _), _, blk_set (blk_below HR.out hb3) 4 _, fun ys h => ?_⟩
    injection h with h
    subst h
    refine own_move HROW.out (fun k hk => Below.heap_setCell _ _ _ k (fun e => ?_))
    have h1 := own_base HROW.out k hk
    have h2 := blk_lt HR.out
    simp at e
    omega
set_option maxRecDepth 100000 in
set_option maxHeartbeats 2000000 in
theorem part_BYMONTHDAY (X : ByteArray) (hX : X.size < 4294967000) (p : Nat) (a0 a1 a2 a3 : Int) (v4 v5 v6 : Value) (w : World) (hG : Globs w) (hR : RuleAt w p a0 a1 a2 a3 v4 v5 v6) :
    Calls Tryz.prog 47 #[.pointer (some ⟨p, 0, none⟩), .string ⟨#[66, 89, 77, 79, 78, 84, 72, 68, 65, 89]⟩, .string X] w fun e w' => e = .returned (.bool (nlAll ((spl X 44).map (·.data.toList))).isSome) ∧
      w.grownBy w' (some p) ∧ ∃ v, RuleAt w' p a0 a1 a2 a3 v4 v v6 ∧ ∀ xs, nlAll ((spl X 44).map (·.data.toList)) = some xs → w'.ownsRow w.heap.size 3 1 v xs.length ((srtI xs).map (.int .i64)) := by
  have HR := Aside0.mk hR
  clear hR
  have hwk := recur_list X hX w hG
  obtain ⟨o, ho⟩ : ∃ o, o = nlAll ((spl X 44).map (·.data.toList)) := ⟨_, rfl⟩
  rw [← ho] at hwk ⊢
  clear ho
  cases o with
  | none =>
    go_enter Tryz.func47, Tryz.ntmps47
    go_wp2_with (go_at_call 76; refine hwk.mono ?_; rintro e w3 ⟨rfl, hb3⟩; obtain ⟨c0, c1, c2, c3, c4, c5, c6, cf, cz⟩ := (show RuleAt w3 p a0 a1 a2 a3 v4 v5 v6 from blk_below HR.out hb3).all; have cf0 := cf 5; clear cf)
    go_ret
    exact ⟨rfl, grown_trans (grown_of_below hb3 _) (grown_set _ _ _ _), _, blk_set (blk_below HR.out hb3) 5 _, fun xs h => by cases h⟩
  | some xs =>
    go_enter Tryz.func47, Tryz.ntmps47
    go_wp2_with (go_at_call 76; refine hwk.mono ?_; rintro e w3 ⟨⟨v, rfl, hrow⟩, hb3⟩; obtain ⟨A, cv, rfl⟩ := own_slice hrow; have HROW := Aside0.mk hrow; clear hrow; obtain ⟨c0, c1, c2, c3, c4, c5, c6, cf, cz⟩ := (show RuleAt w3 p a0 a1 a2 a3 v4 v5 v6 from blk_below HR.out hb3).all; have cf0 := cf 5; clear cf)
    go_ret
    refine ⟨rfl, grown_trans (grown_of_below hb3 _) (grown_set _ _ _ _), _, blk_set (blk_below HR.out hb3) 5 _, fun ys h => ?_⟩
    injection h with h
    subst h
    refine own_move HROW.out (fun k hk => Below.heap_setCell _ _ _ k (fun e => ?_))
    have h1 := own_base HROW.out k hk
    have h2 := blk_lt HR.out
    simp at e
    omega
def kFREQ : List UInt8 := [70, 82, 69, 81]
def kINTERVAL : List UInt8 := [73, 78, 84, 69, 82, 86, 65, 76]
def kCOUNT : List UInt8 := [67, 79, 85, 78, 84]
def kUNTIL : List UInt8 := [85, 78, 84, 73, 76]
def kBYMONTH : List UInt8 := [66, 89, 77, 79, 78, 84, 72]
def kBYMONTHDAY : List UInt8 := [66, 89, 77, 79, 78, 84, 72, 68, 65, 89]
def kBYDAY : List UInt8 := [66, 89, 68, 65, 89]
set_option maxRecDepth 100000 in
set_option maxHeartbeats 2000000 in
theorem part_other (N X : ByteArray) (p : Nat) (w : World)
    (h1 : ¬ N.data.toList = kFREQ) (h2 : ¬ N.data.toList = kINTERVAL) (h3 : ¬ N.data.toList = kCOUNT) (h4 : ¬ N.data.toList = kUNTIL) (h5 : ¬ N.data.toList = kBYMONTH) (h6 : ¬ N.data.toList = kBYMONTHDAY) (h7 : ¬ N.data.toList = kBYDAY) :
    Calls Tryz.prog 47 #[.pointer (some ⟨p, 0, none⟩), .string N, .string X] w fun e w' => e = .returned (.bool false) ∧ w' = w := by
  rw [← Lib.toList_data] at h1 h2 h3 h4 h5 h6 h7
  unfold kFREQ at h1
  have g1 := beq_eq_false_iff_ne.mpr h1
  clear h1
  unfold kINTERVAL at h2
  have g2 := beq_eq_false_iff_ne.mpr h2
  clear h2
  unfold kCOUNT at h3
  have g3 := beq_eq_false_iff_ne.mpr h3
  clear h3
  unfold kUNTIL at h4
  have g4 := beq_eq_false_iff_ne.mpr h4
  clear h4
  unfold kBYMONTH at h5
  have g5 := beq_eq_false_iff_ne.mpr h5
  clear h5
  unfold kBYMONTHDAY at h6
  have g6 := beq_eq_false_iff_ne.mpr h6
  clear h6
  unfold kBYDAY at h7
  have g7 := beq_eq_false_iff_ne.mpr h7
  clear h7
  go_enter Tryz.func47, Tryz.ntmps47
  go_wp2
  go_ret
  all_goals exact ⟨rfl, rfl⟩
end Go.Proofs.YtfbmjonhohebiaaGreatDoor
end
section
set_option linter.unusedVariables false
set_option linter.unusedSimpArgs false
namespace Go.Proofs.YtfbmjonhohebiaaGreatDoor
open Go.RowKit Go.Proofs.YtfbmjonhohebiaaGreatDoorW.PrintWords Go.Proofs.YtfbmjonhohebiaaGreatDoorW.PrintLast Go.Proofs.YtfbmjonhohebiaaGreatDoorW.PrintMore PRecurExpands
def seenD : List (List UInt8) → DataW Nat
  | [] => .map []
  | k :: ks => (seenD ks).put (.string k) (.lit (.bool true))
def hasK (k : List UInt8) : List (List UInt8) → Bool
  | [] => false
  | x :: xs => if k = x then true else hasK k xs
def Seen (w : World) (b : Nat) (ks : List (List UInt8)) : Prop := w.ownsMap Tryz.prog 9 (plainElem Tryz.prog 4) b ks.length (seenD ks)
theorem zero_bool (w : World) : (zeroValue 4).run Tryz.prog w = .ok (.bool false) w := by kernel_rfl
theorem isMap_seen : ∀ ks, Go.Maps.IsMap (seenD ks) := by
  intro ks
  induction ks with
  | nil => exact Go.Maps.isMap_empty
  | cons k ks ih => exact ih.put _ _
theorem seen_at (k : List UInt8) : ∀ ks, (seenD ks).atKey (.string k) (.lit (.bool false)) = .lit (.bool (hasK k ks)) := by
  intro ks
  induction ks with
  | nil => rfl
  | cons x xs ih =>
    unfold seenD hasK
    by_cases h : k = x
    · subst h
      rw [if_pos rfl]
      exact Go.Maps.atKey_put_same (isMap_seen xs) (by trivial) _ _
    · rw [if_neg h, Go.Maps.atKey_put_other (fun e => h (by injection e)) _ _]
      exact ih
theorem bool_inv {P : Program} {e : TypeId} (he : P.underlying e = some .bool) {v : Value} {c : Bool} {ps : List MemPlace} (h : plainElem (H := Nat) P e v = some (.lit (.bool c), ps)) : v = .bool c := by
  unfold plainElem at h
  rw [he] at h
  cases v with
  | bool x => simp at h; rw [h.1]
  | _ => simp at h
theorem seen_look {w : World} {b : Nat} {ks : List (List UInt8)} (h : Seen w b ks) (N : ByteArray) (hN : N.size ≤ maxLen) :
    (Instr.lookup 70 (.map (some b)) (.string N) false).run Tryz.prog w = .ok (.bool (hasK N.data.toList ks)) w := by
  obtain ⟨v, ps, hrun, hR⟩ := World.ownsMap.lookup h (Go.Maps.string_keyed Tryz.underlying9) Tryz.underlying70 (z := .bool false) (zero_bool w) (plainElem_bool Tryz.underlying4 false) (Go.WideMaps.keyOf_string_mk Tryz.underlying9 hN)
  rw [seen_at] at hR
  have : v = .bool (hasK N.data.toList ks) := by
    exact bool_inv Tryz.underlying4 hR
  rw [hrun, this]
theorem seen_made (w : World) : Seen (w.alloc (.map #[] 0)) w.heap.size [] := World.ownsMap_made w _ _ _
end Go.Proofs.YtfbmjonhohebiaaGreatDoor
end
section
set_option linter.unusedVariables false
set_option linter.unusedSimpArgs false
namespace Go.Proofs.YtfbmjonhohebiaaGreatDoor
open Go.RowKit Go.Proofs.YtfbmjonhohebiaaGreatDoorW.PrintWords Go.Proofs.YtfbmjonhohebiaaGreatDoorW.PrintLast Go.Proofs.YtfbmjonhohebiaaGreatDoorW.PrintMore PRecurExpands
structure RS where
  a0 : Int
  a1 : Int
  a2 : Int
  a3 : Int
  m : List Int
  d : List Int
  k : List S59
def splL (l : List UInt8) (c : UInt8) : List (List UInt8) := (spl ⟨l.toArray⟩ c).map (·.data.toList)
def partV (n x : List UInt8) (r : RS) : Option RS :=
  if n = kFREQ then (if frOk x 4 = true then some { r with a0 := frUp x r.a0 4 } else none)
  else if n = kINTERVAL then (if numB x = true then some { r with a1 := numV x } else none)
  else if n = kCOUNT then (if (numB x && decide (0 < numV x)) = true then some { r with a2 := numV x } else none)
  else if n = kUNTIL then (if pOk x = true then some { r with a3 := pT x } else none)
  else if n = kBYMONTH then (nlAll (splL x 44)).map (fun l => { r with m := srtI l })
  else if n = kBYMONTHDAY then (nlAll (splL x 44)).map (fun l => { r with d := srtI l })
  else if n = kBYDAY then (wkAll (splL x 44)).map (fun l => { r with k := srt59 l })
  else none
def RuleR (w : World) (p base : Nat) (r : RS) : Prop := ∃ v4 v5 v6, RuleAt w p r.a0 r.a1 r.a2 r.a3 v4 v5 v6 ∧
  w.ownsRow base 3 1 v4 r.m.length (r.m.map (.int .i64)) ∧ w.ownsRow base 3 1 v5 r.d.length (r.d.map (.int .i64)) ∧ w.ownsRow base 59 2 v6 r.k.length (r.k.flatMap enc59)
theorem own_grown {w w1 : World} {base p : Nat} {e : TypeId} {size n : Nat} {v : Value} {xs : List Value} (h : w.ownsRow base e size v n xs) (hg : w.grownBy w1 (some p)) (hp : p < base) : w1.ownsRow base e size v n xs := by
  obtain ⟨h1, h2 | ⟨g, cap, cur, rfl, hb, hh, r⟩⟩ := h
  · exact ⟨h1, .inl h2⟩
  · exact ⟨h1, .inr ⟨g, cap, cur, rfl, hb, (hg.block g (blk_lt hh) (fun e => by injection e with e; omega)).trans hh, r⟩⟩
theorem RuleR.grown {w w1 : World} {p q base : Nat} {r : RS} (h : RuleR w p base r) (hg : w.grownBy w1 (some q)) (hq : q < base) (hne : p ≠ q) : RuleR w1 p base r := by
  obtain ⟨v4, v5, v6, h1, h2, h3, h4⟩ := h
  exact ⟨v4, v5, v6, (hg.block p (blk_lt h1) (fun e => by injection e with e; exact hne e)).trans h1, own_grown h2 hg hq, own_grown h3 hg hq, own_grown h4 hg hq⟩
theorem RuleR.below {w w1 : World} {p base : Nat} {r : RS} (h : RuleR w p base r) (hb : Below w.heap.size w w1) : RuleR w1 p base r := by
  obtain ⟨v4, v5, v6, h1, h2, h3, h4⟩ := h
  exact ⟨v4, v5, v6, blk_below h1 hb, pw_own_below h2 hb, pw_own_below h3 hb, pw_own_below h4 hb⟩
theorem bytes_ext {N : ByteArray} {l : List UInt8} (h : N.data.toList = l) : N = ⟨l.toArray⟩ := by
  cases N with
  | mk d => simp at h; subst h; simp
theorem wk_len {l : List UInt8} {xs : List S59} : ∀ {a : List (List UInt8)} {xs : List S59}, wkAll a = some xs → xs.length = a.length := by
  intro a
  induction a with
  | nil => intro xs h; injection h with h; subst h; rfl
  | cons l a ih =>
    intro xs h
    simp only [wkAll] at h
    cases hx : wkOne l with
    | none => rw [hx] at h; cases h
    | some y =>
      rw [hx] at h
      simp only [Option.map_eq_some_iff] at h
      obtain ⟨ys, h1, rfl⟩ := h
      simp [ih h1]
theorem part_all (N X : ByteArray) (hX : X.size < 4294967000) (p base : Nat) (r : RS) (w : World) (hG : Globs w) (hR : RuleR w p base r) (hp : p < base) (hb : base ≤ w.heap.size) :
    Calls Tryz.prog 47 #[.pointer (some ⟨p, 0, none⟩), .string N, .string X] w fun e w' => e = .returned (.bool (partV N.data.toList X.data.toList r).isSome) ∧
      w.grownBy w' (some p) ∧ ∀ r', partV N.data.toList X.data.toList r = some r' → RuleR w' p base r' := by
  obtain ⟨v4, v5, v6, h1, h2, h3, h4⟩ := hR
  have hsp : splL X.data.toList 44 = (spl X 44).map (·.data.toList) := rfl
  unfold partV
  by_cases e1 : N.data.toList = kFREQ
  · rw [bytes_ext e1, if_pos rfl]
    refine (part_FREQ X p r.a0 r.a1 r.a2 r.a3 v4 v5 v6 w h1).mono ?_
    rintro e w' ⟨rfl, hg, hr⟩
    refine ⟨by split <;> simp_all, hg, fun r' h => ?_⟩
    split at h
    · injection h with h; subst h; exact ⟨v4, v5, v6, hr, own_grown h2 hg hp, own_grown h3 hg hp, own_grown h4 hg hp⟩
    · cases h
  rw [if_neg e1]
  by_cases e2 : N.data.toList = kINTERVAL
  · rw [bytes_ext e2, if_pos rfl]
    refine (part_INTERVAL X (by omega) p r.a0 r.a1 r.a2 r.a3 v4 v5 v6 w hG h1).mono ?_
    rintro e w' ⟨rfl, hg, hr⟩
    refine ⟨by split <;> simp_all, hg, fun r' h => ?_⟩
    split at h
    · injection h with h; subst h; exact ⟨v4, v5, v6, hr, own_grown h2 hg hp, own_grown h3 hg hp, own_grown h4 hg hp⟩
    · cases h
  rw [if_neg e2]
  by_cases e3 : N.data.toList = kCOUNT
  · rw [bytes_ext e3, if_pos rfl]
    refine (part_COUNT X (by omega) p r.a0 r.a1 r.a2 r.a3 v4 v5 v6 w hG h1).mono ?_
    rintro e w' ⟨rfl, hg, hr⟩
    refine ⟨by split <;> simp_all, hg, fun r' h => ?_⟩
    split at h
    · injection h with h; subst h; exact ⟨v4, v5, v6, hr, own_grown h2 hg hp, own_grown h3 hg hp, own_grown h4 hg hp⟩
    · cases h
  rw [if_neg e3]
  by_cases e4 : N.data.toList = kUNTIL
  · rw [bytes_ext e4, if_pos rfl]
    refine (part_UNTIL X p r.a0 r.a1 r.a2 r.a3 v4 v5 v6 w h1).mono ?_
    rintro e w' ⟨rfl, hg, hr⟩
    refine ⟨by split <;> simp_all, hg, fun r' h => ?_⟩
    split at h
    · rename_i hk
      rw [if_pos hk] at hr
      injection h with h; subst h; exact ⟨v4, v5, v6, hr, own_grown h2 hg hp, own_grown h3 hg hp, own_grown h4 hg hp⟩
    · cases h
  rw [if_neg e4]
  by_cases e5 : N.data.toList = kBYMONTH
  · rw [bytes_ext e5, if_pos rfl]
    refine (part_BYMONTH X hX p r.a0 r.a1 r.a2 r.a3 v4 v5 v6 w hG h1).mono ?_
    rintro e w' ⟨rfl, hg, v, hr, hv⟩
    refine ⟨by rw [hsp]; simp, hg, fun r' h => ?_⟩
    rw [hsp] at h
    obtain ⟨l, hl, rfl⟩ := Option.map_eq_some_iff.mp h
    have hw := hv l hl
    exact ⟨v, v5, v6, hr, by rw [show (srtI l).length = l.length from List.length_mergeSort _]; exact own_weaken hw hb, own_grown h3 hg hp, own_grown h4 hg hp⟩
  rw [if_neg e5]
  by_cases e6 : N.data.toList = kBYMONTHDAY
  · rw [bytes_ext e6, if_pos rfl]
    refine (part_BYMONTHDAY X hX p r.a0 r.a1 r.a2 r.a3 v4 v5 v6 w hG h1).mono ?_
    rintro e w' ⟨rfl, hg, v, hr, hv⟩
    refine ⟨by rw [hsp]; simp, hg, fun r' h => ?_⟩
    rw [hsp] at h
    obtain ⟨l, hl, rfl⟩ := Option.map_eq_some_iff.mp h
    have hw := hv l hl
    exact ⟨v4, v, v6, hr, own_grown h2 hg hp, by rw [show (srtI l).length = l.length from List.length_mergeSort _]; exact own_weaken hw hb, own_grown h4 hg hp⟩
  rw [if_neg e6]
  by_cases e7 : N.data.toList = kBYDAY
  · rw [bytes_ext e7, if_pos rfl]
    refine (part_BYDAY sortC X hX p r.a0 r.a1 r.a2 r.a3 v4 v5 v6 w hG h1).mono ?_
    rintro e w' ⟨rfl, hg, v, hr, hv⟩
    refine ⟨by rw [hsp]; simp, hg, fun r' h => ?_⟩
    rw [hsp] at h
    obtain ⟨l, hl, rfl⟩ := Option.map_eq_some_iff.mp h
    have hw := hv l hl
    exact ⟨v4, v5, v, hr, own_grown h2 hg hp, own_grown h3 hg hp, by rw [show (srt59 l).length = l.length from List.length_mergeSort _]; exact own_weaken hw hb⟩
  rw [if_neg e7]
  refine (part_other N X p w e1 e2 e3 e4 e5 e6 e7).mono ?_
  rintro e w' ⟨rfl, rfl⟩
  exact ⟨rfl, grown_of_below (Below.refl _ _) _, fun r' h => by cases h⟩
end Go.Proofs.YtfbmjonhohebiaaGreatDoor
end
section
set_option linter.unusedVariables false
set_option linter.unusedSimpArgs false
namespace Go.Proofs.YtfbmjonhohebiaaGreatDoor
open Go.RowKit Go.Proofs.YtfbmjonhohebiaaGreatDoorW.PrintWords Go.Proofs.YtfbmjonhohebiaaGreatDoorW.PrintLast Go.Proofs.YtfbmjonhohebiaaGreatDoorW.PrintMore PRecurExpands
def readGo : List (List UInt8) → List (List UInt8) → RS → Option RS
  | [], _, r => some r
  | p :: ps, seen, r =>
    if ((Lib.cut p [61]).2.2 && !hasK (Lib.cut p [61]).1 seen) = true then
      match partV (Lib.cut p [61]).1 (Lib.cut p [61]).2.1 r with
      | none => none
      | some r' => readGo ps ((Lib.cut p [61]).1 :: seen) r'
    else none
def rs0 : RS := ⟨0, 1, 0, -1, [], [], []⟩
def readP (l : List UInt8) : Option RS := readGo (splL (upL l) 59) [] rs0
open Classical in
noncomputable def rightB (r : RS) : Bool := decide (RightP r.a0 r.a1 r.a2 r.a3 r.m r.d r.k)
noncomputable def readV (l : List UInt8) : Option RS := match readP l with | none => none | some r => if rightB r = true then some r else none
def nil7 : Value := .agg #[.int .i64 0, .int .i64 0, .int .i64 0, .int .i64 0, .slice none 0 0, .slice none 0 0, .slice none 0 0]
def rdPost (o : Option RS) (n₀ : Nat) (e : Ending) (w' : World) : Prop := match o with
  | none => e = .returned (.tuple #[nil7, .int .i64 3])
  | some r => ∃ v4 v5 v6, e = .returned (.tuple #[.agg #[.int .i64 r.a0, .int .i64 r.a1, .int .i64 r.a2, .int .i64 r.a3, v4, v5, v6], .int .i64 0]) ∧
      w'.ownsRow n₀ 3 1 v4 r.m.length (r.m.map (.int .i64)) ∧ w'.ownsRow n₀ 3 1 v5 r.d.length (r.d.map (.int .i64)) ∧ w'.ownsRow n₀ 59 2 v6 r.k.length (r.k.flatMap enc59)
theorem cut_len1 (l sep : List UInt8) : (Lib.cut l sep).1.length ≤ l.length := by
  unfold Lib.cut
  split
  · simp [List.length_take]; omega
  · simp
theorem cut_len2 (l sep : List UInt8) : (Lib.cut l sep).2.1.length ≤ l.length := by
  unfold Lib.cut
  split <;> simp
theorem res2 {fn : Func} {p u : Tmp} (h : fn.results = #[.cell p 25, .tmp u]) (tmps : Array Value) (w : World) (g : Nat) (a0 a1 a2 a3 : Int) (v4 v5 v6 x : Value) (hp : tmps.getD p undef = .pointer (some ⟨g, 0, none⟩)) (hx : tmps.getD u undef = x) (hg : RuleAt w g a0 a1 a2 a3 v4 v5 v6) :
    (results fn tmps).run Tryz.prog w = .ok (.tuple #[.agg #[.int .i64 a0, .int .i64 a1, .int .i64 a2, .int .i64 a3, v4, v5, v6], x]) w := by
  rw [results_cell_tmp h, hp, hx]
  have e := run_loadVar_row w g _ 25 _ _ _ hg Tryz.underlying25 rfl (by kernel_rfl)
  simp only [asAddr]
  show (Result.andThen (.ok _ w) _) = _
  simp only [Result.andThen]
  rw [e]
  rfl
theorem zeros7 {w : World} {g : Nat} {a0 a1 a2 a3 : Int} {v4 v5 v6 : Value} (h : RuleAt w g a0 a1 a2 a3 v4 v5 v6) (b0 b1 b2 b3 : Int) (u4 u5 u6 : Value) :
    RuleAt (((((((w.setCell ⟨g, 0, none⟩ (.int .i64 b0)).setCell ⟨g, 1, none⟩ (.int .i64 b1)).setCell ⟨g, 2, none⟩ (.int .i64 b2)).setCell ⟨g, 3, none⟩ (.int .i64 b3)).setCell ⟨g, 4, none⟩ u4).setCell ⟨g, 5, none⟩ u5).setCell ⟨g, 6, none⟩ u6) g b0 b1 b2 b3 u4 u5 u6 := by
  have h0 : RuleAt (w.setCell ⟨g, 0, none⟩ (.int .i64 b0)) g b0 a1 a2 a3 v4 v5 v6 := blk_set h 0 _
  generalize w.setCell ⟨g, 0, none⟩ (.int .i64 b0) = w0 at h0 ⊢
  have h1 : RuleAt (w0.setCell ⟨g, 1, none⟩ (.int .i64 b1)) g b0 b1 a2 a3 v4 v5 v6 := blk_set h0 1 _
  generalize w0.setCell ⟨g, 1, none⟩ (.int .i64 b1) = w1 at h1 ⊢
  have h2 : RuleAt (w1.setCell ⟨g, 2, none⟩ (.int .i64 b2)) g b0 b1 b2 a3 v4 v5 v6 := blk_set h1 2 _
  generalize w1.setCell ⟨g, 2, none⟩ (.int .i64 b2) = w2 at h2 ⊢
  have h3 : RuleAt (w2.setCell ⟨g, 3, none⟩ (.int .i64 b3)) g b0 b1 b2 b3 v4 v5 v6 := blk_set h2 3 _
  generalize w2.setCell ⟨g, 3, none⟩ (.int .i64 b3) = w3 at h3 ⊢
  have h4 : RuleAt (w3.setCell ⟨g, 4, none⟩ u4) g b0 b1 b2 b3 u4 v5 v6 := blk_set h3 4 _
  generalize w3.setCell ⟨g, 4, none⟩ u4 = w4 at h4 ⊢
  have h5 : RuleAt (w4.setCell ⟨g, 5, none⟩ u5) g b0 b1 b2 b3 u4 u5 v6 := blk_set h4 5 _
  generalize w4.setCell ⟨g, 5, none⟩ u5 = w5 at h5 ⊢
  exact blk_set h5 6 _
theorem below7 (w : World) {n g : Nat} (hg : n ≤ g) (b0 b1 b2 b3 : Int) (u4 u5 u6 : Value) :
    Below n w (((((((w.setCell ⟨g, 0, none⟩ (.int .i64 b0)).setCell ⟨g, 1, none⟩ (.int .i64 b1)).setCell ⟨g, 2, none⟩ (.int .i64 b2)).setCell ⟨g, 3, none⟩ (.int .i64 b3)).setCell ⟨g, 4, none⟩ u4).setCell ⟨g, 5, none⟩ u5).setCell ⟨g, 6, none⟩ u6) :=
  (((((((Below.refl n w).setCell (p := ⟨g, 0, none⟩) hg _).setCell (p := ⟨g, 1, none⟩) hg _).setCell (p := ⟨g, 2, none⟩) hg _).setCell (p := ⟨g, 3, none⟩) hg _).setCell (p := ⟨g, 4, none⟩) hg _).setCell (p := ⟨g, 5, none⟩) hg _).setCell (p := ⟨g, 6, none⟩) hg _
theorem rg_bad {p : List UInt8} {ps seen : List (List UInt8)} {r : RS} (h : ((Lib.cut p [61]).2.2 && !hasK (Lib.cut p [61]).1 seen) = false) : readGo (p :: ps) seen r = none := by
  unfold readGo
  rw [if_neg (by rw [h]; decide)]
theorem rg_part {p : List UInt8} {ps seen : List (List UInt8)} {r : RS} (h : ((Lib.cut p [61]).2.2 && !hasK (Lib.cut p [61]).1 seen) = true) (hp : partV (Lib.cut p [61]).1 (Lib.cut p [61]).2.1 r = none) : readGo (p :: ps) seen r = none := by
  unfold readGo
  rw [if_pos h, hp]
theorem rg_step {p : List UInt8} {ps seen : List (List UInt8)} {r r' : RS} (h : ((Lib.cut p [61]).2.2 && !hasK (Lib.cut p [61]).1 seen) = true) (hp : partV (Lib.cut p [61]).1 (Lib.cut p [61]).2.1 r = some r') : readGo (p :: ps) seen r = readGo ps ((Lib.cut p [61]).1 :: seen) r' := by
  conv => lhs; unfold readGo
  rw [if_pos h, hp]
theorem own_reads_i {w : World} {base : Nat} {v : Value} {xs : List Int} (h : w.ownsRow base 3 1 v xs.length (xs.map (.int .i64))) : ∃ A c, v = .slice A xs.length c ∧ xs.length ≤ c ∧ Kd.C (Kd.int .i64) w A xs.length xs :=
  Kd.R_reads (d := Kd.int .i64) (e := 3) (base := base) (ok := fun _ => True) (Kd.R_of_own h (fun _ _ => trivial))
theorem flat59_get : ∀ (l : List S59) (t : Nat), (l.flatMap enc59)[t]? = (l[t / 2]?).map (fun x => if t % 2 = 0 then .int .i64 x.f0 else .int .i64 x.f1) := flat_get (fun x : S59 => .int .i64 x.f0) (fun x : S59 => .int .i64 x.f1)
theorem own_reads_k {w : World} {base : Nat} {v : Value} {xs : List S59} (h : w.ownsRow base 59 2 v xs.length (xs.flatMap enc59)) : ∃ A c, v = .slice A xs.length c ∧ xs.length ≤ c ∧ Kd.C k59 w A xs.length xs := by
  obtain ⟨h1, ⟨rfl, h0⟩ | ⟨g, cap, cur, rfl, hb, hh, hc, hm, hs, ht⟩⟩ := h
  · refine ⟨none, 0, by rw [h0], by omega, rfl, by omega, fun hp => by omega⟩
  · refine ⟨_, _, rfl, hc, rfl, by unfold maxLen at hm; omega, fun hp => ⟨_, rfl, fun j p hj => ⟨[.int .i64 p.f0, .int .i64 p.f1], rfl, k59_mk w p, fun i u hu => ?_⟩⟩⟩
    have hjl : j < xs.length := (List.getElem?_eq_some_iff.mp hj).1
    have hi : i < 2 := by
      have := (List.getElem?_eq_some_iff.mp hu).1
      simpa using this
    rw [show k59.sz = 2 from rfl]
    rw [show (⟨g, 0, none⟩ : Addr).add (j * 2 + i) = ⟨g, j * 2 + i, none⟩ from by simp [Addr.add]; omega, blk_cell hh]
    have e : cur[j * 2 + i]? = (xs.flatMap enc59)[j * 2 + i]? := by
      rw [← ht, List.getElem?_take_of_lt (by omega)]
      simp
    rw [e, flat59_get, show (j * 2 + i) / 2 = j by omega, hj]
    match i, hi with
    | 0, _ => simp at hu ⊢; exact hu
    | 1, _ => simp at hu; simp [show (j * 2 + 1) % 2 = 1 by omega]; exact hu
def RSb (r : RS) : Prop := r.m.length ≤ 1000000000 ∧ r.d.length ≤ 1000000000 ∧ r.k.length ≤ 1000000000
theorem nl_len : ∀ {a : List (List UInt8)} {xs : List Int}, nlAll a = some xs → xs.length = a.length := by
  intro a
  induction a with
  | nil => intro xs h; injection h with h; subst h; rfl
  | cons l a ih =>
    intro xs h
    simp only [nlAll] at h
    cases hx : nlOne l with
    | none => rw [hx] at h; cases h
    | some y =>
      rw [hx] at h
      simp only [Option.map_eq_some_iff] at h
      obtain ⟨ys, h1, rfl⟩ := h
      simp [ih h1]
theorem splL_len (l : List UInt8) (c : UInt8) : (splL l c).length ≤ l.length + 1 := by
  unfold splL
  rw [List.length_map, spl_len]
  have := Lib.countB_le ⟨#[c]⟩ (Nat.le_refl 1) (ByteArray.mk l.toArray).size ⟨l.toArray⟩ (Nat.le_refl _)
  have e : (ByteArray.mk l.toArray).size = l.length := by rw [← data_length]
  omega
theorem partV_len {n x : List UInt8} {r r' : RS} (h : partV n x r = some r') (hx : x.length < 999999999) (hr : RSb r) : RSb r' := by
  obtain ⟨r1, r2, r3⟩ := hr
  have hsl := splL_len x 44
  unfold partV at h
  split at h
  · split at h
    · injection h with h; subst h; exact ⟨r1, r2, r3⟩
    · cases h
  split at h
  · split at h
    · injection h with h; subst h; exact ⟨r1, r2, r3⟩
    · cases h
  split at h
  · split at h
    · injection h with h; subst h; exact ⟨r1, r2, r3⟩
    · cases h
  split at h
  · split at h
    · injection h with h; subst h; exact ⟨r1, r2, r3⟩
    · cases h
  split at h
  · obtain ⟨l, hl, rfl⟩ := Option.map_eq_some_iff.mp h
    exact ⟨by show (srtI l).length ≤ _; unfold srtI; rw [List.length_mergeSort, nl_len hl]; omega, r2, r3⟩
  split at h
  · obtain ⟨l, hl, rfl⟩ := Option.map_eq_some_iff.mp h
    exact ⟨r1, by show (srtI l).length ≤ _; unfold srtI; rw [List.length_mergeSort, nl_len hl]; omega, r3⟩
  split at h
  · obtain ⟨l, hl, rfl⟩ := Option.map_eq_some_iff.mp h
    exact ⟨r1, r2, by show (srt59 l).length ≤ _; unfold srt59; rw [List.length_mergeSort, wk_len (l := []) (xs := []) hl]; omega⟩
  · cases h
theorem far7 (w : World) (g : Nat) (b0 b1 b2 b3 : Int) (u4 u5 u6 : Value) (k : Nat) (hk : k ≠ g) :
    (((((((w.setCell ⟨g, 0, none⟩ (.int .i64 b0)).setCell ⟨g, 1, none⟩ (.int .i64 b1)).setCell ⟨g, 2, none⟩ (.int .i64 b2)).setCell ⟨g, 3, none⟩ (.int .i64 b3)).setCell ⟨g, 4, none⟩ u4).setCell ⟨g, 5, none⟩ u5).setCell ⟨g, 6, none⟩ u6).heap[k]? = w.heap[k]? := by
  rw [Below.heap_setCell _ _ _ _ (by simpa using hk), Below.heap_setCell _ _ _ _ (by simpa using hk), Below.heap_setCell _ _ _ _ (by simpa using hk), Below.heap_setCell _ _ _ _ (by simpa using hk), Below.heap_setCell _ _ _ _ (by simpa using hk), Below.heap_setCell _ _ _ _ (by simpa using hk), Below.heap_setCell _ _ _ _ (by simpa using hk)]
theorem own7 {w : World} {g base : Nat} {e : TypeId} {size n : Nat} {v : Value} {xs : List Value} (h : w.ownsRow base e size v n xs) (hg : g < base) (b0 b1 b2 b3 : Int) (u4 u5 u6 : Value) :
    (((((((w.setCell ⟨g, 0, none⟩ (.int .i64 b0)).setCell ⟨g, 1, none⟩ (.int .i64 b1)).setCell ⟨g, 2, none⟩ (.int .i64 b2)).setCell ⟨g, 3, none⟩ (.int .i64 b3)).setCell ⟨g, 4, none⟩ u4).setCell ⟨g, 5, none⟩ u5).setCell ⟨g, 6, none⟩ u6).ownsRow g e size v n xs :=
  own_weaken (own_move h (fun k hk => far7 w g b0 b1 b2 b3 u4 u5 u6 k (by have := own_base h k hk; omega))) (by omega)
structure ReadInv (w wr : World) (seen : List (List UInt8)) (r : RS) : Prop where
  below : Below w.heap.size w wr
  res : RuleAt wr w.heap.size 0 0 0 0 (.slice none 0 0) (.slice none 0 0) (.slice none 0 0)
  rule : RuleR wr (w.heap.size + 1) (w.heap.size + 3) r
  seen : Seen wr (w.heap.size + 2) seen
  size : w.heap.size + 3 ≤ wr.heap.size
theorem seen_below {w w1 : World} {b : Nat} {ks : List (List UInt8)} (h : Seen w b ks) (hb : Below w.heap.size w w1) : Seen w1 b ks := World.ownsMap.kept h (grown_of_below hb none) (by simp)
theorem ReadInv.next {w wr w1 : World} {seen : List (List UInt8)} {r : RS} (h : ReadInv w wr seen r) (hb : Below wr.heap.size wr w1) : ReadInv w w1 seen r :=
  ⟨h.below.trans (hb.mono (by have := h.size; omega)), blk_below h.res hb, h.rule.below hb, seen_below h.seen hb, Nat.le_trans h.size hb.size⟩
theorem read_start {w w2 : World} (hb : Below (((w.alloc (.cells (cells7 0 0 0 0 (.slice none 0 0) (.slice none 0 0) (.slice none 0 0)) 25)).alloc (.cells (cells7 0 1 0 (-1) (.slice none 0 0) (.slice none 0 0) (.slice none 0 0)) 25)).alloc (.map #[] 0)).heap.size (((w.alloc (.cells (cells7 0 0 0 0 (.slice none 0 0) (.slice none 0 0) (.slice none 0 0)) 25)).alloc (.cells (cells7 0 1 0 (-1) (.slice none 0 0) (.slice none 0 0) (.slice none 0 0)) 25)).alloc (.map #[] 0)) w2) : ReadInv w w2 [] rs0 := by
  refine ReadInv.next ⟨?_, ?_, ?_, ?_, ?_⟩ hb
  · exact (((Below.refl w.heap.size w).alloc (Nat.le_refl _) _).alloc (by simp) _).alloc (by simp; omega) _
  · exact blk_alloc (blk_alloc (blk_new w _) _) _
  · refine ⟨_, _, _, ?_, World.ownsRow_nil _ _ _ _, World.ownsRow_nil _ _ _ _, World.ownsRow_nil _ _ _ _⟩
    have h := blk_alloc (blk_new (w.alloc (.cells (cells7 0 0 0 0 (.slice none 0 0) (.slice none 0 0) (.slice none 0 0)) 25)) (.cells (cells7 0 1 0 (-1) (.slice none 0 0) (.slice none 0 0) (.slice none 0 0)) 25)) (.map #[] 0)
    rw [World.size_alloc] at h
    exact h
  · have h := seen_made ((w.alloc (.cells (cells7 0 0 0 0 (.slice none 0 0) (.slice none 0 0) (.slice none 0 0)) 25)).alloc (.cells (cells7 0 1 0 (-1) (.slice none 0 0) (.slice none 0 0) (.slice none 0 0)) 25))
    rw [World.size_alloc, World.size_alloc] at h
    exact h
  · simp
theorem res_part {w wr w5 : World} {seen : List (List UInt8)} {r : RS} {n : Nat} (h : ReadInv w wr seen r) (hg : (wr.drewN n).grownBy w5 (some (w.heap.size + 1))) :
    RuleAt w5 w.heap.size 0 0 0 0 (.slice none 0 0) (.slice none 0 0) (.slice none 0 0) ∧ Below w.heap.size w w5 := by
  have hz := h.size
  refine ⟨(hg.block _ (by show w.heap.size < wr.heap.size; omega) (by simp)).trans h.res, ?_⟩
  exact ((h.below.trans (⟨rfl, rfl, rfl, Nat.le_refl _, fun _ _ => rfl⟩ : Below w.heap.size wr (wr.drewN n))).grown hg (by show w.heap.size ≤ wr.heap.size; omega) (fun k hk => by injection hk with hk; omega))
theorem inv_part {w wr w5 w6 : World} {seen : List (List UInt8)} {r r' : RS} {n : Nat} {k : List UInt8} (h : ReadInv w wr seen r) (hg : (wr.drewN n).grownBy w5 (some (w.heap.size + 1))) (hr : RuleR w5 (w.heap.size + 1) (w.heap.size + 3) r')
    (hs : w6.ownsMap Tryz.prog 9 (plainElem Tryz.prog 4) (w.heap.size + 2) (seen.length + 1) ((seenD seen).put (.string k) (.lit (.bool true)))) (hg6 : w5.grownBy w6 (some (w.heap.size + 2))) : ReadInv w w6 (k :: seen) r' := by
  obtain ⟨h1, h2⟩ := res_part h hg
  have hz := h.size
  have hz5 := hg.size
  have hz5' : wr.heap.size ≤ w5.heap.size := hz5
  have hz6 := hg6.size
  refine ⟨h2.grown hg6 (by omega) (fun k hk => by injection hk with hk; omega), (hg6.block _ (by omega) (by simp)).trans h1, hr.grown hg6 (by omega) (by omega), hs, by omega⟩
set_option maxRecDepth 100000 in
set_option maxHeartbeats 4000000 in
theorem recur_Read (s : ByteArray) (hs : s.size < 999999999) (w : World) (hG : Globs w) :
    Calls Tryz.prog 22 #[.string s] w fun e w' => rdPost (readV s.data.toList) w.heap.size e w' ∧ Below w.heap.size w w' := by
  obtain ⟨o, ho⟩ : ∃ o, o = readV s.data.toList := ⟨_, rfl⟩
  rw [← ho]
  have HO := Aside0.mk ho
  have hG1 := Aside0.mk hG
  clear hG ho
  have hmm := @run_makeMap Tryz.prog
  obtain ⟨U, hU⟩ : ∃ U : ByteArray, U = ⟨(upL s.data.toList).toArray⟩ := ⟨_, rfl⟩
  have hUl : U.data.toList = upL s.data.toList := by rw [hU]
  have hUs : U.size = s.size := by rw [← data_length, hUl]; simp [upL, data_length]
  have hup := recur_upper s (by omega)
  rw [← hU] at hup
  obtain ⟨L, hL⟩ : ∃ L, L = spl U 59 := ⟨_, rfl⟩
  have hlen : Lib.countB U ⟨#[59]⟩ + 1 = L.length := by rw [hL]; exact (spl_len U 59).symm
  have hLs : ∀ x ∈ L, x.size ≤ s.size := by rw [hL, ← hUs]; exact spl_mem U 59
  have hLl : L.length ≤ s.size + 1 := by rw [hL, spl_len, ← hUs]; have := Lib.countB_le ⟨#[59]⟩ (by decide) U.size U (Nat.le_refl _); omega
  have hcut := fun m W => Tryz.strings_Split U ⟨#[59]⟩ m W (by omega)
  rw [show Lib.splitB ⟨#[59]⟩ 0 (Lib.countB U ⟨#[59]⟩) U = L from hL.symm, hlen] at hcut
  have hP : readP s.data.toList = readGo (L.map (·.data.toList)) [] rs0 := by rw [hL]; unfold readP splL; rw [← hUl]
  have HP := Aside0.mk hP
  have HUS := Aside0.mk hUs
  clear hP hL hU hUl hlen hUs
  go_enter Tryz.func22, Tryz.ntmps22
  obtain ⟨m0, hm0⟩ := hG1.out.maxlen
  have hgs := hG1.out.size
  go_wp2_with (first
    | (go_at_call 45; refine (hup _).mono ?_; rintro e w2 ⟨rfl, hb2⟩; have I := Aside0.mk (read_start hb2); clear hb2)
    | (go_at_call 44; refine (hcut m0 _ ((I.out.below.cell (p := ⟨0, 0, none⟩) (by show 0 < _; omega)).trans hm0) (by decide)).mono ?_; rintro e w3 ⟨rfl, rfl⟩))
  have hk0 := blk_new w2 (.cells (L.map Value.string).toArray 9)
  have hz2 := I.out.size
  have I0 := I.out.next ((Below.refl w2.heap.size w2).alloc (Nat.le_refl _) (.cells (L.map Value.string).toArray 9))
  clear I
  go_loopw [17] (fun i wr => ∃ (k : Nat) (seen : List (List UInt8)) (r : RS), k ≤ L.length ∧ i = .int .i64 k ∧ ReadInv w wr seen r ∧ RSb r ∧ seen.length ≤ k ∧ wr.heap[w2.heap.size]? = some (.cells (L.map Value.string).toArray 9) ∧ readGo ((L.drop k).map (·.data.toList)) seen r = readGo (L.map (·.data.toList)) [] rs0) (fun i _ => L.length - (intOf i).toNat)
  case atStart => exact ⟨0, [], rs0, by omega, rfl, I0, by simp [RSb, rs0], by simp, hk0, rfl⟩
  case round =>
    obtain ⟨k, seen, r, hk, rfl, hI, hrs, hsn, hbk, hgo⟩ := hrel
    clear I0 hk0 hup hcut
    by_cases hlt : k < L.length
    · obtain ⟨X, hX⟩ : ∃ X, L[k]? = some X := ⟨L[k], List.getElem?_eq_getElem hlt⟩
      have hXs := hLs X (List.mem_of_getElem? hX)
      have hcell : wr.cell? ⟨w2.heap.size, k, none⟩ = some (.string X) := by rw [blk_cell hbk]; simp [hX]
      have HI := Aside0.mk hI
      have HBK := Aside0.mk hbk
      have hdrop : L.drop k = X :: L.drop (k + 1) := by
        obtain ⟨h1, rfl⟩ := List.getElem?_eq_some_iff.mp hX
        exact List.drop_eq_getElem_cons h1
      rw [hdrop, List.map_cons] at hgo
      obtain ⟨N, hN⟩ : ∃ N : ByteArray, N = ⟨(Lib.cut X.data.toList [61]).1.toArray⟩ := ⟨_, rfl⟩
      obtain ⟨V, hV⟩ : ∃ V : ByteArray, V = ⟨(Lib.cut X.data.toList [61]).2.1.toArray⟩ := ⟨_, rfl⟩
      obtain ⟨ok, hok⟩ : ∃ ok, ok = (Lib.cut X.data.toList [61]).2.2 := ⟨_, rfl⟩
      have hcut := Tryz.strings_Cut X ⟨#[61]⟩ m0 wr (by omega) ((hI.below.cell (p := ⟨0, 0, none⟩) (by show 0 < _; omega)).trans hm0)
      rw [show (ByteArray.mk #[61]).data.toList = [61] from rfl, ← hN, ← hV, ← hok] at hcut
      have hNl : N.data.toList = (Lib.cut X.data.toList [61]).1 := by rw [hN]
      have hVl : V.data.toList = (Lib.cut X.data.toList [61]).2.1 := by rw [hV]
      have hNs : N.size ≤ X.size := by rw [← data_length, hNl, ← data_length]; exact cut_len1 _ _
      have hVs : V.size ≤ X.size := by rw [← data_length, hVl, ← data_length]; exact cut_len2 _ _
      clear hN hV
      have HGO := Aside0.mk hgo
      have HNL := Aside0.mk hNl
      have HVL := Aside0.mk hVl
      have HOKK := Aside0.mk hok
      have hz := HI.out.size
      obtain ⟨hh, hhh⟩ : ∃ hh, hh = hasK N.data.toList seen := ⟨_, rfl⟩
      have HH := Aside0.mk hhh
      have hlook := fun n => seen_look (w := wr.drewN n) (b := w.heap.size + 2) (ks := seen) hI.seen N (by unfold maxLen; omega)
      rw [← hhh] at hlook
      clear hgo hNl hVl hok hI hbk hhh hdrop
      cases ok with
      | false =>
        go_wp2_with (first
          | (go_at_call 46; refine hcut.mono ?_; rintro e w4 ⟨rfl, n, rfl⟩; obtain ⟨c0, c1, c2, c3, c4, c5, c6, cf, cz⟩ := (show RuleAt (wr.drewN n) w.heap.size 0 0 0 0 (.slice none 0 0) (.slice none 0 0) (.slice none 0 0) from HI.out.res).all; have f0 := cf 0; have f1 := cf 1; have f2 := cf 2; have f3 := cf 3; have f4 := cf 4; have f5 := cf 5; have f6 := cf 6; clear cf))
        refine bodyPost_ret (res2 rfl _ _ w.heap.size 0 0 0 0 (.slice none 0 0) (.slice none 0 0) (.slice none 0 0) (.int .i64 3) rfl rfl (zeros7 (w := wr.drewN n) HI.out.res 0 0 0 0 _ _ _)) rfl ⟨?_, ?_⟩
        · have e : o = none := by rw [HO.out]; unfold readV; rw [HP.out, ← HGO.out, rg_bad (by rw [← HOKK.out]; rfl)]
          rw [e]; rfl
        · exact (HI.out.below.trans (⟨rfl, rfl, rfl, Nat.le_refl _, fun _ _ => rfl⟩ : Below w.heap.size wr (wr.drewN n))).trans (below7 (wr.drewN n) (Nat.le_refl _) 0 0 0 0 _ _ _)
      | true =>
        cases hh with
        | true =>
          have hlk := hlook
          go_wp2_with (first
            | (go_at_call 46; refine hcut.mono ?_; rintro e w4 ⟨rfl, n, rfl⟩; have hl2 := hlook n; obtain ⟨c0, c1, c2, c3, c4, c5, c6, cf, cz⟩ := (show RuleAt (wr.drewN n) w.heap.size 0 0 0 0 (.slice none 0 0) (.slice none 0 0) (.slice none 0 0) from HI.out.res).all; have f0 := cf 0; have f1 := cf 1; have f2 := cf 2; have f3 := cf 3; have f4 := cf 4; have f5 := cf 5; have f6 := cf 6; clear cf))
          refine bodyPost_ret (res2 rfl _ _ w.heap.size 0 0 0 0 (.slice none 0 0) (.slice none 0 0) (.slice none 0 0) (.int .i64 3) rfl rfl (zeros7 (w := wr.drewN n) HI.out.res 0 0 0 0 _ _ _)) rfl ⟨?_, ?_⟩
          · have e : o = none := by rw [HO.out]; unfold readV; rw [HP.out, ← HGO.out, rg_bad (by rw [← HOKK.out, ← HNL.out, ← HH.out]; rfl)]
            rw [e]; rfl
          · exact (HI.out.below.trans (⟨rfl, rfl, rfl, Nat.le_refl _, fun _ _ => rfl⟩ : Below w.heap.size wr (wr.drewN n))).trans (below7 (wr.drewN n) (Nat.le_refl _) 0 0 0 0 _ _ _)
        | false =>
          have dn : ∀ n, Below wr.heap.size wr (wr.drewN n) := fun n => ⟨rfl, rfl, rfl, Nat.le_refl _, fun _ _ => rfl⟩
          have hpart := fun n => part_all N V (by omega) (w.heap.size + 1) (w.heap.size + 3) r (wr.drewN n) (hG1.out.below (HI.out.below.trans ((dn n).mono (by omega)))) (HI.out.rule.below (dn n)) (by omega) hz
          have hb1 : ((Lib.cut X.data.toList [61]).2.2 && !hasK (Lib.cut X.data.toList [61]).1 seen) = true := by rw [← HOKK.out, ← HNL.out, ← HH.out]; rfl
          have HB1 := Aside0.mk hb1
          clear hb1
          cases hpv : partV N.data.toList V.data.toList r with
          | none =>
            rw [hpv] at hpart
            have HPV := Aside0.mk hpv
            clear hpv
            go_wp2_with (first
              | (go_at_call 46; refine hcut.mono ?_; rintro e w4 ⟨rfl, n, rfl⟩; have hl2 := hlook n)
              | (go_at_call 47; refine (hpart n).mono ?_; rintro e w5 ⟨rfl, hg5, _⟩; have HR5 := Aside0.mk (res_part HI.out hg5); obtain ⟨c0, c1, c2, c3, c4, c5, c6, cf, cz⟩ := HR5.out.1.all; have f0 := cf 0; have f1 := cf 1; have f2 := cf 2; have f3 := cf 3; have f4 := cf 4; have f5 := cf 5; have f6 := cf 6; clear cf))
            refine bodyPost_ret (res2 rfl _ _ w.heap.size 0 0 0 0 (.slice none 0 0) (.slice none 0 0) (.slice none 0 0) (.int .i64 3) rfl rfl (zeros7 (w := w5) HR5.out.1 0 0 0 0 _ _ _)) rfl ⟨?_, ?_⟩
            · have e : o = none := by rw [HO.out]; unfold readV; rw [HP.out, ← HGO.out, rg_part HB1.out (by rw [← HNL.out, ← HVL.out]; exact HPV.out)]
              rw [e]; rfl
            · exact HR5.out.2.trans (below7 w5 (Nat.le_refl _) 0 0 0 0 _ _ _)
          | some r' =>
            rw [hpv] at hpart
            have HPV := Aside0.mk hpv
            clear hpv
            go_wp2_with (first
              | (go_at_call 46; refine hcut.mono ?_; rintro e w4 ⟨rfl, n, rfl⟩; have hl2 := hlook n)
              | (go_at_call 47; refine (hpart n).mono ?_; rintro e w5 ⟨rfl, hg5, hr5⟩; have HR5 := Aside0.mk (res_part HI.out hg5); have HRR := Aside0.mk (hr5 r' rfl); have HS5 := Aside0.mk (World.ownsMap.kept (w := wr.drewN n) HI.out.seen hg5 (by simp)); clear hr5)
              | (at_mapUpdate; refine wpList_mapUpdate_own _ rfl _ _ _ 70 rfl 9 4 (Go.Maps.string_keyed Tryz.underlying9) Tryz.underlying70 _ (w.heap.size + 2) seen.length (seenD seen) rfl HS5.out (by unfold maxLen; omega) _ _ (.string N.data.toList) rfl rfl (Go.WideMaps.keyOf_string_mk Tryz.underlying9 (by unfold maxLen; omega)) (.lit (.bool true)) [] (plainElem_bool Tryz.underlying4 true) ?_; intro w6 hown6 hgrow6))
            have T := Aside0.mk (inv_part (k := N.data.toList) HI.out hg5 HRR.out hown6 hgrow6)
            have hw2 := blk_lt HBK.out
            have hw5 : wr.heap.size ≤ w5.heap.size := hg5.size
            have hbk6 := (hgrow6.block w2.heap.size (by omega) (by simp; omega)).trans ((hg5.block w2.heap.size (show w2.heap.size < wr.heap.size from hw2) (by simp; omega)).trans HBK.out)
            go_roundw
            case rel => exact ⟨k + 1, N.data.toList :: seen, r', by omega, by go_num, T.out, partV_len HPV.out (by rw [data_length]; omega) hrs, by simp; omega, hbk6, by rw [← HGO.out, rg_step HB1.out (by rw [← HNL.out, ← HVL.out]; exact HPV.out), HNL.out]⟩
            case measure => simp [intOf]; omega
    · obtain rfl : k = L.length := by omega
      rw [List.drop_length] at hgo
      have hP : readP s.data.toList = some r := by rw [HP.out, ← hgo]; rfl
      obtain ⟨v4, v5, v6, hr, h4, h5, h6⟩ := hI.rule
      obtain ⟨A4, c4, rfl, hc4, hC4⟩ := own_reads_i h4
      obtain ⟨A5, c5, rfl, hc5, hC5⟩ := own_reads_i h5
      obtain ⟨A6, c6, rfl, hc6, hC6⟩ := own_reads_k h6
      have hright := recur_Right_c r.a0 r.a1 r.a2 r.a3 A4 A5 A6 c4 c5 c6 r.m r.d r.k (rightB r) (by unfold rightB; simp) wr hC4 hc4 hC5 hc5 hC6 hc6 hrs.1 hrs.2.1 hrs.2.2
      obtain ⟨rb, hrb⟩ : ∃ rb, rb = rightB r := ⟨_, rfl⟩
      rw [← hrb] at hright
      have HP2 := Aside0.mk hP
      have HRB := Aside0.mk hrb
      have HI := Aside0.mk hI
      have H4 := Aside0.mk h4
      have H5 := Aside0.mk h5
      have H6 := Aside0.mk h6
      obtain ⟨d0, d1, d2, d3, d4, d5, d6, df, dz⟩ := hr.all
      have HR := Aside0.mk hr
      clear hgo hP hrb hI h4 h5 h6 hr df hC4 hC5 hC6
      cases rb with
      | true =>
        go_wp2_with (go_at_call 24; refine hright.mono ?_; rintro e w5 ⟨rfl, hb5⟩; have I5 := Aside0.mk (HI.out.next hb5); obtain ⟨c0, c1, c2, c3, c4, c5, c6, cf, cz⟩ := I5.out.res.all; have f0 := cf 0; have f1 := cf 1; have f2 := cf 2; have f3 := cf 3; have f4 := cf 4; have f5 := cf 5; have f6 := cf 6; clear cf; obtain ⟨e0, e1, e2, e3, e4, e5, e6, ef, ez⟩ := (RuleAt.all (w := w5) (blk_below HR.out hb5)); clear ef)
        refine bodyPost_ret (res2 rfl _ _ w.heap.size r.a0 r.a1 r.a2 r.a3 _ _ _ (.int .i64 0) rfl rfl (zeros7 (w := w5) I5.out.res r.a0 r.a1 r.a2 r.a3 _ _ _)) rfl ⟨?_, ?_⟩
        · have e : o = some r := by rw [HO.out]; unfold readV; rw [HP2.out]; simp only; rw [← HRB.out]; rfl
          rw [e]
          exact ⟨_, _, _, rfl, own7 (pw_own_below H4.out hb5) (by omega) _ _ _ _ _ _ _, own7 (pw_own_below H5.out hb5) (by omega) _ _ _ _ _ _ _, own7 (pw_own_below H6.out hb5) (by omega) _ _ _ _ _ _ _⟩
        · exact I5.out.below.trans (below7 w5 (Nat.le_refl _) r.a0 r.a1 r.a2 r.a3 _ _ _)
      | false =>
        go_wp2_with (go_at_call 24; refine hright.mono ?_; rintro e w5 ⟨rfl, hb5⟩; have I5 := Aside0.mk (HI.out.next hb5); obtain ⟨c0, c1, c2, c3, c4, c5, c6, cf, cz⟩ := I5.out.res.all; have f0 := cf 0; have f1 := cf 1; have f2 := cf 2; have f3 := cf 3; have f4 := cf 4; have f5 := cf 5; have f6 := cf 6; clear cf)
        refine bodyPost_ret (res2 rfl _ _ w.heap.size 0 0 0 0 (.slice none 0 0) (.slice none 0 0) (.slice none 0 0) (.int .i64 3) rfl rfl (zeros7 (w := w5) I5.out.res 0 0 0 0 _ _ _)) rfl ⟨?_, ?_⟩
        · have e : o = none := by rw [HO.out]; unfold readV; rw [HP2.out]; simp only; rw [← HRB.out]; rfl
          rw [e]; rfl
        · exact I5.out.below.trans (below7 w5 (Nat.le_refl _) 0 0 0 0 _ _ _)
end Go.Proofs.YtfbmjonhohebiaaGreatDoor
end
section
set_option linter.unusedVariables false
set_option linter.unusedSimpArgs false
namespace Go.Proofs.YtfbmjonhohebiaaGreatDoor
open Go.RowKit Go.Shelf Go.Proofs.YtfbmjonhohebiaaGreatDoorW.PrintWords Go.Proofs.YtfbmjonhohebiaaGreatDoorW.PrintLast Go.Proofs.YtfbmjonhohebiaaGreatDoorW.PrintMore PRecurExpands
attribute [local go_sem] Oper.semAt_some max2_int min2_int max_two min_two max_three min_three max_four min_four
def daysL (hit : Int → Bool) (step lim : Int) : Nat → Int → List Int
  | 0, _ => []
  | n + 1, d => if d ≤ lim then (if hit d then d :: daysL hit step lim n (d + step) else daysL hit step lim n (d + step)) else []
theorem daysL_more (hit : Int → Bool) (step lim : Int) (hs : 1 ≤ step) : ∀ (n m : Nat) (d : Int), (lim + 1 - d).toNat ≤ n → (lim + 1 - d).toNat ≤ m → daysL hit step lim n d = daysL hit step lim m d := by
  intro n
  induction n with
  | zero =>
    intro m d h1 h2
    cases m with
    | zero => rfl
    | succ m => simp only [daysL]; rw [if_neg (by omega)]
  | succ n ih =>
    intro m d h1 h2
    cases m with
    | zero => simp only [daysL]; rw [if_neg (by omega)]
    | succ m =>
      simp only [daysL]
      by_cases h : d ≤ lim
      · rw [if_pos h, if_pos h, ih m (d + step) (by omega) (by omega)]
      · rw [if_neg h, if_neg h]
def daysF (hit : Int → Bool) (step lim d : Int) : List Int := daysL hit step lim (lim + 1 - d).toNat d
theorem daysF_over (hit : Int → Bool) (step lim d : Int) (h : lim < d) : daysF hit step lim d = [] := by
  unfold daysF
  rw [show (lim + 1 - d).toNat = 0 by omega]; rfl
theorem daysF_hit (hit : Int → Bool) (step lim d : Int) (hs : 1 ≤ step) (h : d ≤ lim) (hh : hit d = true) : daysF hit step lim d = d :: daysF hit step lim (d + step) := by
  unfold daysF
  obtain ⟨n, hn⟩ : ∃ n, (lim + 1 - d).toNat = n + 1 := ⟨(lim - d).toNat, by omega⟩
  rw [hn]
  simp only [daysL]
  rw [if_pos h, if_pos hh, daysL_more hit step lim hs n (lim + 1 - (d + step)).toNat (d + step) (by omega) (Nat.le_refl _)]
theorem daysF_miss (hit : Int → Bool) (step lim d : Int) (hs : 1 ≤ step) (h : d ≤ lim) (hh : hit d = false) : daysF hit step lim d = daysF hit step lim (d + step) := by
  unfold daysF
  obtain ⟨n, hn⟩ : ∃ n, (lim + 1 - d).toNat = n + 1 := ⟨(lim - d).toNat, by omega⟩
  rw [hn]
  simp only [daysL]
  rw [if_pos h, if_neg (by rw [hh]; decide), daysL_more hit step lim hs n (lim + 1 - (d + step)).toNat (d + step) (by omega) (Nat.le_refl _)]
noncomputable def hitV (a0 a1 : Int) (l4 l5 : List Int) (l6 : List S59) (first d : Int) : Bool := d == first || matchV a0 a1 l4 l5 l6 first d
noncomputable def daysV (a0 a1 : Int) (l4 l5 : List Int) (l6 : List S59) (first lim : Int) : List Int := daysF (hitV a0 a1 l4 l5 l6 first) (if a0 = 1 then a1 else 1) lim first
theorem abides_below {β : Type} {B : Nat} {J : β → World → Prop} (hJ : AbidesFrom B J) {s : β} {W W' : World} (h : J s W) (hb : Below W.heap.size W W') : J s W' :=
  hJ s W W' none h (grown_of_below hb none) (fun r e => by cases e)
set_option maxRecDepth 100000 in
set_option maxHeartbeats 4000000 in
theorem recur_days1 (n l M Br Bf Bl : Nat) (Kp : World → World → Prop) (hKt : ∀ {A B C : World}, Kp A B → Kp B C → Kp A C) (hKc : ∀ {A B : World}, M ≤ A.heap.size → Below A.heap.size A B → Kp A B) (hKs : ∀ {A B : World}, Kp A B → A.heap.size ≤ B.heap.size) (a0 a1 a2 a3 : Int) (A4 A5 A6 : Option Addr) (c4 c5 c6 : Nat) (l4 l5 : List Int) (l6 : List S59) (first lim : Int) (J Jx : List Int → World → Prop) (hn : 1 ≤ n)
    (hc4 : l4.length ≤ c4) (hc5 : l5.length ≤ c5) (hc6 : l6.length ≤ c6) (hl4 : l4.length ≤ 1000000000) (hl5 : l5.length ≤ 1000000000) (hl6 : l6.length ≤ 1000000000)
    (hg0 : 1 ≤ a0) (hg1 : a0 ≤ 4) (hi0 : 1 ≤ a1) (hi1 : a1 ≤ 1000) (hf0 : 0 ≤ first) (hf1 : first ≤ 2932896) (hm0 : 0 ≤ lim) (hm1 : lim ≤ 2932896)
    (hY : ∀ pre x W, J pre W → pre.length < (daysV a0 a1 l4 l5 l6 first lim).length → YieldAt Fence.wide (n - 1) Tryz.prog l #[.int .i64 x] W fun e W' =>
      (e = .returned (.bool true) ∧ J (pre ++ [x]) W' ∧ Kp W W') ∨ (e = .returned (.bool false) ∧ Jx (pre ++ [x]) W'))
    (W : World) (hn₀ : M ≤ W.heap.size) (hJ : AbidesFrom W.heap.size J)
    (hr4 : ∀ W', Kp W W' → Kd.C (Kd.int .i64) W' A4 l4.length l4) (hr5 : ∀ W', Kp W W' → Kd.C (Kd.int .i64) W' A5 l5.length l5) (hr6 : ∀ W', Kp W W' → Kd.C k59 W' A6 l6.length l6)
    (hR : ∀ W', Kp W W' → W'.heap[Br]? = some (.cells #[.int .i64 a0, .int .i64 a1, .int .i64 a2, .int .i64 a3, .slice A4 l4.length c4, .slice A5 l5.length c5, .slice A6 l6.length c6] 25 (0, 0)))
    (hF : ∀ W', Kp W W' → W'.heap[Bf]? = some (.cells #[.int .i64 first] 2 (0, 0))) (hL : ∀ W', Kp W W' → W'.heap[Bl]? = some (.cells #[.int .i64 lim] 2 (0, 0))) (h0 : J [] W) :
    CallsIn Fence.wide n Tryz.prog 65 #[.func (.yield l) #[] #[], .pointer (some ⟨Br, 0, none⟩), .pointer (some ⟨Bf, 0, none⟩), .pointer (some ⟨Bl, 0, none⟩)] W fun e W' => (∃ v, e = .returned v) ∧
      ((∃ ys, ys = daysV a0 a1 l4 l5 l6 first lim ∧ J ys W') ∨ (∃ pre, pre <+: daysV a0 a1 l4 l5 l6 first lim ∧ Jx pre W')) := by
  have HR4 := Aside0.mk hr4
  have HR5 := Aside0.mk hr5
  have HR6 := Aside0.mk hr6
  have HY := Aside0.mk hY
  have HJ := Aside0.mk hJ
  have HR := Aside0.mk hR
  have HF := Aside0.mk hF
  have HL := Aside0.mk hL
  clear hr4 hr5 hr6 hY hJ hR hF hL
  have hK0 : Kp W W := hKc hn₀ (Below.refl _ _)
  have cR : ∀ j, W.cell? ⟨Br, j, none⟩ = _ := blk_cell (HR.out W hK0)
  have cF := blk_cell (HF.out W hK0) 0
  have cL := blk_cell (HL.out W hK0) 0
  have c0 := cR 0
  have c1 := cR 1
  clear cR
  simp at c0 c1 cF cL
  by_cases g1 : (a0 == 1) = true
  ·
    have hs0 : (1 : Int) ≤ a1 := by omega
    have HA := Aside0.mk (show daysV a0 a1 l4 l5 l6 first lim = daysF (hitV a0 a1 l4 l5 l6 first) a1 lim first by unfold daysV; first | rw [if_pos (by simpa using g1)] | rw [if_neg (by simpa using g1)])
    refine callsIn_of_wp Tryz.func65 rfl trivial ?_ rfl
    simp only [Tryz.ntmps65, List.size_toArray, List.length_cons, List.length_nil, Nat.reduceAdd, Nat.reduceSub, Array.replicate_succ, Array.replicate_zero, List.push_toArray, List.append_toArray, List.nil_append, List.cons_append]
    gi_wp2
    gi_loopw [6] (fun d wr => ∃ (x : Int) (pre : List Int), d = .int .i64 x ∧ first ≤ x ∧ x ≤ 2933896 ∧ Aside0 (pre ++ daysF (hitV a0 a1 l4 l5 l6 first) a1 lim x = daysV a0 a1 l4 l5 l6 first lim) ∧ Aside0 (J pre wr) ∧ Aside0 (Kp W wr))
      (fun d _ => (2933897 - intOf d).toNat)
    case atStart => exact ⟨first, [], rfl, Int.le_refl _, by omega, ⟨by rw [HA.out]; rfl⟩, ⟨h0⟩, ⟨hK0⟩⟩
    case round =>
      obtain ⟨x, pre, rfl, hx0, hx1, HP, HJp, hb⟩ := hrel
      clear h0 c0 c1 cF cL
      have hNR : wr.heap[Br]? = _ := HR.out wr hb.out
      have cR := blk_cell hNR
      have cF := blk_cell (HF.out wr hb.out) 0
      have cL := blk_cell (HL.out wr hb.out) 0
      have c0 := cR 0
      have c1 := cR 1
      have c2 := cR 2
      have c3 := cR 3
      have d4 := cR 4
      have d5 := cR 5
      have d6 := cR 6
      clear cR
      simp at c0 c1 c2 c3 d4 d5 d6 cF cL
      have HN := Aside0.mk hNR
      clear hNR
      have hb' : M ≤ wr.heap.size := Nat.le_trans hn₀ (hKs hb.out)
      by_cases hlim : x ≤ lim
      · by_cases hfirst : (x == first) = true
        · have hp : (pre ++ x :: daysF (hitV a0 a1 l4 l5 l6 first) a1 lim (x + a1)) = daysV a0 a1 l4 l5 l6 first lim := by
            rw [← HP.out, daysF_hit _ _ _ _ hs0 hlim (by unfold hitV; rw [hfirst]; rfl)]
          obtain ⟨fn, tmps, assign, body, hy, hR⟩ := HY.out pre x wr HJp.out (by rw [← hp]; simp)
          have HPP := Aside0.mk hp
          clear hp
          gi_wp2
          refine ⟨trivial, ?_⟩
          gi_wp2
          refine hR.mono ?_
          rintro e W3 (⟨rfl, hJ3, hk3⟩ | ⟨rfl, hJx3⟩)
          · gi_wp2
            go_roundw
            case rel => exact ⟨x + a1, pre ++ [x], rfl, by omega, by omega, ⟨by rw [← HPP.out]; simp⟩, ⟨hJ3⟩, ⟨hKt hb.out hk3⟩⟩
            case measure => simp [intOf]; omega
          · gi_wp2
            refine bodyPost_ret (results_none rfl _ _ _) rfl ?_
            exact ⟨⟨_, rfl⟩, .inr ⟨pre ++ [x], ⟨daysF (hitV a0 a1 l4 l5 l6 first) a1 lim (x + a1), by rw [← HPP.out]; simp⟩, hJx3⟩⟩
        · have hfirst' : (x == first) = false := by simpa using hfirst
          clear hfirst
          by_cases hm : matchV a0 a1 l4 l5 l6 first x = true
          · have hp : (pre ++ x :: daysF (hitV a0 a1 l4 l5 l6 first) a1 lim (x + a1)) = daysV a0 a1 l4 l5 l6 first lim := by
              rw [← HP.out, daysF_hit _ _ _ _ hs0 hlim (by unfold hitV; rw [hfirst', hm]; rfl)]
            have HPP := Aside0.mk hp
            clear hp
            gi_wp2_with (refine ⟨trivial, ?_⟩; gi_at_call 27; refine (callsIn_wide.2 (recur_match a0 a1 a2 a3 A4 A5 A6 c4 c5 c6 l4 l5 l6 first x wr (HR4.out _ hb.out) hc4 (HR5.out _ hb.out) hc5 (HR6.out _ hb.out) hc6 hl4 hl5 hl6 hg0 hg1 hi0 hi1 hf0 hf1 (by omega) (by omega))).mono ?_; rintro e w2 ⟨rfl, hb2⟩; obtain ⟨fn, tmps, assign, body, hy, hR⟩ := HY.out pre x w2 (abides_below HJ.out HJp.out hb2) (by rw [← HPP.out]; simp))
            refine hR.mono ?_
            rintro e W3 (⟨rfl, hJ3, hk3⟩ | ⟨rfl, hJx3⟩)
            · gi_wp2
              go_roundw
              case rel => exact ⟨x + a1, pre ++ [x], rfl, by omega, by omega, ⟨by rw [← HPP.out]; simp⟩, ⟨hJ3⟩, ⟨hKt (hKt hb.out (hKc hb' hb2)) hk3⟩⟩
              case measure => simp [intOf]; omega
            · gi_wp2
              refine bodyPost_ret (results_none rfl _ _ _) rfl ?_
              exact ⟨⟨_, rfl⟩, .inr ⟨pre ++ [x], ⟨daysF (hitV a0 a1 l4 l5 l6 first) a1 lim (x + a1), by rw [← HPP.out]; simp⟩, hJx3⟩⟩
          · have hm' : matchV a0 a1 l4 l5 l6 first x = false := by simpa using hm
            clear hm
            have hp : (pre ++ daysF (hitV a0 a1 l4 l5 l6 first) a1 lim (x + a1)) = daysV a0 a1 l4 l5 l6 first lim := by
              rw [← HP.out, daysF_miss _ _ _ _ hs0 hlim (by unfold hitV; rw [hfirst', hm']; rfl)]
            have HPP := Aside0.mk hp
            clear hp
            gi_wp2_with (refine ⟨trivial, ?_⟩; gi_at_call 27; refine (callsIn_wide.2 (recur_match a0 a1 a2 a3 A4 A5 A6 c4 c5 c6 l4 l5 l6 first x wr (HR4.out _ hb.out) hc4 (HR5.out _ hb.out) hc5 (HR6.out _ hb.out) hc6 hl4 hl5 hl6 hg0 hg1 hi0 hi1 hf0 hf1 (by omega) (by omega))).mono ?_; rintro e w2 ⟨rfl, hb2⟩)
            refine ⟨fun _ h => (by cases h), ?_⟩
            gi_wp2
            go_roundw
            case rel => exact ⟨x + a1, pre, rfl, by omega, by omega, HPP, ⟨abides_below HJ.out HJp.out hb2⟩, ⟨hKt hb.out (hKc hb' hb2)⟩⟩
            case measure => simp [intOf]; omega
      · gi_wp2
        go_end0
        exact ⟨⟨_, rfl⟩, .inl (by have h := HP.out; rw [daysF_over _ _ _ _ (by omega), List.append_nil] at h; rw [← h]; exact HJp.out)⟩
  · have g1 : (a0 == 1) = false := by simpa using g1
    have hs0 : (1 : Int) ≤ (1 : Int) := by omega
    have HA := Aside0.mk (show daysV a0 a1 l4 l5 l6 first lim = daysF (hitV a0 a1 l4 l5 l6 first) (1 : Int) lim first by unfold daysV; first | rw [if_pos (by simpa using g1)] | rw [if_neg (by simpa using g1)])
    refine callsIn_of_wp Tryz.func65 rfl trivial ?_ rfl
    simp only [Tryz.ntmps65, List.size_toArray, List.length_cons, List.length_nil, Nat.reduceAdd, Nat.reduceSub, Array.replicate_succ, Array.replicate_zero, List.push_toArray, List.append_toArray, List.nil_append, List.cons_append]
    gi_wp2
    gi_loopw [6] (fun d wr => ∃ (x : Int) (pre : List Int), d = .int .i64 x ∧ first ≤ x ∧ x ≤ 2933896 ∧ Aside0 (pre ++ daysF (hitV a0 a1 l4 l5 l6 first) (1 : Int) lim x = daysV a0 a1 l4 l5 l6 first lim) ∧ Aside0 (J pre wr) ∧ Aside0 (Kp W wr))
      (fun d _ => (2933897 - intOf d).toNat)
    case atStart => exact ⟨first, [], rfl, Int.le_refl _, by omega, ⟨by rw [HA.out]; rfl⟩, ⟨h0⟩, ⟨hK0⟩⟩
    case round =>
      obtain ⟨x, pre, rfl, hx0, hx1, HP, HJp, hb⟩ := hrel
      clear h0 c0 c1 cF cL
      have hNR : wr.heap[Br]? = _ := HR.out wr hb.out
      have cR := blk_cell hNR
      have cF := blk_cell (HF.out wr hb.out) 0
      have cL := blk_cell (HL.out wr hb.out) 0
      have c0 := cR 0
      have c1 := cR 1
      have c2 := cR 2
      have c3 := cR 3
      have d4 := cR 4
      have d5 := cR 5
      have d6 := cR 6
      clear cR
      simp at c0 c1 c2 c3 d4 d5 d6 cF cL
      have HN := Aside0.mk hNR
      clear hNR
      have hb' : M ≤ wr.heap.size := Nat.le_trans hn₀ (hKs hb.out)
      by_cases hlim : x ≤ lim
      · by_cases hfirst : (x == first) = true
        · have hp : (pre ++ x :: daysF (hitV a0 a1 l4 l5 l6 first) (1 : Int) lim (x + 1)) = daysV a0 a1 l4 l5 l6 first lim := by
            rw [← HP.out, daysF_hit _ _ _ _ hs0 hlim (by unfold hitV; rw [hfirst]; rfl)]
          obtain ⟨fn, tmps, assign, body, hy, hR⟩ := HY.out pre x wr HJp.out (by rw [← hp]; simp)
          have HPP := Aside0.mk hp
          clear hp
          gi_wp2
          refine ⟨trivial, ?_⟩
          gi_wp2
          refine hR.mono ?_
          rintro e W3 (⟨rfl, hJ3, hk3⟩ | ⟨rfl, hJx3⟩)
          · gi_wp2
            go_roundw
            case rel => exact ⟨x + 1, pre ++ [x], rfl, by omega, by omega, ⟨by rw [← HPP.out]; simp⟩, ⟨hJ3⟩, ⟨hKt hb.out hk3⟩⟩
            case measure => simp [intOf]; omega
          · gi_wp2
            refine bodyPost_ret (results_none rfl _ _ _) rfl ?_
            exact ⟨⟨_, rfl⟩, .inr ⟨pre ++ [x], ⟨daysF (hitV a0 a1 l4 l5 l6 first) (1 : Int) lim (x + 1), by rw [← HPP.out]; simp⟩, hJx3⟩⟩
        · have hfirst' : (x == first) = false := by simpa using hfirst
          clear hfirst
          by_cases hm : matchV a0 a1 l4 l5 l6 first x = true
          · have hp : (pre ++ x :: daysF (hitV a0 a1 l4 l5 l6 first) (1 : Int) lim (x + 1)) = daysV a0 a1 l4 l5 l6 first lim := by
              rw [← HP.out, daysF_hit _ _ _ _ hs0 hlim (by unfold hitV; rw [hfirst', hm]; rfl)]
            have HPP := Aside0.mk hp
            clear hp
            gi_wp2_with (refine ⟨trivial, ?_⟩; gi_at_call 27; refine (callsIn_wide.2 (recur_match a0 a1 a2 a3 A4 A5 A6 c4 c5 c6 l4 l5 l6 first x wr (HR4.out _ hb.out) hc4 (HR5.out _ hb.out) hc5 (HR6.out _ hb.out) hc6 hl4 hl5 hl6 hg0 hg1 hi0 hi1 hf0 hf1 (by omega) (by omega))).mono ?_; rintro e w2 ⟨rfl, hb2⟩; obtain ⟨fn, tmps, assign, body, hy, hR⟩ := HY.out pre x w2 (abides_below HJ.out HJp.out hb2) (by rw [← HPP.out]; simp))
            refine hR.mono ?_
            rintro e W3 (⟨rfl, hJ3, hk3⟩ | ⟨rfl, hJx3⟩)
            · gi_wp2
              go_roundw
              case rel => exact ⟨x + 1, pre ++ [x], rfl, by omega, by omega, ⟨by rw [← HPP.out]; simp⟩, ⟨hJ3⟩, ⟨hKt (hKt hb.out (hKc hb' hb2)) hk3⟩⟩
              case measure => simp [intOf]; omega
            · gi_wp2
              refine bodyPost_ret (results_none rfl _ _ _) rfl ?_
              exact ⟨⟨_, rfl⟩, .inr ⟨pre ++ [x], ⟨daysF (hitV a0 a1 l4 l5 l6 first) (1 : Int) lim (x + 1), by rw [← HPP.out]; simp⟩, hJx3⟩⟩
          · have hm' : matchV a0 a1 l4 l5 l6 first x = false := by simpa using hm
            clear hm
            have hp : (pre ++ daysF (hitV a0 a1 l4 l5 l6 first) (1 : Int) lim (x + 1)) = daysV a0 a1 l4 l5 l6 first lim := by
              rw [← HP.out, daysF_miss _ _ _ _ hs0 hlim (by unfold hitV; rw [hfirst', hm']; rfl)]
            have HPP := Aside0.mk hp
            clear hp
            gi_wp2_with (refine ⟨trivial, ?_⟩; gi_at_call 27; refine (callsIn_wide.2 (recur_match a0 a1 a2 a3 A4 A5 A6 c4 c5 c6 l4 l5 l6 first x wr (HR4.out _ hb.out) hc4 (HR5.out _ hb.out) hc5 (HR6.out _ hb.out) hc6 hl4 hl5 hl6 hg0 hg1 hi0 hi1 hf0 hf1 (by omega) (by omega))).mono ?_; rintro e w2 ⟨rfl, hb2⟩)
            refine ⟨fun _ h => (by cases h), ?_⟩
            gi_wp2
            go_roundw
            case rel => exact ⟨x + 1, pre, rfl, by omega, by omega, HPP, ⟨abides_below HJ.out HJp.out hb2⟩, ⟨hKt hb.out (hKc hb' hb2)⟩⟩
            case measure => simp [intOf]; omega
      · gi_wp2
        go_end0
        exact ⟨⟨_, rfl⟩, .inl (by have h := HP.out; rw [daysF_over _ _ _ _ (by omega), List.append_nil] at h; rw [← h]; exact HJp.out)⟩
set_option maxRecDepth 100000 in
set_option maxHeartbeats 4000000 in
theorem recur_days (n : Nat) (a0 a1 a2 a3 : Int) (v4 v5 v6 : Value) (first lim : Int) (w : World) :
    CallsIn Fence.wide n Tryz.prog 30 #[.agg #[.int .i64 a0, .int .i64 a1, .int .i64 a2, .int .i64 a3, v4, v5, v6], .int .i64 first, .int .i64 lim] w fun e w' =>
      e = .returned (.func (.func 65) #[] #[.pointer (some ⟨w.heap.size, 0, none⟩), .pointer (some ⟨w.heap.size + 1, 0, none⟩), .pointer (some ⟨w.heap.size + 1 + 1, 0, none⟩)]) ∧
      w' = ((w.alloc (.cells #[.int .i64 a0, .int .i64 a1, .int .i64 a2, .int .i64 a3, v4, v5, v6] 25)).alloc (.cells #[.int .i64 first] 2)).alloc (.cells #[.int .i64 lim] 2) := by
  refine callsIn_of_wp Tryz.func30 rfl trivial ?_ rfl
  simp only [Tryz.ntmps30, List.size_toArray, List.length_cons, List.length_nil, Nat.reduceAdd, Nat.reduceSub, Array.replicate_succ, Array.replicate_zero, List.push_toArray, List.append_toArray, List.nil_append, List.cons_append]
  gi_wp2
  go_ret
  exact ⟨rfl, rfl⟩
end Go.Proofs.YtfbmjonhohebiaaGreatDoor
end
section
set_option linter.unusedVariables false
set_option linter.unusedSimpArgs false
namespace Go.Proofs.YtfbmjonhohebiaaGreatDoor
open Go.RowKit Go.Shelf Go.Proofs.YtfbmjonhohebiaaGreatDoorW.PrintWords Go.Proofs.YtfbmjonhohebiaaGreatDoorW.PrintLast Go.Proofs.YtfbmjonhohebiaaGreatDoorW.PrintMore PRecurExpands
attribute [local go_sem] Oper.semAt_some max2_int min2_int max_two min_two max_three min_three max_four min_four
def tmS (first d : Int) : Int := wrap64 (wrap64 (d * 86400) + first % 86400)
def stopB (c u upt most t cnt len : Int) : Bool := decide (upt ≤ t) || (decide (0 < c) && decide (c < cnt)) || ((u != -1) && decide (u < t)) || len == most
def expGo (first frm upt c u most : Int) : List Int → List Int → Int → List Int
  | [], out, _ => out
  | d :: ds, out, n => if stopB c u upt most (tmS first d) (n + 1) out.length = true then out else expGo first frm upt c u most ds (if frm ≤ tmS first d then out ++ [tmS first d] else out) (n + 1)
structure Keep2 (n₀ : Nat) (A B : World) : Prop where
  below : Below n₀ A B
  boxes : ∀ i, n₀ + 2 ≤ i → i < n₀ + 5 → B.heap[i]? = A.heap[i]?
theorem Keep2.trans {n₀ : Nat} {A B C : World} (h : Keep2 n₀ A B) (k : Keep2 n₀ B C) : Keep2 n₀ A C := ⟨h.below.trans k.below, fun i a b => (k.boxes i a b).trans (h.boxes i a b)⟩
theorem Keep2.of_below {n₀ : Nat} {A B : World} (hs : n₀ + 5 ≤ A.heap.size) (h : Below A.heap.size A B) : Keep2 n₀ A B := ⟨h.mono (by omega), fun i _ b => h.block i (by omega)⟩
theorem Keep2.putObj {n₀ : Nat} {w : World} (hw : n₀ + 5 ≤ w.heap.size) (W : World) (l : Nat) (o o' : Obj) (hl : w.heap.size ≤ l) (h : W.heap[l]? = some o) (hc : o.isCells = false) (hk : o.isWalk = false) : Keep2 n₀ W (W.putObj l o') :=
  ⟨belowK_b (n₀ := n₀) (w := w) (by omega) W l o o' hl h hc hk, fun i _ b => World.putObj_heap_other (by omega)⟩
theorem cells5 {W : World} {b0 b1 b2 b3 b4 : Nat} {x0 x1 x2 x3 x4 x5 x6 y1 y2 y3 y4 : Value} {t0 t1 t2 t3 t4 : TypeId} (h0 : W.heap[b0]? = some (.cells #[x0, x1, x2, x3, x4, x5, x6] t0 (0, 0))) (h1 : W.heap[b1]? = some (.cells #[y1] t1 (0, 0)))
    (h2 : W.heap[b2]? = some (.cells #[y2] t2 (0, 0))) (h3 : W.heap[b3]? = some (.cells #[y3] t3 (0, 0))) (h4 : W.heap[b4]? = some (.cells #[y4] t4 (0, 0))) :
    W.cell? ⟨b0, 0, none⟩ = some x0 ∧ W.cell? ⟨b0, 1, none⟩ = some x1 ∧ W.cell? ⟨b0, 2, none⟩ = some x2 ∧ W.cell? ⟨b0, 3, none⟩ = some x3 ∧ W.cell? ⟨b0, 4, none⟩ = some x4 ∧ W.cell? ⟨b0, 5, none⟩ = some x5 ∧ W.cell? ⟨b0, 6, none⟩ = some x6 ∧
    W.cell? ⟨b1, 0, none⟩ = some y1 ∧ W.cell? ⟨b2, 0, none⟩ = some y2 ∧ W.cell? ⟨b3, 0, none⟩ = some y3 ∧ W.cell? ⟨b4, 0, none⟩ = some y4 :=
  ⟨blk_cell h0 0, blk_cell h0 1, blk_cell h0 2, blk_cell h0 3, blk_cell h0 4, blk_cell h0 5, blk_cell h0 6, blk_cell h1 0, blk_cell h2 0, blk_cell h3 0, blk_cell h4 0⟩
theorem info_i64 : (Tryz.prog.info? 2).map (fun i => (i.zero, i.size, i.bytes)) = some (some (.int .i64 0), 1, 8) := by kernel_rfl
theorem daysL_len (hit : Int → Bool) (step lim : Int) : ∀ (n : Nat) (d : Int), (daysL hit step lim n d).length ≤ n := by
  intro n
  induction n with
  | zero => intro d; simp [daysL]
  | succ n ih =>
    intro d
    have := ih (d + step)
    simp only [daysL]
    split
    · split <;> simp <;> omega
    · simp
theorem daysV_len (a0 a1 : Int) (l4 l5 : List Int) (l6 : List S59) (first lim : Int) (h0 : 0 ≤ first) (h1 : lim ≤ 2932896) (_ : 1 ≤ a1) : (daysV a0 a1 l4 l5 l6 first lim).length ≤ 2932897 := by
  unfold daysV daysF
  refine Nat.le_trans (daysL_len _ _ _ _ _) ?_
  omega
theorem own_slice {W : World} {base : Nat} {e : TypeId} {size n : Nat} {v : Value} {xs : List Value} (h : W.ownsRow base e size v n xs) : ∃ A c, v = .slice A n c := by
  rcases h.2 with ⟨rfl, h0⟩ | ⟨g, cap, cur, rfl, _⟩
  · have hx := h.1
    obtain rfl : n = 0 := by first | exact h0 | omega
    exact ⟨_, _, rfl⟩
  · exact ⟨_, _, rfl⟩
theorem cell_one_at (w : World) (x : Value) (t : TypeId) {b : Nat} (h : b = w.heap.size) : ∀ j u, [x][j]? = some u → (w.alloc (.cells #[x] t)).cell? ((⟨b, 0, none⟩ : Addr).add j) = some u := by
  subst h; exact cell_one_new w x t
theorem set_count {W w2 : World} {B : Nat} {v u0 : Value} {n : Nat} {xs : List Value} (hw : B + 5 ≤ W.heap.size) (hv : Boxed W B 38 v) (hrow : W.ownsRow (B + 5) 2 1 v n xs) (hc : Boxed W (B + 1) 3 u0) (hb : Below B w2 W) (u : Value) :
    Boxed (W.setCell ⟨B + 1, 0, none⟩ u) B 38 v ∧ (W.setCell ⟨B + 1, 0, none⟩ u).ownsRow (B + 5) 2 1 v n xs ∧ Boxed (W.setCell ⟨B + 1, 0, none⟩ u) (B + 1) 3 u ∧ Below B w2 (W.setCell ⟨B + 1, 0, none⟩ u) ∧ Keep2 B W (W.setCell ⟨B + 1, 0, none⟩ u) ∧ KeepsOthers W (W.setCell ⟨B + 1, 0, none⟩ u) := by
  refine ⟨hv.kept (grownBy_setCell' W (B + 1) u) (by simp), own_move hrow (fun k hk => ?_), hc.set u, hb.setCell (p := ⟨B + 1, 0, none⟩) (by simp) u, ⟨(Below.refl B W).setCell (p := ⟨B + 1, 0, none⟩) (by simp) u, fun i h1 h2 => ?_⟩, KeepsOthers.setCell _ _ _⟩
  · have := own_base hrow k hk
    exact Below.heap_setCell W ⟨B + 1, 0, none⟩ u k (by simp; omega)
  · exact Below.heap_setCell W ⟨B + 1, 0, none⟩ u i (by simp; omega)
theorem app_out {W w1 w2 : World} {B : Nat} {v v' u : Value} {n m : Nat} {xs ys : List Value} {tmp : Obj} (hw : B + 5 ≤ W.heap.size) (hv : Boxed W B 38 v) (hrow : W.ownsRow (B + 5) 2 1 v n xs) (hc : Boxed W (B + 1) 3 u) (hb : Below B w2 W)
    (hown' : w1.ownsRow (B + 5) 2 1 v' m ys) (hgrow : (W.alloc tmp).grownBy w1 v.ownBlock) :
    Boxed w1 B 38 v ∧ Boxed (w1.setCell ⟨B, 0, none⟩ v') B 38 v' ∧ (w1.setCell ⟨B, 0, none⟩ v').ownsRow (B + 5) 2 1 v' m ys ∧ Boxed (w1.setCell ⟨B, 0, none⟩ v') (B + 1) 3 u ∧ Below B w2 (w1.setCell ⟨B, 0, none⟩ v') ∧ Keep2 B W (w1.setCell ⟨B, 0, none⟩ v') ∧ KeepsOthers W (w1.setCell ⟨B, 0, none⟩ v') := by
  obtain ⟨h1, h2, _, h4, h5⟩ := hv.appended (n₀ := B) (by decide) (own_weaken hrow (by omega)) (by omega) (Nat.le_refl _) (own_weaken hown' (by omega)) hgrow
  have far : ∀ i, i < B + 5 → i ≠ B → (w1.setCell ⟨B, 0, none⟩ v').heap[i]? = W.heap[i]? := by
    intro i hi hne
    rw [Below.heap_setCell w1 ⟨B, 0, none⟩ v' i (by simpa using hne), hgrow.block i (by simp; omega) (fun e => ?_), Below.heap_alloc W tmp i (by omega)]
    have := own_base hrow i e.symm
    omega
  refine ⟨h1, h2, own_move hown' (fun k hk => ?_), (far (B + 1) (by omega) (by omega)).trans hc, hb.trans h5, ⟨h5, fun i a b => far i b (by omega)⟩, h4⟩
  have := own_base hown' k hk
  exact Below.heap_setCell w1 ⟨B, 0, none⟩ v' k (by simp; omega)
theorem expGo_len (first frm upt c u most : Int) : ∀ (ds out : List Int) (n : Int), (expGo first frm upt c u most ds out n).length ≤ out.length + ds.length := by
  intro ds
  induction ds with
  | nil => intro out n; simp [expGo]
  | cons d ds ih =>
    intro out n
    simp only [expGo]
    split
    · exact Nat.le_add_right _ _
    · refine Nat.le_trans (ih _ _) ?_
      split <;> simp <;> omega
def expL (first frm upt c u most : Int) (pre : List Int) : List Int := expGo first frm upt c u most pre [] 0
def expOn (first frm upt c u most : Int) (pre : List Int) : Prop := ∀ rest, expGo first frm upt c u most (pre ++ rest) [] 0 = expGo first frm upt c u most rest (expL first frm upt c u most pre) pre.length
theorem expL_len (first frm upt c u most : Int) (pre : List Int) : (expL first frm upt c u most pre).length ≤ pre.length := by
  have := expGo_len first frm upt c u most pre [] 0
  simpa [expL] using this
theorem exp_stop {first frm upt c u most : Int} {pre : List Int} {x : Int} (h : expOn first frm upt c u most pre)
    (hs : stopB c u upt most (tmS first x) ((pre.length : Int) + 1) (expL first frm upt c u most pre).length = true) :
    expL first frm upt c u most (pre ++ [x]) = expL first frm upt c u most pre ∧ ∀ rest, expGo first frm upt c u most ((pre ++ [x]) ++ rest) [] 0 = expL first frm upt c u most (pre ++ [x]) := by
  have key : ∀ rest, expGo first frm upt c u most (pre ++ (x :: rest)) [] 0 = expL first frm upt c u most pre := by
    intro rest
    rw [h (x :: rest)]
    simp only [expGo]
    rw [if_pos hs]
  have e1 : expL first frm upt c u most (pre ++ [x]) = expL first frm upt c u most pre := by
    rw [← key []]; rfl
  exact ⟨e1, fun rest => by rw [e1, ← key rest]; simp⟩
theorem exp_go {first frm upt c u most : Int} {pre : List Int} {x : Int} (h : expOn first frm upt c u most pre)
    (hs : stopB c u upt most (tmS first x) ((pre.length : Int) + 1) (expL first frm upt c u most pre).length = false) :
    expL first frm upt c u most (pre ++ [x]) = (if frm ≤ tmS first x then expL first frm upt c u most pre ++ [tmS first x] else expL first frm upt c u most pre) ∧ expOn first frm upt c u most (pre ++ [x]) := by
  have key : ∀ rest, expGo first frm upt c u most (pre ++ (x :: rest)) [] 0 = expGo first frm upt c u most rest (if frm ≤ tmS first x then expL first frm upt c u most pre ++ [tmS first x] else expL first frm upt c u most pre) ((pre.length : Int) + 1) := by
    intro rest
    rw [h (x :: rest)]
    simp only [expGo]
    rw [if_neg (by rw [hs]; decide)]
  have e1 : expL first frm upt c u most (pre ++ [x]) = (if frm ≤ tmS first x then expL first frm upt c u most pre ++ [tmS first x] else expL first frm upt c u most pre) := by
    have := key []
    simp only [expGo] at this
    exact this
  refine ⟨e1, fun rest => ?_⟩
  have := key rest
  rw [List.append_assoc, List.singleton_append, this, e1]
  simp
set_option maxRecDepth 100000 in
set_option maxHeartbeats 8000000 in
theorem recur_Expand_ok (a0 a1 a2 a3 : Int) (A4 A5 A6 : Option Addr) (c4 c5 c6 : Nat) (l4 l5 : List Int) (l6 : List S59) (hrt : RightP a0 a1 a2 a3 l4 l5 l6) (first frm upt most : Int) (w : World)
    (hr4 : Kd.C (Kd.int .i64) w A4 l4.length l4) (hc4 : l4.length ≤ c4) (hr5 : Kd.C (Kd.int .i64) w A5 l5.length l5) (hc5 : l5.length ≤ c5) (hr6 : Kd.C k59 w A6 l6.length l6) (hc6 : l6.length ≤ c6)
    (hl4 : l4.length ≤ 1000000000) (hl5 : l5.length ≤ 1000000000) (hl6 : l6.length ≤ 1000000000)
    (t1 : timeS first = true) (t2 : timeS frm = true) (t3 : timeS upt = true) (hs : ¬ 631152000 < upt - first) (hm : ¬ most < 1) (hn : ¬ 1000 < most) :
    Calls Tryz.prog 16 #[.agg #[.int .i64 a0, .int .i64 a1, .int .i64 a2, .int .i64 a3, .slice A4 l4.length c4, .slice A5 l5.length c5, .slice A6 l6.length c6], .int .i64 first, .int .i64 frm, .int .i64 upt, .int .i64 most] w fun e w' =>
      ∃ v, e = .returned (.tuple #[v, .int .i64 0]) ∧ w'.ownsRow w.heap.size 2 1 v (expGo first frm upt a2 a3 most (daysV a0 a1 l4 l5 l6 (first / 86400) (upt / 86400)) [] 0).length ((expGo first frm upt a2 a3 most (daysV a0 a1 l4 l5 l6 (first / 86400) (upt / 86400)) [] 0).map (.int .i64)) ∧ Below w.heap.size w w' := by
  have HR4 := Aside0.mk hr4
  have HR5 := Aside0.mk hr5
  have HR6 := Aside0.mk hr6
  have HRT := Aside0.mk hrt
  clear hr4 hr5 hr6 hrt
  obtain ⟨q1, q2⟩ := (timeS_iff _).mp t1
  obtain ⟨q3, q4⟩ := (timeS_iff _).mp t3
  obtain ⟨q5, q6⟩ := (timeS_iff _).mp t2
  have hd : decide (631152000 < upt - first) = false := decide_eq_false hs
  have he : decide (most < 1) = false := decide_eq_false hm
  have hg : decide (1000 < most) = false := decide_eq_false hn
  clear hs hm hn
  have HB := Aside0.mk ((((((Below.refl w.heap.size w).alloc (Nat.le_refl _) (.cells #[.int .i64 a0, .int .i64 a1, .int .i64 a2, .int .i64 a3, .slice A4 l4.length c4, .slice A5 l5.length c5, .slice A6 l6.length c6] 25)).alloc (by simp <;> omega) (.cells #[.int .i64 first] 2)).alloc (by simp <;> omega) (.cells #[.int .i64 frm] 2)).alloc (by simp <;> omega) (.cells #[.int .i64 upt] 2)).alloc (by simp <;> omega) (.cells #[.int .i64 most] 3))
  have hz : w.heap.size + 4 < (((((w.alloc (.cells #[.int .i64 a0, .int .i64 a1, .int .i64 a2, .int .i64 a3, .slice A4 l4.length c4, .slice A5 l5.length c5, .slice A6 l6.length c6] 25)).alloc (.cells #[.int .i64 first] 2)).alloc (.cells #[.int .i64 frm] 2)).alloc (.cells #[.int .i64 upt] 2)).alloc (.cells #[.int .i64 most] 3)).heap.size := by simp <;> omega
  have K0 : Aside0 ((((((w.alloc (.cells #[.int .i64 a0, .int .i64 a1, .int .i64 a2, .int .i64 a3, .slice A4 l4.length c4, .slice A5 l5.length c5, .slice A6 l6.length c6] 25)).alloc (.cells #[.int .i64 first] 2)).alloc (.cells #[.int .i64 frm] 2)).alloc (.cells #[.int .i64 upt] 2)).alloc (.cells #[.int .i64 most] 3)).heap[w.heap.size]? = some (.cells #[.int .i64 a0, .int .i64 a1, .int .i64 a2, .int .i64 a3, .slice A4 l4.length c4, .slice A5 l5.length c5, .slice A6 l6.length c6] 25)) := ⟨by have h := blk_alloc (blk_alloc (blk_alloc (blk_alloc (blk_new w (.cells #[.int .i64 a0, .int .i64 a1, .int .i64 a2, .int .i64 a3, .slice A4 l4.length c4, .slice A5 l5.length c5, .slice A6 l6.length c6] 25)) (.cells #[.int .i64 first] 2)) (.cells #[.int .i64 frm] 2)) (.cells #[.int .i64 upt] 2)) (.cells #[.int .i64 most] 3); simpa using h⟩
  have K1 : Aside0 ((((((w.alloc (.cells #[.int .i64 a0, .int .i64 a1, .int .i64 a2, .int .i64 a3, .slice A4 l4.length c4, .slice A5 l5.length c5, .slice A6 l6.length c6] 25)).alloc (.cells #[.int .i64 first] 2)).alloc (.cells #[.int .i64 frm] 2)).alloc (.cells #[.int .i64 upt] 2)).alloc (.cells #[.int .i64 most] 3)).heap[w.heap.size + 1]? = some (.cells #[.int .i64 first] 2)) := ⟨by have h := blk_alloc (blk_alloc (blk_alloc (blk_new (w.alloc (.cells #[.int .i64 a0, .int .i64 a1, .int .i64 a2, .int .i64 a3, .slice A4 l4.length c4, .slice A5 l5.length c5, .slice A6 l6.length c6] 25)) (.cells #[.int .i64 first] 2)) (.cells #[.int .i64 frm] 2)) (.cells #[.int .i64 upt] 2)) (.cells #[.int .i64 most] 3); simpa using h⟩
  have K2 : Aside0 ((((((w.alloc (.cells #[.int .i64 a0, .int .i64 a1, .int .i64 a2, .int .i64 a3, .slice A4 l4.length c4, .slice A5 l5.length c5, .slice A6 l6.length c6] 25)).alloc (.cells #[.int .i64 first] 2)).alloc (.cells #[.int .i64 frm] 2)).alloc (.cells #[.int .i64 upt] 2)).alloc (.cells #[.int .i64 most] 3)).heap[w.heap.size + 1 + 1]? = some (.cells #[.int .i64 frm] 2)) := ⟨by have h := blk_alloc (blk_alloc (blk_new ((w.alloc (.cells #[.int .i64 a0, .int .i64 a1, .int .i64 a2, .int .i64 a3, .slice A4 l4.length c4, .slice A5 l5.length c5, .slice A6 l6.length c6] 25)).alloc (.cells #[.int .i64 first] 2)) (.cells #[.int .i64 frm] 2)) (.cells #[.int .i64 upt] 2)) (.cells #[.int .i64 most] 3); simpa using h⟩
  have K3 : Aside0 ((((((w.alloc (.cells #[.int .i64 a0, .int .i64 a1, .int .i64 a2, .int .i64 a3, .slice A4 l4.length c4, .slice A5 l5.length c5, .slice A6 l6.length c6] 25)).alloc (.cells #[.int .i64 first] 2)).alloc (.cells #[.int .i64 frm] 2)).alloc (.cells #[.int .i64 upt] 2)).alloc (.cells #[.int .i64 most] 3)).heap[w.heap.size + 1 + 1 + 1]? = some (.cells #[.int .i64 upt] 2)) := ⟨by have h := blk_alloc (blk_new (((w.alloc (.cells #[.int .i64 a0, .int .i64 a1, .int .i64 a2, .int .i64 a3, .slice A4 l4.length c4, .slice A5 l5.length c5, .slice A6 l6.length c6] 25)).alloc (.cells #[.int .i64 first] 2)).alloc (.cells #[.int .i64 frm] 2)) (.cells #[.int .i64 upt] 2)) (.cells #[.int .i64 most] 3); simpa using h⟩
  have K4 : Aside0 ((((((w.alloc (.cells #[.int .i64 a0, .int .i64 a1, .int .i64 a2, .int .i64 a3, .slice A4 l4.length c4, .slice A5 l5.length c5, .slice A6 l6.length c6] 25)).alloc (.cells #[.int .i64 first] 2)).alloc (.cells #[.int .i64 frm] 2)).alloc (.cells #[.int .i64 upt] 2)).alloc (.cells #[.int .i64 most] 3)).heap[w.heap.size + 1 + 1 + 1 + 1]? = some (.cells #[.int .i64 most] 3)) := ⟨by have h := blk_new ((((w.alloc (.cells #[.int .i64 a0, .int .i64 a1, .int .i64 a2, .int .i64 a3, .slice A4 l4.length c4, .slice A5 l5.length c5, .slice A6 l6.length c6] 25)).alloc (.cells #[.int .i64 first] 2)).alloc (.cells #[.int .i64 frm] 2)).alloc (.cells #[.int .i64 upt] 2)) (.cells #[.int .i64 most] 3); simpa using h⟩
  refine (callsIn_wide (n := 5)).1 ?_
  refine callsIn_of_wp_marks Tryz.func16 rfl trivial ?_ rfl
  simp only [Tryz.ntmps16, List.size_toArray, List.length_cons, List.length_nil, Nat.reduceAdd, Nat.reduceSub, Array.replicate_succ, Array.replicate_zero, List.push_toArray, List.append_toArray, List.nil_append, List.cons_append]
  gi_wp2
  refine wpIn_wide.2 (wp_scope_straight ((wpIn_wide (n := 5)).1 ?_))
  gi_wp2_with (first
    | (refine ⟨trivial, ?_⟩; gi_at_call 24; ((with_reducible refine (callsIn_wide.2 (recur_Right_c a0 a1 a2 a3 A4 A5 A6 c4 c5 c6 l4 l5 l6 true (by simp [HRT.out]) _ (Kd.C_below HR4.out HB.out) hc4 (Kd.C_below HR5.out HB.out) hc5 (Kd.C_below HR6.out HB.out) hc6 hl4 hl5 hl6)).mono ?_); rintro e w2 ⟨rfl, hb2⟩; have hz : w.heap.size + 4 < w2.heap.size := Nat.lt_of_lt_of_le hz hb2.size; have hz0 : w.heap.size < w2.heap.size := (by omega); have hz1 : w.heap.size + 1 < w2.heap.size := (by omega); have hz2 : w.heap.size + 1 + 1 < w2.heap.size := (by omega); have hz3 : w.heap.size + 1 + 1 + 1 < w2.heap.size := (by omega); have hz4 : w.heap.size + 1 + 1 + 1 + 1 < w2.heap.size := (by omega); have HB' := Aside0.mk (HB.out.trans (hb2.mono HB.out.size)); have L0 := Aside0.mk (blk_below K0.out hb2); have L1 := Aside0.mk (blk_below K1.out hb2); have L2 := Aside0.mk (blk_below K2.out hb2); have L3 := Aside0.mk (blk_below K3.out hb2); have L4 := Aside0.mk (blk_below K4.out hb2); clear K0 K1 K2 K3 K4; have K0 := L0; have K1 := L1; have K2 := L2; have K3 := L3; have K4 := L4; clear L0 L1 L2 L3 L4; (try clear k0 k1 k2 k3 k4 k5 k6 k7 k8 k9 k10); obtain ⟨k0, k1, k2, k3, k4, k5, k6, k7, k8, k9, k10⟩ := cells5 K0.out K1.out K2.out K3.out K4.out; clear HB hb2; have HB := HB'; clear HB'))
    | (refine ⟨trivial, ?_⟩; gi_at_call 29; ((with_reducible refine (callsIn_wide.2 (when_Right_c _ _)).mono ?_); rintro e w2 ⟨rfl, hb2⟩; have hz : w.heap.size + 4 < w2.heap.size := Nat.lt_of_lt_of_le hz hb2.size; have hz0 : w.heap.size < w2.heap.size := (by omega); have hz1 : w.heap.size + 1 < w2.heap.size := (by omega); have hz2 : w.heap.size + 1 + 1 < w2.heap.size := (by omega); have hz3 : w.heap.size + 1 + 1 + 1 < w2.heap.size := (by omega); have hz4 : w.heap.size + 1 + 1 + 1 + 1 < w2.heap.size := (by omega); have HB' := Aside0.mk (HB.out.trans (hb2.mono HB.out.size)); have L0 := Aside0.mk (blk_below K0.out hb2); have L1 := Aside0.mk (blk_below K1.out hb2); have L2 := Aside0.mk (blk_below K2.out hb2); have L3 := Aside0.mk (blk_below K3.out hb2); have L4 := Aside0.mk (blk_below K4.out hb2); clear K0 K1 K2 K3 K4; have K0 := L0; have K1 := L1; have K2 := L2; have K3 := L3; have K4 := L4; clear L0 L1 L2 L3 L4; (try clear k0 k1 k2 k3 k4 k5 k6 k7 k8 k9 k10); obtain ⟨k0, k1, k2, k3, k4, k5, k6, k7, k8, k9, k10⟩ := cells5 K0.out K1.out K2.out K3.out K4.out; clear HB hb2; have HB := HB'; clear HB')))
  refine wpIn_wide.2 (wp_label ((show _ from ?_)))
  gi_wp2_with (refine ⟨trivial, ?_⟩; gi_at_call 30; refine (recur_days _ a0 a1 a2 a3 _ _ _ _ _ _).mono ?_; rintro e w3 ⟨rfl, rfl⟩)
  have hn0 : w.heap.size ≤ w2.heap.size := HB.out.size
  obtain ⟨all, hall⟩ : ∃ l, l = daysV a0 a1 l4 l5 l6 (first / 86400) (upt / 86400) := ⟨_, rfl⟩
  have hN : all.length ≤ 2932897 := by rw [hall]; exact daysV_len _ _ _ _ _ _ _ (by omega) (by omega) HRT.out.i0
  have HALL := Aside0.mk hall
  clear hall
  obtain ⟨i0, hi, hz0', hz1', hz2'⟩ := info_parts info_i64
  obtain ⟨W3, hW3⟩ : ∃ W3 : World, W3 = (((((w2.alloc (.cells #[.slice none 0 0] 38)).alloc (.cells #[.int .i64 0] 3)).alloc (.cells #[.int .i64 a0, .int .i64 a1, .int .i64 a2, .int .i64 a3, .slice A4 l4.length c4, .slice A5 l5.length c5, .slice A6 l6.length c6] 25)).alloc (.cells #[.int .i64 (first / 86400)] 2)).alloc (.cells #[.int .i64 (upt / 86400)] 2)) := ⟨_, rfl⟩
  have bO : Boxed W3 w2.heap.size 38 (.slice none 0 0) := by rw [hW3]; exact ((((Boxed.new w2 38 _).alloc _).alloc _).alloc _).alloc _
  have bC : Boxed W3 (w2.heap.size + 1) 3 (.int .i64 0) := by
    have h := ((Boxed.new (w2.alloc (.cells #[.slice none 0 0] 38)) 3 (.int .i64 0)).alloc (.cells #[.int .i64 a0, .int .i64 a1, .int .i64 a2, .int .i64 a3, .slice A4 l4.length c4, .slice A5 l5.length c5, .slice A6 l6.length c6] 25)).alloc (.cells #[.int .i64 (first / 86400)] 2) |>.alloc (.cells #[.int .i64 (upt / 86400)] 2)
    rw [World.size_alloc] at h; rw [hW3]; exact h
  have sz3 : W3.heap.size = w2.heap.size + 5 := by rw [hW3]; simp
  have hb3 : Below w2.heap.size w2 W3 := by
    rw [hW3]
    exact (((((Below.refl _ w2).alloc (Nat.le_refl _) _).alloc (by simp) _).alloc (by simp <;> omega) _).alloc (by simp <;> omega) _).alloc (by simp <;> omega) _
  have hrw : ∀ {W W' : World}, Below W3.heap.size W3 W → Keep2 w2.heap.size W W' → Below w.heap.size w W' := fun h1 h2 => ((HB.out.trans (hb3.mono hn0)).trans (h1.mono (by omega))).trans (h2.below.mono hn0)
  have f2 : W3.heap[w2.heap.size + 1 + 1]? = some (.cells #[.int .i64 a0, .int .i64 a1, .int .i64 a2, .int .i64 a3, .slice A4 l4.length c4, .slice A5 l5.length c5, .slice A6 l6.length c6] 25 (0, 0)) := by
    have h := blk_alloc (blk_alloc (blk_new ((w2.alloc (.cells #[.slice none 0 0] 38)).alloc (.cells #[.int .i64 0] 3)) (.cells #[.int .i64 a0, .int .i64 a1, .int .i64 a2, .int .i64 a3, .slice A4 l4.length c4, .slice A5 l5.length c5, .slice A6 l6.length c6] 25)) (.cells #[.int .i64 (first / 86400)] 2)) (.cells #[.int .i64 (upt / 86400)] 2)
    rw [hW3]; simpa using h
  have f3 : W3.heap[w2.heap.size + 1 + 1 + 1]? = some (.cells #[.int .i64 (first / 86400)] 2 (0, 0)) := by
    have h := blk_alloc (blk_new (((w2.alloc (.cells #[.slice none 0 0] 38)).alloc (.cells #[.int .i64 0] 3)).alloc (.cells #[.int .i64 a0, .int .i64 a1, .int .i64 a2, .int .i64 a3, .slice A4 l4.length c4, .slice A5 l5.length c5, .slice A6 l6.length c6] 25)) (.cells #[.int .i64 (first / 86400)] 2)) (.cells #[.int .i64 (upt / 86400)] 2)
    rw [hW3]; simpa using h
  have f4 : W3.heap[w2.heap.size + 1 + 1 + 1 + 1]? = some (.cells #[.int .i64 (upt / 86400)] 2 (0, 0)) := by
    have h := blk_new ((((w2.alloc (.cells #[.slice none 0 0] 38)).alloc (.cells #[.int .i64 0] 3)).alloc (.cells #[.int .i64 a0, .int .i64 a1, .int .i64 a2, .int .i64 a3, .slice A4 l4.length c4, .slice A5 l5.length c5, .slice A6 l6.length c6] 25)).alloc (.cells #[.int .i64 (first / 86400)] 2)) (.cells #[.int .i64 (upt / 86400)] 2)
    rw [hW3]; simpa using h
  have hseq : SeqStopsK Fence.wide 4 Tryz.prog 65 #[.pointer (some ⟨w2.heap.size + 1 + 1, 0, none⟩), .pointer (some ⟨w2.heap.size + 1 + 1 + 1, 0, none⟩), .pointer (some ⟨w2.heap.size + 1 + 1 + 1 + 1, 0, none⟩)] (fun x : Int => #[.int .i64 x]) (Keep2 w2.heap.size) (fun ys => ys = all) (fun pre => pre <+: all) all.length W3 := by
    intro l J Jx W hW hJ _ hY h0
    rw [HALL.out] at hY ⊢
    refine recur_days1 4 l (w2.heap.size + 5) _ _ _ (Keep2 w2.heap.size) Keep2.trans (fun hs h => Keep2.of_below hs h) (fun h => h.below.size) a0 a1 a2 a3 A4 A5 A6 c4 c5 c6 l4 l5 l6 (first / 86400) (upt / 86400) J Jx (by omega) hc4 hc5 hc6 hl4 hl5 hl6
      HRT.out.f0 HRT.out.f1 HRT.out.i0 HRT.out.i1 (by omega) (by omega) (by omega) (by omega) hY W (by have := hW.size; omega) hJ
      (fun W' k => Kd.C_below HR4.out (hrw hW k)) (fun W' k => Kd.C_below HR5.out (hrw hW k)) (fun W' k => Kd.C_below HR6.out (hrw hW k))
      (fun W' k => (k.boxes _ (by omega) (by omega)).trans ((hW.block _ (by omega)).trans f2)) (fun W' k => (k.boxes _ (by omega) (by omega)).trans ((hW.block _ (by omega)).trans f3)) (fun W' k => (k.boxes _ (by omega) (by omega)).trans ((hW.block _ (by omega)).trans f4)) h0
  have E1 : expOn first frm upt a2 a3 most [] := fun rest => by simp [expL, expGo]
  have E0 : expL first frm upt a2 a3 most [] = [] := rfl
  rw [← hW3]
  have HW3 := Aside0.mk hW3
  clear hW3
  refine wpIn_rangeFunc_ownG rfl (by omega) (gf := 65) (lb := #[.pointer (some ⟨w2.heap.size + 1 + 1, 0, none⟩), .pointer (some ⟨w2.heap.size + 1 + 1 + 1, 0, none⟩), .pointer (some ⟨w2.heap.size + 1 + 1 + 1 + 1, 0, none⟩)]) rfl trivial (enters_of Tryz.func65 (by kernel_rfl) rfl)
    hseq Keep2.trans (fun W l o o' h1 h2 h3 h4 => Keep2.putObj (w := W3) (by omega) W l o o' h1 h2 h3 h4) (Below.refl _ _) (fun _ => rfl)
    (fun pre W => ((((∃ v, Boxed W w2.heap.size 38 v ∧ W.ownsRow (w2.heap.size + 5) 2 1 v (expL first frm upt a2 a3 most pre).length ((expL first frm upt a2 a3 most pre).map (.int .i64)) ∧ True) ∧ Boxed W (w2.heap.size + 1) 3 (.int .i64 pre.length)) ∧ expOn first frm upt a2 a3 most pre) ∧ (Below w2.heap.size w2 W ∧ w2.heap.size + 5 ≤ W.heap.size)))
    (fun c pre W => (((∃ v, Boxed W w2.heap.size 38 v ∧ W.ownsRow (w2.heap.size + 5) 2 1 v (expL first frm upt a2 a3 most pre).length ((expL first frm upt a2 a3 most pre).map (.int .i64)) ∧ True) ∧ (c = .exit 1 ∧ ∀ rest, expGo first frm upt a2 a3 most (pre ++ rest) [] 0 = expL first frm upt a2 a3 most pre)) ∧ Below w2.heap.size w2 W))
    (OwnFrom.and (OwnFrom.and (OwnFrom.and (Own.from (holdsRow_own (w2.heap.size + 5) w2.heap.size 38 2 1 (fun pre => (expL first frm upt a2 a3 most pre).length) (fun pre => (expL first frm upt a2 a3 most pre).map (.int .i64)) (fun _ _ => True)) _) (Own.from (boxed_own _ _ _) _)) (ownFrom_pure _ _)) (OwnFrom.and (ownFrom_below (Nat.le_refl _) (by omega)) (fun _ _ _ _ hs hg _ => Nat.le_trans hs hg.size)))
    (fun c => OwnFrom.and (OwnFrom.and (Own.from (holdsRow_own (w2.heap.size + 5) w2.heap.size 38 2 1 (fun pre => (expL first frm upt a2 a3 most pre).length) (fun pre => (expL first frm upt a2 a3 most pre).map (.int .i64)) (fun _ _ => True)) _) (ownFrom_pure _ _)) (ownFrom_below (Nat.le_refl _) (by omega)))
    ⟨⟨⟨⟨_, bO, World.ownsRow_nil _ _ _ _, trivial⟩, bC⟩, E1⟩, hb3, by omega⟩
    (fun x => { tmps := #[Value.agg #[Value.int IntKind.i64 a0, Value.int IntKind.i64 a1, Value.int IntKind.i64 a2, Value.int IntKind.i64 a3, Value.slice A4 l4.length c4, Value.slice A5 l5.length c5, Value.slice A6 l6.length c6], Value.int IntKind.i64 first, Value.int IntKind.i64 frm, Value.int IntKind.i64 upt, Value.int IntKind.i64 most, Value.pointer (some { block := w.heap.size, off := 0 }), Value.pointer (some { block := w.heap.size + 1, off := 0 }), Value.pointer (some { block := w.heap.size + 1 + 1, off := 0 }), Value.pointer (some { block := w.heap.size + 1 + 1 + 1, off := 0 }), Value.pointer (some { block := w.heap.size + 1 + 1 + 1 + 1, off := 0 }), Value.slice none 0 0, Value.int IntKind.i64 0, Value.pointer (some { block := w2.heap.size, off := 0 }), Value.pointer (some { block := w2.heap.size + 1, off := 0 }), Value.int IntKind.i64 x, undef, Value.bool false, Value.agg #[Value.int IntKind.i64 a0, Value.int IntKind.i64 a1, Value.int IntKind.i64 a2, Value.int IntKind.i64 a3, Value.slice A4 l4.length c4, Value.slice A5 l5.length c5, Value.slice A6 l6.length c6], Value.bool true, Value.bool false, Value.bool false, Value.int IntKind.i64 first, Value.bool true, Value.bool false, Value.bool false, Value.int IntKind.i64 frm, Value.bool true, Value.bool false, Value.bool false, Value.bool false, Value.int IntKind.i64 upt, Value.bool true, Value.bool false, Value.bool false, Value.bool false, Value.int IntKind.i64 upt, Value.int IntKind.i64 first, Value.int IntKind.i64 (upt - first), Value.bool false, Value.bool false, Value.int IntKind.i64 most, Value.bool false, Value.bool false, Value.bool false, Value.int IntKind.i64 most, Value.bool false, Value.bool false, Value.agg #[Value.int IntKind.i64 a0, Value.int IntKind.i64 a1, Value.int IntKind.i64 a2, Value.int IntKind.i64 a3, Value.slice A4 l4.length c4, Value.slice A5 l5.length c5, Value.slice A6 l6.length c6], Value.int IntKind.i64 first, Value.int IntKind.i64 (first / 86400), Value.int IntKind.i64 upt, Value.int IntKind.i64 (upt / 86400), Value.func (Fn.func 65) #[] #[Value.pointer (some { block := w2.heap.size + 1 + 1, off := 0 }), Value.pointer (some { block := w2.heap.size + 1 + 1 + 1, off := 0 }), Value.pointer (some { block := w2.heap.size + 1 + 1 + 1 + 1, off := 0 })], Value.int IntKind.i64 x, undef, undef, undef, undef, undef, undef, undef, undef, undef, undef, undef, undef, undef, undef, undef, undef, undef, undef, undef, undef, undef, undef, undef, undef, undef, undef, undef, undef, undef, undef, undef, undef, undef, undef, undef, undef, undef, undef, undef, undef, undef, undef, undef, undef, undef, undef, undef, undef], defers := [] }) ?assign ?body ?done ?stop
  case assign =>
    intro l x W K hK
    gi_wp2
    exact hK
  case body =>
    rintro l pre x W ⟨⟨⟨⟨v, hv, hrow, _⟩, hcn⟩, hon⟩, hbl, hW⟩ hlt
    have hc := hv.cell
    have hcf := hv.frozen
    have hcc := hcn.cell
    have hccf := hcn.frozen
    have hEl := expL_len first frm upt a2 a3 most pre
    have HON := Aside0.mk hon
    have HV := Aside0.mk hv
    have HCN := Aside0.mk hcn
    clear hv hcn hon
    have g0 := blk_cell ((hbl.block _ hz0).trans K0.out) 2
    have g1 := blk_cell ((hbl.block _ hz0).trans K0.out) 3
    have g2 := blk_cell ((hbl.block _ hz1).trans K1.out) 0
    have g3 := blk_cell ((hbl.block _ hz2).trans K2.out) 0
    have g4 := blk_cell ((hbl.block _ hz3).trans K3.out) 0
    have g5 := blk_cell ((hbl.block _ hz4).trans K4.out) 0
    simp at g0 g1 g2 g3 g4 g5
    clear k0 k1 k2 k3 k4 k5 k6 k7 k8 k9 k10 f2 f3 f4 hseq hrw E0 bO bC
    obtain ⟨A, cv, rfl⟩ := own_slice hrow
    have S := Aside0.mk (set_count hW HV.out hrow HCN.out hbl (.int .i64 ((pre.length : Int) + 1)))
    clear hrow
    have P2 : decide (0 < a2) = false ∨ (decide (0 < a2) = true ∧ decide (a2 < (pre.length : Int) + 1) = false) ∨ (decide (0 < a2) = true ∧ decide (a2 < (pre.length : Int) + 1) = true) := by
      cases decide (0 < a2) <;> cases decide (a2 < (pre.length : Int) + 1) <;> simp
    have P3 : (a3 != -1) = false ∨ ((a3 != -1) = true ∧ decide (a3 < wrap64 (wrap64 (x * 86400) + first % 86400)) = false) ∨ ((a3 != -1) = true ∧ decide (a3 < wrap64 (wrap64 (x * 86400) + first % 86400)) = true) := by
      cases (a3 != -1) <;> cases decide (a3 < wrap64 (wrap64 (x * 86400) + first % 86400)) <;> simp
    have P4 : (((expL first frm upt a2 a3 most pre).length : Int) == most) = true ∨ (((expL first frm upt a2 a3 most pre).length : Int) == most) = false := by
      cases (((expL first frm upt a2 a3 most pre).length : Int) == most) <;> simp
    by_cases p1 : upt ≤ wrap64 (wrap64 (x * 86400) + first % 86400)
    · clear P2 P3 P4
      have hst : stopB a2 a3 upt most (tmS first x) ((pre.length : Int) + 1) (expL first frm upt a2 a3 most pre).length = true := by unfold stopB tmS; simp [p1]
      obtain ⟨e1, e2⟩ := exp_stop HON.out hst
      have ES := Aside0.mk (And.intro e1 e2)
      clear e1 e2 hst
      gi_wp2
      exact ⟨S.out.2.2.2.2.2.from _, ⟨⟨_, S.out.1, by rw [ES.out.1]; exact S.out.2.1, trivial⟩, rfl, ES.out.2⟩, S.out.2.2.2.1⟩
    · have q1 : decide (upt ≤ wrap64 (wrap64 (x * 86400) + first % 86400)) = false := decide_eq_false p1
      rcases P2 with h2 | ⟨h2, h2'⟩ | ⟨h2, h2'⟩
      ·
        rcases P3 with h3 | ⟨h3, h3'⟩ | ⟨h3, h3'⟩
        · rcases P4 with h4 | h4
          · have hst : stopB a2 a3 upt most (tmS first x) ((pre.length : Int) + 1) (expL first frm upt a2 a3 most pre).length = true := by unfold stopB tmS; simp [q1, h2, h3, h4]
            obtain ⟨e1, e2⟩ := exp_stop HON.out hst
            have ES := Aside0.mk (And.intro e1 e2)
            clear e1 e2 hst
            gi_wp2
            exact ⟨S.out.2.2.2.2.2.from _, ⟨⟨_, S.out.1, by rw [ES.out.1]; exact S.out.2.1⟩, rfl, ES.out.2⟩, S.out.2.2.2.1⟩
          · have hst : stopB a2 a3 upt most (tmS first x) ((pre.length : Int) + 1) (expL first frm upt a2 a3 most pre).length = false := by unfold stopB tmS; simp [q1, h2, h3, h4]
            obtain ⟨e1, e2⟩ := exp_go HON.out hst
            by_cases p5 : frm ≤ wrap64 (wrap64 (x * 86400) + first % 86400)
            · rw [if_pos (by unfold tmS; exact p5)] at e1
              have ES := Aside0.mk (And.intro e1 e2)
              clear e1 e2 hst
              gi_wp2_with (gi_at_builtin; refine wpListIn_append_own _ rfl _ _ 38 rfl (w2.heap.size + 5) 2 i0 (.int .i64 0) 1 8 Tryz.underlying38 hi hz0' hz1' hz2' rfl (by decide) _ _ _ rfl (S.out.2.1.alloc _) ⟨W.heap.size, 0, none⟩ 1 1 [.int .i64 (wrap64 (wrap64 (x * 86400) + first % 86400))] rfl rfl (cell_one_at _ _ _ (by simp)) (by simp [Value.oneCell']) (by unfold maxLen; omega) (by omega) (by simp; omega) ?_; intro v' w1 hown' hgrow _; obtain ⟨g', cap', rfl⟩ := ownsRow_succ hown'; have T := Aside0.mk (app_out (by simp; omega) S.out.1 S.out.2.1 S.out.2.2.1 S.out.2.2.2.1 hown' hgrow); have hc1 := T.out.1.cell; have hf1 := T.out.1.frozen; clear hown' hgrow)
              exact ⟨(S.out.2.2.2.2.2.trans T.out.2.2.2.2.2.2).from _, S.out.2.2.2.2.1.trans T.out.2.2.2.2.2.1, ⟨⟨⟨_, T.out.2.1, by rw [ES.out.1]; simpa [tmS] using T.out.2.2.1⟩, by simpa using T.out.2.2.2.1⟩, ES.out.2⟩, T.out.2.2.2.2.1, Nat.le_trans hW (Nat.le_trans S.out.2.2.2.2.1.below.size T.out.2.2.2.2.2.1.below.size)⟩
            · rw [if_neg (by unfold tmS; exact p5)] at e1
              have ES := Aside0.mk (And.intro e1 e2)
              clear e1 e2 hst
              gi_wp2
              exact ⟨S.out.2.2.2.2.2.from _, S.out.2.2.2.2.1, ⟨⟨⟨_, S.out.1, by rw [ES.out.1]; exact S.out.2.1⟩, by simpa using S.out.2.2.1⟩, ES.out.2⟩, S.out.2.2.2.1, Nat.le_trans hW S.out.2.2.2.2.1.below.size⟩
        · rcases P4 with h4 | h4
          · have hst : stopB a2 a3 upt most (tmS first x) ((pre.length : Int) + 1) (expL first frm upt a2 a3 most pre).length = true := by unfold stopB tmS; simp [q1, h2, h3, h3', h4]
            obtain ⟨e1, e2⟩ := exp_stop HON.out hst
            have ES := Aside0.mk (And.intro e1 e2)
            clear e1 e2 hst
            gi_wp2
            exact ⟨S.out.2.2.2.2.2.from _, ⟨⟨_, S.out.1, by rw [ES.out.1]; exact S.out.2.1⟩, rfl, ES.out.2⟩, S.out.2.2.2.1⟩
          · have hst : stopB a2 a3 upt most (tmS first x) ((pre.length : Int) + 1) (expL first frm upt a2 a3 most pre).length = false := by unfold stopB tmS; simp [q1, h2, h3, h3', h4]
            obtain ⟨e1, e2⟩ := exp_go HON.out hst
            by_cases p5 : frm ≤ wrap64 (wrap64 (x * 86400) + first % 86400)
            · rw [if_pos (by unfold tmS; exact p5)] at e1
              have ES := Aside0.mk (And.intro e1 e2)
              clear e1 e2 hst
              gi_wp2_with (gi_at_builtin; refine wpListIn_append_own _ rfl _ _ 38 rfl (w2.heap.size + 5) 2 i0 (.int .i64 0) 1 8 Tryz.underlying38 hi hz0' hz1' hz2' rfl (by decide) _ _ _ rfl (S.out.2.1.alloc _) ⟨W.heap.size, 0, none⟩ 1 1 [.int .i64 (wrap64 (wrap64 (x * 86400) + first % 86400))] rfl rfl (cell_one_at _ _ _ (by simp)) (by simp [Value.oneCell']) (by unfold maxLen; omega) (by omega) (by simp; omega) ?_; intro v' w1 hown' hgrow _; obtain ⟨g', cap', rfl⟩ := ownsRow_succ hown'; have T := Aside0.mk (app_out (by simp; omega) S.out.1 S.out.2.1 S.out.2.2.1 S.out.2.2.2.1 hown' hgrow); have hc1 := T.out.1.cell; have hf1 := T.out.1.frozen; clear hown' hgrow)
              exact ⟨(S.out.2.2.2.2.2.trans T.out.2.2.2.2.2.2).from _, S.out.2.2.2.2.1.trans T.out.2.2.2.2.2.1, ⟨⟨⟨_, T.out.2.1, by rw [ES.out.1]; simpa [tmS] using T.out.2.2.1⟩, by simpa using T.out.2.2.2.1⟩, ES.out.2⟩, T.out.2.2.2.2.1, Nat.le_trans hW (Nat.le_trans S.out.2.2.2.2.1.below.size T.out.2.2.2.2.2.1.below.size)⟩
            · rw [if_neg (by unfold tmS; exact p5)] at e1
              have ES := Aside0.mk (And.intro e1 e2)
              clear e1 e2 hst
              gi_wp2
              exact ⟨S.out.2.2.2.2.2.from _, S.out.2.2.2.2.1, ⟨⟨⟨_, S.out.1, by rw [ES.out.1]; exact S.out.2.1⟩, by simpa using S.out.2.2.1⟩, ES.out.2⟩, S.out.2.2.2.1, Nat.le_trans hW S.out.2.2.2.2.1.below.size⟩
        · have hst : stopB a2 a3 upt most (tmS first x) ((pre.length : Int) + 1) (expL first frm upt a2 a3 most pre).length = true := by unfold stopB tmS; simp [q1, h2, h3, h3']
          obtain ⟨e1, e2⟩ := exp_stop HON.out hst
          have ES := Aside0.mk (And.intro e1 e2)
          clear e1 e2 hst
          gi_wp2
          exact ⟨S.out.2.2.2.2.2.from _, ⟨⟨_, S.out.1, by rw [ES.out.1]; exact S.out.2.1⟩, rfl, ES.out.2⟩, S.out.2.2.2.1⟩
      ·
        rcases P3 with h3 | ⟨h3, h3'⟩ | ⟨h3, h3'⟩
        · rcases P4 with h4 | h4
          · have hst : stopB a2 a3 upt most (tmS first x) ((pre.length : Int) + 1) (expL first frm upt a2 a3 most pre).length = true := by unfold stopB tmS; simp [q1, h2, h2', h3, h4]
            obtain ⟨e1, e2⟩ := exp_stop HON.out hst
            have ES := Aside0.mk (And.intro e1 e2)
            clear e1 e2 hst
            gi_wp2
            exact ⟨S.out.2.2.2.2.2.from _, ⟨⟨_, S.out.1, by rw [ES.out.1]; exact S.out.2.1⟩, rfl, ES.out.2⟩, S.out.2.2.2.1⟩
          · have hst : stopB a2 a3 upt most (tmS first x) ((pre.length : Int) + 1) (expL first frm upt a2 a3 most pre).length = false := by unfold stopB tmS; simp [q1, h2, h2', h3, h4]
            obtain ⟨e1, e2⟩ := exp_go HON.out hst
            by_cases p5 : frm ≤ wrap64 (wrap64 (x * 86400) + first % 86400)
            · rw [if_pos (by unfold tmS; exact p5)] at e1
              have ES := Aside0.mk (And.intro e1 e2)
              clear e1 e2 hst
              gi_wp2_with (gi_at_builtin; refine wpListIn_append_own _ rfl _ _ 38 rfl (w2.heap.size + 5) 2 i0 (.int .i64 0) 1 8 Tryz.underlying38 hi hz0' hz1' hz2' rfl (by decide) _ _ _ rfl (S.out.2.1.alloc _) ⟨W.heap.size, 0, none⟩ 1 1 [.int .i64 (wrap64 (wrap64 (x * 86400) + first % 86400))] rfl rfl (cell_one_at _ _ _ (by simp)) (by simp [Value.oneCell']) (by unfold maxLen; omega) (by omega) (by simp; omega) ?_; intro v' w1 hown' hgrow _; obtain ⟨g', cap', rfl⟩ := ownsRow_succ hown'; have T := Aside0.mk (app_out (by simp; omega) S.out.1 S.out.2.1 S.out.2.2.1 S.out.2.2.2.1 hown' hgrow); have hc1 := T.out.1.cell; have hf1 := T.out.1.frozen; clear hown' hgrow)
              exact ⟨(S.out.2.2.2.2.2.trans T.out.2.2.2.2.2.2).from _, S.out.2.2.2.2.1.trans T.out.2.2.2.2.2.1, ⟨⟨⟨_, T.out.2.1, by rw [ES.out.1]; simpa [tmS] using T.out.2.2.1⟩, by simpa using T.out.2.2.2.1⟩, ES.out.2⟩, T.out.2.2.2.2.1, Nat.le_trans hW (Nat.le_trans S.out.2.2.2.2.1.below.size T.out.2.2.2.2.2.1.below.size)⟩
            · rw [if_neg (by unfold tmS; exact p5)] at e1
              have ES := Aside0.mk (And.intro e1 e2)
              clear e1 e2 hst
              gi_wp2
              exact ⟨S.out.2.2.2.2.2.from _, S.out.2.2.2.2.1, ⟨⟨⟨_, S.out.1, by rw [ES.out.1]; exact S.out.2.1⟩, by simpa using S.out.2.2.1⟩, ES.out.2⟩, S.out.2.2.2.1, Nat.le_trans hW S.out.2.2.2.2.1.below.size⟩
        · rcases P4 with h4 | h4
          · have hst : stopB a2 a3 upt most (tmS first x) ((pre.length : Int) + 1) (expL first frm upt a2 a3 most pre).length = true := by unfold stopB tmS; simp [q1, h2, h2', h3, h3', h4]
            obtain ⟨e1, e2⟩ := exp_stop HON.out hst
            have ES := Aside0.mk (And.intro e1 e2)
            clear e1 e2 hst
            gi_wp2
            exact ⟨S.out.2.2.2.2.2.from _, ⟨⟨_, S.out.1, by rw [ES.out.1]; exact S.out.2.1⟩, rfl, ES.out.2⟩, S.out.2.2.2.1⟩
          · have hst : stopB a2 a3 upt most (tmS first x) ((pre.length : Int) + 1) (expL first frm upt a2 a3 most pre).length = false := by unfold stopB tmS; simp [q1, h2, h2', h3, h3', h4]
            obtain ⟨e1, e2⟩ := exp_go HON.out hst
            by_cases p5 : frm ≤ wrap64 (wrap64 (x * 86400) + first % 86400)
            · rw [if_pos (by unfold tmS; exact p5)] at e1
              have ES := Aside0.mk (And.intro e1 e2)
              clear e1 e2 hst
              gi_wp2_with (gi_at_builtin; refine wpListIn_append_own _ rfl _ _ 38 rfl (w2.heap.size + 5) 2 i0 (.int .i64 0) 1 8 Tryz.underlying38 hi hz0' hz1' hz2' rfl (by decide) _ _ _ rfl (S.out.2.1.alloc _) ⟨W.heap.size, 0, none⟩ 1 1 [.int .i64 (wrap64 (wrap64 (x * 86400) + first % 86400))] rfl rfl (cell_one_at _ _ _ (by simp)) (by simp [Value.oneCell']) (by unfold maxLen; omega) (by omega) (by simp; omega) ?_; intro v' w1 hown' hgrow _; obtain ⟨g', cap', rfl⟩ := ownsRow_succ hown'; have T := Aside0.mk (app_out (by simp; omega) S.out.1 S.out.2.1 S.out.2.2.1 S.out.2.2.2.1 hown' hgrow); have hc1 := T.out.1.cell; have hf1 := T.out.1.frozen; clear hown' hgrow)
              exact ⟨(S.out.2.2.2.2.2.trans T.out.2.2.2.2.2.2).from _, S.out.2.2.2.2.1.trans T.out.2.2.2.2.2.1, ⟨⟨⟨_, T.out.2.1, by rw [ES.out.1]; simpa [tmS] using T.out.2.2.1⟩, by simpa using T.out.2.2.2.1⟩, ES.out.2⟩, T.out.2.2.2.2.1, Nat.le_trans hW (Nat.le_trans S.out.2.2.2.2.1.below.size T.out.2.2.2.2.2.1.below.size)⟩
            · rw [if_neg (by unfold tmS; exact p5)] at e1
              have ES := Aside0.mk (And.intro e1 e2)
              clear e1 e2 hst
              gi_wp2
              exact ⟨S.out.2.2.2.2.2.from _, S.out.2.2.2.2.1, ⟨⟨⟨_, S.out.1, by rw [ES.out.1]; exact S.out.2.1⟩, by simpa using S.out.2.2.1⟩, ES.out.2⟩, S.out.2.2.2.1, Nat.le_trans hW S.out.2.2.2.2.1.below.size⟩
        · have hst : stopB a2 a3 upt most (tmS first x) ((pre.length : Int) + 1) (expL first frm upt a2 a3 most pre).length = true := by unfold stopB tmS; simp [q1, h2, h2', h3, h3']
          obtain ⟨e1, e2⟩ := exp_stop HON.out hst
          have ES := Aside0.mk (And.intro e1 e2)
          clear e1 e2 hst
          gi_wp2
          exact ⟨S.out.2.2.2.2.2.from _, ⟨⟨_, S.out.1, by rw [ES.out.1]; exact S.out.2.1⟩, rfl, ES.out.2⟩, S.out.2.2.2.1⟩
      · clear P3 P4
        have hst : stopB a2 a3 upt most (tmS first x) ((pre.length : Int) + 1) (expL first frm upt a2 a3 most pre).length = true := by unfold stopB tmS; simp [q1, h2, h2']
        obtain ⟨e1, e2⟩ := exp_stop HON.out hst
        have ES := Aside0.mk (And.intro e1 e2)
        clear e1 e2 hst
        gi_wp2
        exact ⟨S.out.2.2.2.2.2.from _, ⟨⟨_, S.out.1, by rw [ES.out.1]; exact S.out.2.1⟩, rfl, ES.out.2⟩, S.out.2.2.2.1⟩
  case done =>
    rintro D ys W hD rfl ⟨⟨⟨⟨v, hv, hrow, _⟩, hcn⟩, hon⟩, hbl, _⟩ hK
    have hc := hv.cell
    gi_wp2
    rw [Exit.noGoto_ret]
    refine ⟨by simp, .inl ⟨_, _, rfl, run_takeDeferred hK, ?_⟩⟩
    refine ⟨_, results_tmp2 rfl _ _ _, v, rfl, ?_, ?_⟩
    · rw [← HALL.out]; exact own_weaken (ownsRow_putObj hrow _ hK rfl) (by omega)
    · exact (HB.out.trans (hbl.mono hn0)).trans (belowK_b (w := w) (Nat.le_refl _) W D _ _ (by omega) hK rfl rfl)
  case stop =>
    rintro D c pre W hD ⟨rest, hrest⟩ ⟨⟨⟨v, hv, hrow, _⟩, rfl, hfin⟩, hbl⟩ hK
    have hc := hv.cell
    have hrr := hfin rest
    rw [hrest] at hrr
    have HRR := Aside0.mk hrr
    clear hrr hfin
    gi_wp2
    rw [Exit.noGoto_ret]
    refine ⟨by simp, .inl ⟨_, _, rfl, run_takeDeferred hK, ?_⟩⟩
    refine ⟨_, results_tmp2 rfl _ _ _, v, rfl, ?_, ?_⟩
    · rw [← HALL.out, HRR.out]; exact own_weaken (ownsRow_putObj hrow _ hK rfl) (by omega)
    · exact (HB.out.trans (hbl.mono hn0)).trans (belowK_b (w := w) (Nat.le_refl _) W D _ _ (by omega) hK rfl rfl)
end Go.Proofs.YtfbmjonhohebiaaGreatDoor
end
section
set_option linter.unusedVariables false
set_option linter.unusedSimpArgs false
namespace Go.Proofs.YtfbmjonhohebiaaGreatDoor
open Go.RowKit Go.Proofs.YtfbmjonhohebiaaGreatDoorW.PrintWords Go.Proofs.YtfbmjonhohebiaaGreatDoorW.PrintLast Go.Proofs.YtfbmjonhohebiaaGreatDoorW.PrintMore PRecurExpands
def civC (n : Int) : Int × Int × Int := if n < 31 then (1970, 1, n + 1) else if n < 59 then (1970, 2, n - 30) else if n < 90 then (1970, 3, n - 58) else (1970, 4, n - 89)
theorem civC_ok (n : Int) (h0 : 0 ≤ n) (h1 : n ≤ 119) : civ n = civC n := by
  have h : Cal.IsCivil n (civC n).1 (civC n).2.1 (civC n).2.2 := by
    unfold civC
    have b0 : Cal.bef 1970 = 0 := by decide
    have c1 : Cal.cum 1970 1 = 0 := by decide
    have c2 : Cal.cum 1970 2 = 31 := by decide
    have c3 : Cal.cum 1970 3 = 59 := by decide
    have c4 : Cal.cum 1970 4 = 90 := by decide
    have m1 : Cal.mlen 1970 1 = 31 := by decide
    have m2 : Cal.mlen 1970 2 = 28 := by decide
    have m3 : Cal.mlen 1970 3 = 31 := by decide
    have m4 : Cal.mlen 1970 4 = 30 := by decide
    split
    · exact ⟨by simp, by simp, by simp, by simp, by simp only; omega, by simp only; omega, by simp only; omega⟩
    · split
      · exact ⟨by simp, by simp, by simp, by simp, by simp only; omega, by simp only; omega, by simp only; omega⟩
      · split
        · exact ⟨by simp, by simp, by simp, by simp, by simp only; omega, by simp only; omega, by simp only; omega⟩
        · exact ⟨by simp, by simp, by simp, by simp, by simp only; omega, by simp only; omega, by simp only; omega⟩
  exact civ_eq h0 (by omega) h
theorem daysL_congr (hit hit' : Int → Bool) (step lim : Int) (hs : 0 ≤ step) : ∀ (n : Nat) (d : Int), 0 ≤ d → (∀ x, 0 ≤ x → x ≤ lim → hit x = hit' x) → daysL hit step lim n d = daysL hit' step lim n d := by
  intro n
  induction n with
  | zero => intro d _ _; rfl
  | succ n ih =>
    intro d hd h
    simp only [daysL]
    split
    · rename_i hl
      rw [h d hd (by omega), ih (d + step) (by omega) h]
    · rfl
def hitC (d : Int) : Bool := d == 0 || matchS 3 1 [] [] [⟨6, -1⟩] 0 d (civC d).1 (civC d).2.1 (civC d).2.2 1970 1 1
theorem hit_alive (x : Int) (h0 : 0 ≤ x) (h1 : x ≤ 115) : hitV 3 1 [] [] [⟨6, -1⟩] 0 x = hitC x := by
  unfold hitV hitC matchV
  rw [civC_ok x h0 (by omega), civC_ok 0 (by omega) (by omega)]
  rfl
theorem days_alive : daysV 3 1 [] [] [⟨6, -1⟩] 0 115 = [0, 24, 52, 87, 115] := by
  unfold daysV daysF
  rw [if_neg (by decide), daysL_congr _ hitC 1 115 (by decide) _ 0 (by decide) hit_alive]
  kernel_rfl
theorem exp_alive : expGo 0 0 10000000 0 (-1) 4 (daysV 3 1 [] [] [⟨6, -1⟩] (0 / 86400) (10000000 / 86400)) [] 0 = [0, 2073600, 4492800, 7516800] := by
  rw [show (0 : Int) / 86400 = 0 from by decide, show (10000000 : Int) / 86400 = 115 from by decide, days_alive]
  kernel_rfl
theorem match_alive : matchV 3 1 [] [] [⟨6, -1⟩] 0 24 = true := by
  unfold matchV
  rw [civC_ok 24 (by omega) (by omega), civC_ok 0 (by omega) (by omega)]
  kernel_rfl
end Go.Proofs.YtfbmjonhohebiaaGreatDoor
end
section
set_option linter.unusedVariables false
set_option linter.unusedSimpArgs false
namespace Go.Proofs.YtfbmjonhohebiaaGreatDoor
open Go.RowKit Go.Proofs.YtfbmjonhohebiaaGreatDoorW.PrintWords Go.Proofs.YtfbmjonhohebiaaGreatDoorW.PrintLast Go.Proofs.YtfbmjonhohebiaaGreatDoorW.PrintMore PRecurExpands
def tA : List UInt8 := [102, 114, 101, 113, 61, 77, 79, 78, 84, 72, 76, 89, 59, 66, 89, 68, 65, 89, 61, 45, 49, 115, 117]
def tB : List UInt8 := [67, 79, 85, 78, 84, 61, 49]
theorem split_A : splL (upL tA) 59 = [[70, 82, 69, 81, 61, 77, 79, 78, 84, 72, 76, 89], [66, 89, 68, 65, 89, 61, 45, 49, 83, 85]] := by kernel_rfl
theorem split_B : splL (upL tB) 59 = [[67, 79, 85, 78, 84, 61, 49]] := by kernel_rfl
theorem cut_A1 : Lib.cut [70, 82, 69, 81, 61, 77, 79, 78, 84, 72, 76, 89] [61] = ([70, 82, 69, 81], [77, 79, 78, 84, 72, 76, 89], true) := by kernel_rfl
theorem cut_A2 : Lib.cut [66, 89, 68, 65, 89, 61, 45, 49, 83, 85] [61] = ([66, 89, 68, 65, 89], [45, 49, 83, 85], true) := by kernel_rfl
theorem cut_B : Lib.cut [67, 79, 85, 78, 84, 61, 49] [61] = ([67, 79, 85, 78, 84], [49], true) := by kernel_rfl
theorem fr_A : frUp [77, 79, 78, 84, 72, 76, 89] 0 4 = 3 ∧ frOk [77, 79, 78, 84, 72, 76, 89] 4 = true := ⟨by kernel_rfl, by kernel_rfl⟩
theorem split_A2 : splL [45, 49, 83, 85] 44 = [[45, 49, 83, 85]] := by kernel_rfl
theorem itoa_m1 : Lib.itoa (-1) = [45, 49] := by rw [show (-1 : Int) = -((1 : Nat) : Int) from rfl, Lib.itoa_neg 1 (by omega), Lib.decDigits_one (by omega)]; rfl
theorem itoa_1 : Lib.itoa 1 = [49] := by rw [show (1 : Int) = ((1 : Nat) : Int) from rfl, Lib.itoa_nonneg, Lib.decDigits_one (by omega)]; rfl
theorem atoi_m1 : Lib.atoiAll [45, 49] = .ok (-1) := by kernel_rfl
theorem atoi_1 : Lib.atoiAll [49] = .ok 1 := by kernel_rfl
theorem num_m1 : numV [45, 49] = -1 ∧ numB [45, 49] = true := by
  constructor
  · unfold numV; rw [atoi_m1]
  · unfold numB; rw [atoi_m1]; simp only; rw [itoa_m1]; rfl
theorem num_1 : numV [49] = 1 ∧ numB [49] = true := by
  constructor
  · unfold numV; rw [atoi_1]
  · unfold numB; rw [atoi_1]; simp only; rw [itoa_1]; rfl
theorem dig_A : digL [45, 49, 83, 85] = [45, 49] := by kernel_rfl
theorem day_A : dayUp [45, 49, 83, 85] 7 = 6 := by kernel_rfl
theorem wk_A : wkAll (splL [45, 49, 83, 85] 44) = some [⟨6, -1⟩] := by
  rw [split_A2]
  have h : wkOne [45, 49, 83, 85] = some ⟨6, -1⟩ := by
    unfold wkOne
    rw [if_neg (by decide), if_neg (by decide), if_neg (by unfold wkBad; rw [dig_A, num_m1.1, num_m1.2]; decide), dig_A, num_m1.1, day_A]
  unfold wkAll
  rw [h]
  rfl
theorem srt_one (x : S59) : srt59 [x] = [x] := by unfold srt59; exact List.mergeSort_singleton _
theorem part_A1 : partV [70, 82, 69, 81] [77, 79, 78, 84, 72, 76, 89] rs0 = some ⟨3, 1, 0, -1, [], [], []⟩ := by
  unfold partV
  rw [if_pos (by decide), if_pos fr_A.2]
  simp only [rs0, fr_A.1]
theorem part_A2 (r : RS) : partV [66, 89, 68, 65, 89] [45, 49, 83, 85] r = some { r with k := [⟨6, -1⟩] } := by
  unfold partV
  rw [if_neg (by decide), if_neg (by decide), if_neg (by decide), if_neg (by decide), if_neg (by decide), if_neg (by decide), if_pos (by decide), wk_A, Option.map_some, srt_one]
theorem part_B : partV [67, 79, 85, 78, 84] [49] rs0 = some ⟨0, 1, 1, -1, [], [], []⟩ := by
  unfold partV
  rw [if_neg (by decide), if_neg (by decide), if_pos (by decide), num_1.1, num_1.2, if_pos (by decide)]
  rfl
theorem readP_A : readP tA = some ⟨3, 1, 0, -1, [], [], [⟨6, -1⟩]⟩ := by
  unfold readP
  rw [split_A, rg_step (r' := ⟨3, 1, 0, -1, [], [], []⟩) (by rw [cut_A1]; rfl) (by rw [cut_A1]; exact part_A1), rg_step (r' := ⟨3, 1, 0, -1, [], [], [⟨6, -1⟩]⟩) (by rw [cut_A2, cut_A1]; rfl) (by rw [cut_A2]; exact part_A2 _)]
  rfl
theorem readP_B : readP tB = some ⟨0, 1, 1, -1, [], [], []⟩ := by
  unfold readP
  rw [split_B, rg_step (r' := ⟨0, 1, 1, -1, [], [], []⟩) (by rw [cut_B]; rfl) (by rw [cut_B]; exact part_B)]
  rfl
theorem right_A : RightP 3 1 0 (-1) [] [] [⟨6, -1⟩] := by
  refine ⟨by omega, by omega, by omega, by omega, by omega, by omega, .inl rfl, fun i hi => by simp at hi, fun i hi => by simp at hi, fun _ => rfl, fun i hi => ?_⟩
  obtain rfl : i = 0 := by simpa using hi
  exact ⟨by decide, by decide, by decide, by decide, fun h => by simp at h, fun h => by omega⟩
theorem readV_A : readV tA = some ⟨3, 1, 0, -1, [], [], [⟨6, -1⟩]⟩ := by
  unfold readV
  rw [readP_A]
  exact if_pos (by unfold rightB; simpa using right_A)
theorem readV_B : readV tB = none := by
  unfold readV
  rw [readP_B]
  exact if_neg (by unfold rightB; simp; intro h; have := h.f0; omega)
end Go.Proofs.YtfbmjonhohebiaaGreatDoor
end
section
set_option linter.unusedVariables false
set_option linter.unusedSimpArgs false
namespace Go.Proofs.YtfbmjonhohebiaaGreatDoor
open Go.RowKit Go.Proofs.YtfbmjonhohebiaaGreatDoorW.PrintWords Go.Proofs.YtfbmjonhohebiaaGreatDoorW.PrintLast Go.Proofs.YtfbmjonhohebiaaGreatDoorW.PrintMore PRecurExpands
theorem read_A (w : World) (hG : Globs w) : Calls Tryz.prog 22 #[.string ⟨#[102, 114, 101, 113, 61, 77, 79, 78, 84, 72, 76, 89, 59, 66, 89, 68, 65, 89, 61, 45, 49, 115, 117]⟩] w fun e w' =>
    (∃ v4 v5 v6, e = .returned (.tuple #[.agg #[.int .i64 3, .int .i64 1, .int .i64 0, .int .i64 (-1), v4, v5, v6], .int .i64 0]) ∧
      w'.ownsRow w.heap.size 3 1 v4 0 [] ∧ w'.ownsRow w.heap.size 3 1 v5 0 [] ∧ w'.ownsRow w.heap.size 59 2 v6 1 [.int .i64 6, .int .i64 (-1)]) ∧ Below w.heap.size w w' := by
  have h := recur_Read ⟨#[102, 114, 101, 113, 61, 77, 79, 78, 84, 72, 76, 89, 59, 66, 89, 68, 65, 89, 61, 45, 49, 115, 117]⟩ (by decide) w hG
  rw [show (ByteArray.mk #[102, 114, 101, 113, 61, 77, 79, 78, 84, 72, 76, 89, 59, 66, 89, 68, 65, 89, 61, 45, 49, 115, 117]).data.toList = tA from rfl, readV_A] at h
  exact h
theorem read_B (w : World) (hG : Globs w) : Calls Tryz.prog 22 #[.string ⟨#[67, 79, 85, 78, 84, 61, 49]⟩] w fun e w' => e = .returned (.tuple #[nil7, .int .i64 3]) ∧ Below w.heap.size w w' := by
  have h := recur_Read ⟨#[67, 79, 85, 78, 84, 61, 49]⟩ (by decide) w hG
  rw [show (ByteArray.mk #[67, 79, 85, 78, 84, 61, 49]).data.toList = tB from rfl, readV_B] at h
  exact h
theorem own_C_nil {w : World} {base : Nat} {A : Option Addr} {c : Nat} (h : w.ownsRow base 3 1 (.slice A 0 c) 0 []) : Kd.C (Kd.int .i64) w A ([] : List Int).length [] := by
  obtain ⟨A', c', e, _, hC⟩ := own_reads_i (xs := []) h
  injection e with e1 e2 e3
  subst e1
  exact hC
theorem own_C_one {w : World} {base : Nat} {A : Option Addr} {c : Nat} (h : w.ownsRow base 59 2 (.slice A 1 c) 1 [.int .i64 6, .int .i64 (-1)]) : 1 ≤ c ∧ Kd.C k59 w A [(⟨6, -1⟩ : S59)].length [⟨6, -1⟩] := by
  obtain ⟨A', c', e, hc, hC⟩ := own_reads_k (xs := [⟨6, -1⟩]) h
  injection e with e1 e2 e3
  subst e1 e3
  exact ⟨hc, hC⟩
theorem expand_A {A4 A5 A6 : Option Addr} {c4 c5 c6 : Nat} {W : World} {base : Nat} (h4 : W.ownsRow base 3 1 (.slice A4 0 c4) 0 []) (h5 : W.ownsRow base 3 1 (.slice A5 0 c5) 0 []) (h6 : W.ownsRow base 59 2 (.slice A6 1 c6) 1 [.int .i64 6, .int .i64 (-1)]) :
    Calls Tryz.prog 16 #[.agg #[.int .i64 3, .int .i64 1, .int .i64 0, .int .i64 (-1), .slice A4 0 c4, .slice A5 0 c5, .slice A6 1 c6], .int .i64 0, .int .i64 0, .int .i64 10000000, .int .i64 4] W fun e w' =>
      (∃ g cap cur, e = .returned (.tuple #[.slice (some ⟨g, 0, none⟩) 4 cap, .int .i64 0]) ∧ w'.heap[g]? = some (.cells cur 2 (0, 0)) ∧ cur[0]? = some (.int .i64 0) ∧ cur[1]? = some (.int .i64 2073600) ∧ cur[3]? = some (.int .i64 7516800)) ∧ Below W.heap.size W w' := by
  obtain ⟨hc6, hC6⟩ := own_C_one h6
  have h := recur_Expand_ok 3 1 0 (-1) A4 A5 A6 c4 c5 c6 [] [] [⟨6, -1⟩] right_A 0 0 10000000 4 W (own_C_nil h4) (Nat.zero_le _) (own_C_nil h5) (Nat.zero_le _) hC6 hc6 (by simp) (by simp) (by simp) (by decide) (by decide) (by decide) (by omega) (by omega) (by omega)
  rw [exp_alive] at h
  refine h.mono ?_
  rintro e w' ⟨v, rfl, hrow, hb⟩
  refine ⟨?_, hb⟩
  obtain ⟨h1, ⟨rfl, h0⟩ | ⟨g, cap, cur, rfl, hbs, hh, hc, hm, hs, ht⟩⟩ := hrow
  · simp at h0
  · have k : ∀ j, j < 4 → cur[j]? = ([0, 2073600, 4492800, 7516800].map (Value.int .i64))[j]? := by
      intro j hj
      rw [← ht, List.getElem?_take_of_lt (by simpa using hj)]
      simp
    exact ⟨g, cap, cur, rfl, hh, k 0 (by omega), k 1 (by omega), k 3 (by omega)⟩
theorem match_A {A4 A5 A6 : Option Addr} {c4 c5 c6 : Nat} {W : World} {base : Nat} (h4 : W.ownsRow base 3 1 (.slice A4 0 c4) 0 []) (h5 : W.ownsRow base 3 1 (.slice A5 0 c5) 0 []) (h6 : W.ownsRow base 59 2 (.slice A6 1 c6) 1 [.int .i64 6, .int .i64 (-1)]) :
    Calls Tryz.prog 12 #[.agg #[.int .i64 3, .int .i64 1, .int .i64 0, .int .i64 (-1), .slice A4 0 c4, .slice A5 0 c5, .slice A6 1 c6], .int .i64 0, .int .i64 24] W fun e w' =>
      e = .returned (.tuple #[.bool true, .int .i64 0]) ∧ Below W.heap.size W w' := by
  obtain ⟨hc6, hC6⟩ := own_C_one h6
  have h := recur_Match 3 1 0 (-1) A4 A5 A6 c4 c5 c6 [] [] [⟨6, -1⟩] true (by simp [right_A]) 0 24 W (own_C_nil h4) (Nat.zero_le _) (own_C_nil h5) (Nat.zero_le _) hC6 hc6 (by simp) (by simp) (by simp)
  rw [show MatchB true 3 1 [] [] [⟨6, -1⟩] 0 24 = true from by unfold MatchB; simp [match_alive, isDayS], show MatchE true 0 24 = 0 from by decide] at h
  exact h
set_option maxRecDepth 100000 in
set_option maxHeartbeats 4000000 in
theorem law21_alive (w : World) (hG : Globs w) : Calls Tryz.prog 11 #[] w fun e w' => e = .returned (.bool true) ∧ Below w.heap.size w w' := by
  have HG := Aside0.mk hG
  have hgs := hG.size
  clear hG
  go_enter Tryz.func11, Tryz.ntmps11
  go_wp2_with fail
  refine (read_A _ HG.out).mono ?_
  rintro e w2 ⟨⟨v4, v5, v6, rfl, h4, h5, h6⟩, hb2⟩
  obtain ⟨A4, c4, rfl⟩ := own_slice h4
  obtain ⟨A5, c5, rfl⟩ := own_slice h5
  obtain ⟨A6, c6, rfl⟩ := own_slice h6
  have H4 := Aside0.mk h4
  have H5 := Aside0.mk h5
  have H6 := Aside0.mk h6
  have HB := Aside0.mk hb2
  clear h4 h5 h6 hb2
  go_wp2_with fail
  refine (expand_A (H4.out.alloc _) (H5.out.alloc _) (H6.out.alloc _)).mono ?_
  rintro e w3 ⟨⟨g, cap, cur, rfl, hg, k0, k1, k3⟩, hb3⟩
  have hgl : g < w3.heap.size := blk_lt hg
  have hr0 : w3.cell? ⟨g, 0, none⟩ = some (.int .i64 0) := (blk_cell hg 0).trans k0
  have hr1 : w3.cell? ⟨g, 1, none⟩ = some (.int .i64 2073600) := (blk_cell hg 1).trans k1
  have hr3 : w3.cell? ⟨g, 3, none⟩ = some (.int .i64 7516800) := (blk_cell hg 3).trans k3
  clear hg k0 k1 k3
  obtain ⟨hc3, hf3⟩ := bcell hb3
  have hz3 : w2.heap.size < w3.heap.size := by have := hb3.size; simp at this; omega
  have HB3 := Aside0.mk hb3
  clear hb3
  have hw2 : Below w.heap.size w w3 := (HB.out.alloc HB.out.size _).trans (HB3.out.mono (by have := HB.out.size; simp; omega))
  have HW3 := Aside0.mk hw2
  clear hw2
  go_wp2_with fail
  refine (read_B _ (HG.out.below HW3.out)).mono ?_
  rintro e w4 ⟨rfl, hb4⟩
  obtain ⟨hc4, hf4⟩ := bcell hb4
  have hz4 : w2.heap.size < w4.heap.size := Nat.lt_of_lt_of_le hz3 hb4.size
  have hz5 : g < w4.heap.size := Nat.lt_of_lt_of_le hgl hb4.size
  have HB4 := Aside0.mk hb4
  clear hb4
  unfold nil7
  go_wp2_with fail
  have hk : ∀ (o : Obj) (k : Nat), k < w2.heap.size → (w4.alloc o).heap[k]? = w2.heap[k]? := fun o k hk => (Below.heap_alloc w4 o k (by omega)).trans ((HB4.out.block k (by omega)).trans ((HB3.out.block k (by simp; omega)).trans (Below.heap_alloc w2 _ k hk)))
  have HK := Aside0.mk hk
  clear hk
  refine (match_A (base := w.heap.size) (own_move H4.out (fun k e => HK.out _ k (own_lt H4.out k e))) (own_move H5.out (fun k e => HK.out _ k (own_lt H5.out k e))) (own_move H6.out (fun k e => HK.out _ k (own_lt H6.out k e)))).mono ?_
  rintro e w5 ⟨rfl, hb5⟩
  obtain ⟨hc5, hf5⟩ := bcell hb5
  have hz6 : g < w4.heap.size + 1 := by omega
  have HB5 := Aside0.mk hb5
  clear hb5
  go_wp2_with fail
  go_ret
  have h34 := HW3.out.trans (HB4.out.mono HW3.out.size)
  exact ⟨rfl, (h34.alloc h34.size _).trans (HB5.out.mono (by have := h34.size; simp; omega))⟩
end Go.Proofs.YtfbmjonhohebiaaGreatDoor
end
section
set_option linter.unusedVariables false
set_option linter.unusedSimpArgs false
namespace Go.Proofs.YtfbmjonhohebiaaGreatDoor
open Go.RowKit Go.Proofs.YtfbmjonhohebiaaGreatDoorW.PrintWords Go.Proofs.YtfbmjonhohebiaaGreatDoorW.PrintLast Go.Proofs.YtfbmjonhohebiaaGreatDoorW.PrintMore PRecurExpands
structure Lists (w : World) (A4 A5 A6 : Option Addr) (c4 c5 c6 : Nat) (l4 l5 : List Int) (l6 : List S59) : Prop where
  r4 : Kd.C (Kd.int .i64) w A4 l4.length l4
  k4 : l4.length ≤ c4
  r5 : Kd.C (Kd.int .i64) w A5 l5.length l5
  k5 : l5.length ≤ c5
  r6 : Kd.C k59 w A6 l6.length l6
  k6 : l6.length ≤ c6
theorem Lists.below {w w' : World} {A4 A5 A6 : Option Addr} {c4 c5 c6 : Nat} {l4 l5 : List Int} {l6 : List S59} (h : Lists w A4 A5 A6 c4 c5 c6 l4 l5 l6) (hb : Below w.heap.size w w') : Lists w' A4 A5 A6 c4 c5 c6 l4 l5 l6 :=
  ⟨Kd.C_below h.r4 hb, h.k4, Kd.C_below h.r5 hb, h.k5, Kd.C_below h.r6 hb, h.k6⟩
def greatB (l4 l5 : List Int) (l6 : List S59) : Bool := decide (100 < l4.length + l5.length) || decide (100 < l6.length)
theorem great_c {a0 a1 a2 a3 : Int} {A4 A5 A6 : Option Addr} {c4 c5 c6 : Nat} {l4 l5 : List Int} {l6 : List S59} {w : World} (h : Lists w A4 A5 A6 c4 c5 c6 l4 l5 l6) (m4 : l4.length ≤ maxLen) (m5 : l5.length ≤ maxLen) (hl : (l4.length + l5.length : Int) ≤ 9223372036854775807) :
    Calls Tryz.prog 10 #[.agg #[.int .i64 a0, .int .i64 a1, .int .i64 a2, .int .i64 a3, .slice A4 l4.length c4, .slice A5 l5.length c5, .slice A6 l6.length c6]] w fun e w' => e = .returned (.bool (greatB l4 l5 l6)) ∧ Below w.heap.size w w' := by
  refine posthornlaw21_Great.calls a0 a1 a2 a3 A4 c4 l4 A5 c5 l5 A6 c6 l6 _ w h.r4 h.k4 h.r5 h.k5 h.r6 h.k6 ?_
  unfold posthornlaw21_Great.f greatB
  rw [wrap64_in (by omega) hl]
  by_cases g : (l4.length : Int) + (l5.length : Int) > 100
  · rw [if_pos g, decide_eq_true (show 100 < l4.length + l5.length by omega), Bool.true_or]
  · rw [if_neg g, decide_eq_false (show ¬ 100 < l4.length + l5.length by omega), Bool.false_or]
    congr 1
    rw [Bool.eq_iff_iff, decide_eq_true_eq, decide_eq_true_eq]
    omega
theorem greatB_len {l4 l5 : List Int} {l6 : List S59} (h : greatB l4 l5 l6 = false) : l4.length ≤ 100 ∧ l5.length ≤ 100 ∧ l6.length ≤ 100 := by
  unfold greatB at h
  simp only [Bool.or_eq_false_iff, decide_eq_false_iff_not] at h
  omega
structure ListsR (w : World) (A4 A5 A7 : Option Addr) (c4 c5 c7 : Nat) (l4 l5 : List Int) (l6 : List S59) : Prop where
  r4 : Kd.C (Kd.int .i64) w A4 l4.length l4
  k4 : l4.length ≤ c4
  r5 : Kd.C (Kd.int .i64) w A5 l5.length l5
  k5 : l5.length ≤ c5
  r7 : Kd.C k60 w A7 l6.length (l6.map to60)
  k7 : l6.length ≤ c7
theorem ListsR.below {w w' : World} {A4 A5 A7 : Option Addr} {c4 c5 c7 : Nat} {l4 l5 : List Int} {l6 : List S59} (h : ListsR w A4 A5 A7 c4 c5 c7 l4 l5 l6) (hb : Below w.heap.size w w') : ListsR w' A4 A5 A7 c4 c5 c7 l4 l5 l6 :=
  ⟨Kd.C_below h.r4 hb, h.k4, Kd.C_below h.r5 hb, h.k5, Kd.C_below h.r7 hb, h.k7⟩
theorem ref_right_c {a0 a1 a2 a3 : Int} {A4 A5 A7 : Option Addr} {c4 c5 c7 : Nat} {l4 l5 : List Int} {l6 : List S59} {b : Bool} (hb : b = true ↔ RightP a0 a1 a2 a3 l4 l5 l6) {w : World} (h : ListsR w A4 A5 A7 c4 c5 c7 l4 l5 l6)
    (h4 : l4.length ≤ 1000000000) (h5 : l5.length ≤ 1000000000) (h6 : l6.length ≤ 1000000000) :
    Calls Tryz.prog 25 #[.agg #[.int .i64 a0, .int .i64 a1, .int .i64 a2, .int .i64 a3, .slice A4 l4.length c4, .slice A5 l5.length c5, .slice A7 l6.length c7]] w fun e w' => e = .returned (.bool b) ∧ Below w.heap.size w w' := by
  obtain ⟨b', e', p'⟩ := ref_right_ev a0 a1 a2 a3 l4 l5 l6 h4 h5 h6
  obtain rfl : b' = b := bool_one p' hb
  obtain ⟨k, hk⟩ := e'.rounds
  have H := posthornref21_Right.calls k a0 a1 a2 a3 A4 c4 l4 A5 c5 l5 A7 c7 (l6.map to60) _ w h.r4 h.k4 h.r5 h.k5 (by rw [List.length_map]; exact h.r7) (by rw [List.length_map]; exact h.k7) hk
  rw [List.length_map] at H
  exact H
theorem ref_matches_c {a0 a1 a2 a3 : Int} {A4 A5 A7 : Option Addr} {c4 c5 c7 : Nat} {l4 l5 : List Int} {l6 : List S59} (hrt : RightP a0 a1 a2 a3 l4 l5 l6) {first day : Int} {w : World} (h : ListsR w A4 A5 A7 c4 c5 c7 l4 l5 l6)
    (h4 : l4.length ≤ 1000000000) (h5 : l5.length ≤ 1000000000) (h6 : l6.length ≤ 1000000000) (hf0 : 0 ≤ first) (hf1 : first ≤ 2932896) (hd0 : 0 ≤ day) (hd1 : day ≤ 2932896) :
    Calls Tryz.prog 28 #[.agg #[.int .i64 a0, .int .i64 a1, .int .i64 a2, .int .i64 a3, .slice A4 l4.length c4, .slice A5 l5.length c5, .slice A7 l6.length c7], .int .i64 first, .int .i64 day] w fun e w' => e = .returned (.bool (matchV a0 a1 l4 l5 l6 first day)) ∧ Below w.heap.size w w' := by
  obtain ⟨k, hk⟩ := (ref_matches_ev a0 a1 a2 a3 l4 l5 l6 hrt first day h4 h5 h6 hf0 hf1 hd0 hd1).rounds
  have H := posthornref21_Matches.calls k a0 a1 a2 a3 A4 c4 l4 A5 c5 l5 A7 c7 (l6.map to60) _ _ _ w h.r4 h.k4 h.r5 h.k5 (by rw [List.length_map]; exact h.r7) (by rw [List.length_map]; exact h.k7) hk
  rw [List.length_map] at H
  exact H
set_option maxRecDepth 100000 in
set_option maxHeartbeats 4000000 in
theorem ref_match_c {a0 a1 a2 a3 : Int} {A4 A5 A7 : Option Addr} {c4 c5 c7 : Nat} {l4 l5 : List Int} {l6 : List S59} {b : Bool} (hb : b = true ↔ RightP a0 a1 a2 a3 l4 l5 l6) {first day : Int} {w : World} (h : ListsR w A4 A5 A7 c4 c5 c7 l4 l5 l6)
    (h4 : l4.length ≤ 1000000000) (h5 : l5.length ≤ 1000000000) (h6 : l6.length ≤ 1000000000) :
    Calls Tryz.prog 13 #[.agg #[.int .i64 a0, .int .i64 a1, .int .i64 a2, .int .i64 a3, .slice A4 l4.length c4, .slice A5 l5.length c5, .slice A7 l6.length c7], .int .i64 first, .int .i64 day] w fun e w' =>
      e = .returned (.tuple #[.bool (MatchB b a0 a1 l4 l5 l6 first day), .int .i64 (MatchE b first day)]) ∧ Below w.heap.size w w' := by
  have HL := Aside0.mk h
  have HBB := Aside0.mk hb
  clear h hb
  have HB := Aside0.mk ((Below.refl w.heap.size w).alloc (Nat.le_refl _) (.cells #[.int .i64 a0, .int .i64 a1, .int .i64 a2, .int .i64 a3, .slice A4 l4.length c4, .slice A5 l5.length c5, .slice A7 l6.length c7] 34))
  have hz : w.heap.size < (w.alloc (.cells #[.int .i64 a0, .int .i64 a1, .int .i64 a2, .int .i64 a3, .slice A4 l4.length c4, .slice A5 l5.length c5, .slice A7 l6.length c7] 34)).heap.size := by simp
  have big : ∀ x : Int, isDayS x = false → ¬ x < 0 → 2932896 < x := fun x h1 h2 => by
    rcases Int.lt_or_le 2932896 x with h | h
    · exact h
    · rw [(isDayS_iff x).mpr ⟨by omega, h⟩] at h1; cases h1
  by_cases h1 : b = true
  · have hR : Aside0 (RightP a0 a1 a2 a3 l4 l5 l6) := ⟨HBB.out.mp h1⟩
    by_cases h2 : isDayS first = true
    · obtain ⟨d1, d2⟩ := (isDayS_iff first).mp h2
      by_cases h3 : isDayS day = true
      · obtain ⟨d3, d4⟩ := (isDayS_iff day).mp h3
        have hf1 : MatchB b a0 a1 l4 l5 l6 first day = matchV a0 a1 l4 l5 l6 first day := by unfold MatchB; rw [h1, h2, h3]; rfl
        have hf2 : MatchE b first day = 0 := by unfold MatchE; rw [if_pos h1, if_pos ⟨h2, h3⟩]
        have F1 := Lib.hid hf1
        have F2 := Lib.hid hf2
        clear hf1 hf2 big h2 h3
        go_enter Tryz.func13, Tryz.ntmps13
        go_wp2_with (first
          | (go_at_call 25; refine (ref_right_c HBB.out (HL.out.below HB.out) h4 h5 h6).mono ?_; rintro e w2 ⟨rfl, hb2⟩; obtain ⟨hc2, hf2⟩ := bcell hb2; have hz : w.heap.size < w2.heap.size := Nat.lt_of_lt_of_le hz hb2.size; have HB' := Aside0.mk (HB.out.trans (hb2.mono HB.out.size)); clear HB hb2; have HB := HB'; clear HB')
          | (go_at_call 28; refine (ref_matches_c hR.out (HL.out.below HB.out) h4 h5 h6 d1 d2 d3 d4).mono ?_; rintro e w2 ⟨rfl, hb2⟩; obtain ⟨hc2, hf2⟩ := bcell hb2; have hz : w.heap.size < w2.heap.size := Nat.lt_of_lt_of_le hz hb2.size; have HB' := Aside0.mk (HB.out.trans (hb2.mono HB.out.size)); clear HB hb2; have HB := HB'; clear HB'))
        go_ret2
        exact ⟨ret2_bi F1.out.symm F2.out.symm, HB.out⟩
      · have h3' : isDayS day = false := by simpa using h3
        have F1 := Lib.hid (show MatchB b a0 a1 l4 l5 l6 first day = false from by unfold MatchB; rw [h1, h2, h3']; rfl)
        have F2 := Lib.hid (show MatchE b first day = 110 from by unfold MatchE; rw [if_pos h1, if_neg (fun h => h3 h.2)])
        by_cases hn : day < 0
        · clear big h2 h3 h3'
          go_enter Tryz.func13, Tryz.ntmps13
          go_wp2_with (first
            | (go_at_call 25; refine (ref_right_c HBB.out (HL.out.below HB.out) h4 h5 h6).mono ?_; rintro e w2 ⟨rfl, hb2⟩; obtain ⟨hc2, hf2⟩ := bcell hb2; have hz : w.heap.size < w2.heap.size := Nat.lt_of_lt_of_le hz hb2.size; have HB' := Aside0.mk (HB.out.trans (hb2.mono HB.out.size)); clear HB hb2; have HB := HB'; clear HB'))
          go_ret2
          exact ⟨ret2_bi F1.out.symm F2.out.symm, HB.out⟩
        · have hg := big day h3' hn
          clear big h2 h3 h3'
          go_enter Tryz.func13, Tryz.ntmps13
          go_wp2_with (first
            | (go_at_call 25; refine (ref_right_c HBB.out (HL.out.below HB.out) h4 h5 h6).mono ?_; rintro e w2 ⟨rfl, hb2⟩; obtain ⟨hc2, hf2⟩ := bcell hb2; have hz : w.heap.size < w2.heap.size := Nat.lt_of_lt_of_le hz hb2.size; have HB' := Aside0.mk (HB.out.trans (hb2.mono HB.out.size)); clear HB hb2; have HB := HB'; clear HB'))
          go_ret2
          exact ⟨ret2_bi F1.out.symm F2.out.symm, HB.out⟩
    · have h2' : isDayS first = false := by simpa using h2
      have F1 := Lib.hid (show MatchB b a0 a1 l4 l5 l6 first day = false from by unfold MatchB; rw [h1, h2']; rfl)
      have F2 := Lib.hid (show MatchE b first day = 110 from by unfold MatchE; rw [if_pos h1, if_neg (fun h => h2 h.1)])
      by_cases hn : first < 0
      · clear big h2 h2'
        go_enter Tryz.func13, Tryz.ntmps13
        go_wp2_with (first
          | (go_at_call 25; refine (ref_right_c HBB.out (HL.out.below HB.out) h4 h5 h6).mono ?_; rintro e w2 ⟨rfl, hb2⟩; obtain ⟨hc2, hf2⟩ := bcell hb2; have hz : w.heap.size < w2.heap.size := Nat.lt_of_lt_of_le hz hb2.size; have HB' := Aside0.mk (HB.out.trans (hb2.mono HB.out.size)); clear HB hb2; have HB := HB'; clear HB'))
        go_ret2
        exact ⟨ret2_bi F1.out.symm F2.out.symm, HB.out⟩
      · have hg := big first h2' hn
        clear big h2 h2'
        go_enter Tryz.func13, Tryz.ntmps13
        go_wp2_with (first
          | (go_at_call 25; refine (ref_right_c HBB.out (HL.out.below HB.out) h4 h5 h6).mono ?_; rintro e w2 ⟨rfl, hb2⟩; obtain ⟨hc2, hf2⟩ := bcell hb2; have hz : w.heap.size < w2.heap.size := Nat.lt_of_lt_of_le hz hb2.size; have HB' := Aside0.mk (HB.out.trans (hb2.mono HB.out.size)); clear HB hb2; have HB := HB'; clear HB'))
        go_ret2
        exact ⟨ret2_bi F1.out.symm F2.out.symm, HB.out⟩
  · have h1' : b = false := by simpa using h1
    have F1 := Lib.hid (show MatchB b a0 a1 l4 l5 l6 first day = false from by unfold MatchB; rw [h1']; rfl)
    have F2 := Lib.hid (show MatchE b first day = 3 from by unfold MatchE; rw [if_neg h1])
    obtain rfl : b = false := h1'
    clear big h1
    go_enter Tryz.func13, Tryz.ntmps13
    go_wp2_with (first
      | (go_at_call 25; refine (ref_right_c HBB.out (HL.out.below HB.out) h4 h5 h6).mono ?_; rintro e w2 ⟨rfl, hb2⟩; obtain ⟨hc2, hf2⟩ := bcell hb2; have hz : w.heap.size < w2.heap.size := Nat.lt_of_lt_of_le hz hb2.size; have HB' := Aside0.mk (HB.out.trans (hb2.mono HB.out.size)); clear HB hb2; have HB := HB'; clear HB'))
    go_ret2
    exact ⟨ret2_bi F1.out.symm F2.out.symm, HB.out⟩
end Go.Proofs.YtfbmjonhohebiaaGreatDoor
end
section
set_option linter.unusedVariables false
set_option linter.unusedSimpArgs false
namespace Go.Proofs.YtfbmjonhohebiaaGreatDoor
open Go.RowKit Go.Proofs.YtfbmjonhohebiaaGreatDoorW.PrintWords Go.Proofs.YtfbmjonhohebiaaGreatDoorW.PrintLast Go.Proofs.YtfbmjonhohebiaaGreatDoorW.PrintMore PRecurExpands
structure AliveC (G : World → Prop) : Prop where
  mono : ∀ {w w' : World}, G w → Below w.heap.size w w' → G w'
  calls : ∀ {w : World}, G w → Calls Tryz.prog 11 #[] w fun e w' => e = .returned (.bool true) ∧ Below w.heap.size w w'
theorem as_c {a0 a1 a2 a3 : Int} {A4 A5 A6 : Option Addr} {c4 c5 c6 : Nat} {l4 l5 : List Int} {l6 : List S59} {w : World} (h : Lists w A4 A5 A6 c4 c5 c6 l4 l5 l6) (h6 : l6.length ≤ 1000000000) :
    Calls Tryz.prog 14 #[.agg #[.int .i64 a0, .int .i64 a1, .int .i64 a2, .int .i64 a3, .slice A4 l4.length c4, .slice A5 l5.length c5, .slice A6 l6.length c6]] w fun e w' =>
      ∃ A7 c7, e = .returned (.agg #[.int .i64 a0, .int .i64 a1, .int .i64 a2, .int .i64 a3, .slice A4 l4.length c4, .slice A5 l5.length c5, .slice A7 l6.length c7]) ∧ Aside0 (ListsR w' A4 A5 A7 c4 c5 c7 l4 l5 l6) ∧ Below w.heap.size w w' := by
  refine (law21_As a0 a1 a2 a3 A4 A5 A6 l4.length l5.length c4 c5 c6 l6 w h.r6 h.k6 h6).mono ?_
  rintro e w' ⟨A7, c7, he, h7, k7, hb⟩
  rw [List.length_map] at he h7 k7
  exact ⟨A7, c7, he, ⟨⟨Kd.C_below h.r4 hb, h.k4, Kd.C_below h.r5 hb, h.k5, h7, k7⟩⟩, hb⟩
theorem rec_match_c {a0 a1 a2 a3 : Int} {A4 A5 A6 : Option Addr} {c4 c5 c6 : Nat} {l4 l5 : List Int} {l6 : List S59} {b : Bool} (hb : b = true ↔ RightP a0 a1 a2 a3 l4 l5 l6) {first day : Int} {w : World} (h : Lists w A4 A5 A6 c4 c5 c6 l4 l5 l6)
    (h4 : l4.length ≤ 1000000000) (h5 : l5.length ≤ 1000000000) (h6 : l6.length ≤ 1000000000) :
    Calls Tryz.prog 12 #[.agg #[.int .i64 a0, .int .i64 a1, .int .i64 a2, .int .i64 a3, .slice A4 l4.length c4, .slice A5 l5.length c5, .slice A6 l6.length c6], .int .i64 first, .int .i64 day] w fun e w' =>
      e = .returned (.tuple #[.bool (MatchB b a0 a1 l4 l5 l6 first day), .int .i64 (MatchE b first day)]) ∧ Below w.heap.size w w' :=
  recur_Match a0 a1 a2 a3 A4 A5 A6 c4 c5 c6 l4 l5 l6 b hb first day w h.r4 h.k4 h.r5 h.k5 h.r6 h.k6 h4 h5 h6
set_option maxRecDepth 100000 in
set_option maxHeartbeats 4000000 in
theorem law_matches {G : World → Prop} (hA : AliveC G) {a0 a1 a2 a3 : Int} {A4 A5 A6 : Option Addr} {c4 c5 c6 : Nat} {l4 l5 : List Int} {l6 : List S59} {w : World} (h : Lists w A4 A5 A6 c4 c5 c6 l4 l5 l6) (m4 : l4.length ≤ maxLen) (m5 : l5.length ≤ maxLen) (hl : (l4.length + l5.length : Int) ≤ 9223372036854775807)
    (first day : Int) (hg : G w) :
    Calls Tryz.prog 3 #[.agg #[.int .i64 a0, .int .i64 a1, .int .i64 a2, .int .i64 a3, .slice A4 l4.length c4, .slice A5 l5.length c5, .slice A6 l6.length c6], .int .i64 first, .int .i64 day] w fun e w' =>
      e = .returned (.bool true) ∧ Below w.heap.size w w' := by
  have HL := Aside0.mk h
  have HG := Aside0.mk hg
  have HA := Aside0.mk hA
  clear h hg hA
  have HB := Aside0.mk ((Below.refl w.heap.size w).alloc (Nat.le_refl _) (.cells #[.int .i64 a0, .int .i64 a1, .int .i64 a2, .int .i64 a3, .slice A4 l4.length c4, .slice A5 l5.length c5, .slice A6 l6.length c6] 25))
  have hz : w.heap.size < (w.alloc (.cells #[.int .i64 a0, .int .i64 a1, .int .i64 a2, .int .i64 a3, .slice A4 l4.length c4, .slice A5 l5.length c5, .slice A6 l6.length c6] 25)).heap.size := by simp
  have HM : Aside0 (l4.length ≤ maxLen ∧ l5.length ≤ maxLen ∧ (l4.length + l5.length : Int) ≤ 9223372036854775807) := ⟨⟨m4, m5, hl⟩⟩
  clear m4 m5 hl
  obtain ⟨b, HBB⟩ : ∃ b : Bool, Aside0 (b = true ↔ RightP a0 a1 a2 a3 l4 l5 l6) := by
    classical
    exact ⟨decide (RightP a0 a1 a2 a3 l4 l5 l6), ⟨by simp⟩⟩
  by_cases hgr : greatB l4 l5 l6 = true
  · go_enter Tryz.func3, Tryz.ntmps3
    go_wp2_with (first
      | (go_at_call 10; refine (great_c (HL.out.below HB.out) HM.out.1 HM.out.2.1 HM.out.2.2).mono ?_; rintro e w2 ⟨rfl, hb2⟩; obtain ⟨hc2, hf2⟩ := bcell hb2; have hz : w.heap.size < w2.heap.size := Nat.lt_of_lt_of_le hz hb2.size; have HB' := Aside0.mk (HB.out.trans (hb2.mono HB.out.size)); clear HB hb2; have HB := HB'; clear HB')
      | (go_at_call 11; refine (HA.out.calls (HA.out.mono HG.out HB.out)).mono ?_; rintro e w2 ⟨rfl, hb2⟩; obtain ⟨hc2, hf2⟩ := bcell hb2; have hz : w.heap.size < w2.heap.size := Nat.lt_of_lt_of_le hz hb2.size; have HB' := Aside0.mk (HB.out.trans (hb2.mono HB.out.size)); clear HB hb2; have HB := HB'; clear HB'))
    go_ret
    exact ⟨rfl, HB.out⟩
  · have hgr' : greatB l4 l5 l6 = false := by simpa using hgr
    clear hgr
    obtain ⟨g4, g5, g6⟩ := greatB_len hgr'
    go_enter Tryz.func3, Tryz.ntmps3
    go_wp2_with (first
      | (go_at_call 10; refine (great_c (HL.out.below HB.out) HM.out.1 HM.out.2.1 HM.out.2.2).mono ?_; rintro e w2 ⟨rfl, hb2⟩; obtain ⟨hc2, hf2⟩ := bcell hb2; have hz : w.heap.size < w2.heap.size := Nat.lt_of_lt_of_le hz hb2.size; have HB' := Aside0.mk (HB.out.trans (hb2.mono HB.out.size)); clear HB hb2; have HB := HB'; clear HB')
      | (go_at_call 11; refine (HA.out.calls (HA.out.mono HG.out HB.out)).mono ?_; rintro e w2 ⟨rfl, hb2⟩; obtain ⟨hc2, hf2⟩ := bcell hb2; have hz : w.heap.size < w2.heap.size := Nat.lt_of_lt_of_le hz hb2.size; have HB' := Aside0.mk (HB.out.trans (hb2.mono HB.out.size)); clear HB hb2; have HB := HB'; clear HB')
      | (go_at_call 12; refine (rec_match_c HBB.out (HL.out.below HB.out) (by omega) (by omega) (by omega)).mono ?_; rintro e w2 ⟨rfl, hb2⟩; obtain ⟨hc2, hf2⟩ := bcell hb2; have hz : w.heap.size < w2.heap.size := Nat.lt_of_lt_of_le hz hb2.size; have HB' := Aside0.mk (HB.out.trans (hb2.mono HB.out.size)); clear HB hb2; have HB := HB'; clear HB')
      | (go_at_call 14; refine (as_c (HL.out.below HB.out) (by omega)).mono ?_; rintro e w2 ⟨A7, c7, rfl, HR7, hb2⟩; obtain ⟨hc2, hf2⟩ := bcell hb2; have hz : w.heap.size < w2.heap.size := Nat.lt_of_lt_of_le hz hb2.size; have HB' := Aside0.mk (HB.out.trans (hb2.mono HB.out.size)); clear HB hb2; have HB := HB'; clear HB')
      | (go_at_call 13; refine (ref_match_c HBB.out HR7.out (by omega) (by omega) (by omega)).mono ?_; rintro e w2 ⟨rfl, hb2⟩; obtain ⟨hc2, hf2⟩ := bcell hb2; have hz : w.heap.size < w2.heap.size := Nat.lt_of_lt_of_le hz hb2.size; have HB' := Aside0.mk (HB.out.trans (hb2.mono HB.out.size)); clear HB hb2; have HB := HB'; clear HB'))
    go_ret
    exact ⟨ret_bool (by simp), HB.out⟩
end Go.Proofs.YtfbmjonhohebiaaGreatDoor
end
section
set_option linter.unusedVariables false
set_option linter.unusedSimpArgs false
namespace Go.Proofs.YtfbmjonhohebiaaGreatDoor
open Go.RowKit Go.Joins Go.ChangeShapes Go.WideShapes Go.Deep Go.Proofs.YtfbmjonhohebiaaGreatDoorW.PrintWords Go.Proofs.YtfbmjonhohebiaaGreatDoorW.PrintLast Go.Proofs.YtfbmjonhohebiaaGreatDoorW.PrintMore PRecurExpands
section
variable {H : Type} {enc : TypeId × Value → H} {P : Program} {w : World} {base : Nat} {held : Bool}
theorem open_agg7 {spare : Nat → Bool} {r : Reach} {b0 : Nat} {t : TypeId} {f0 f1 f2 f3 f4 f5 f6 : Field} {v : Value} {d : DataW H} {p : List MemPlace} (hs : P.underlying t = some (.struct #[f0, f1, f2, f3, f4, f5, f6])) (hone : oneCellFields P #[f0, f1, f2, f3, f4, f5, f6] = true) (hC : P.cellsOf t = 7)
    (hv : Value.okWide P w r b0 t v) (h : DataW.Trod enc P w base spare held t v d p) :
    ∃ (v0 v1 v2 v3 v4 v5 v6 : Value) (y0 y1 y2 y3 y4 y5 y6 : DataW H × List MemPlace) (n : Nat), v = .agg #[v0, v1, v2, v3, v4, v5, v6] ∧ d = .agg [y0.1, y1.1, y2.1, y3.1, y4.1, y5.1, y6.1] ∧
      DataW.trod enc P w base spare held n f0.type [v0] = some y0 ∧ DataW.trod enc P w base spare held n f1.type [v1] = some y1 ∧ DataW.trod enc P w base spare held n f2.type [v2] = some y2 ∧ DataW.trod enc P w base spare held n f3.type [v3] = some y3 ∧ DataW.trod enc P w base spare held n f4.type [v4] = some y4 ∧ DataW.trod enc P w base spare held n f5.type [v5] = some y5 ∧ DataW.trod enc P w base spare held n f6.type [v6] = some y6 := by
  obtain ⟨cs, rfl, hsz⟩ := okWide_struct hs hv
  obtain ⟨l⟩ := cs
  match l, hsz.trans hC with
  | [c0, c1, c2, c3, c4, c5, c6], _ =>
    obtain ⟨fuel, hf⟩ := h
    obtain ⟨xs, n, _, hx, _, hlen, hg⟩ := DataW.trod_struct hs hf
    obtain ⟨o0, k0⟩ := hone_of hone 0 f0 rfl
    obtain ⟨o1, k1⟩ := hone_of hone 1 f1 rfl
    obtain ⟨o2, k2⟩ := hone_of hone 2 f2 rfl
    obtain ⟨o3, k3⟩ := hone_of hone 3 f3 rfl
    obtain ⟨o4, k4⟩ := hone_of hone 4 f4 rfl
    obtain ⟨o5, k5⟩ := hone_of hone 5 f5 rfl
    obtain ⟨o6, k6⟩ := hone_of hone 6 f6 rfl
    match xs, hlen with
    | [y0, y1, y2, y3, y4, y5, y6], _ =>
      simp only [Prod.mk.injEq] at hx
      exact ⟨c0, c1, c2, c3, c4, c5, c6, y0, y1, y2, y3, y4, y5, y6, n, rfl, by simpa using hx.1, by simpa [Value.cells, o0, k0] using hg 0 f0 rfl, by simpa [Value.cells, o1, k1] using hg 1 f1 rfl, by simpa [Value.cells, o2, k2] using hg 2 f2 rfl, by simpa [Value.cells, o3, k3] using hg 3 f3 rfl, by simpa [Value.cells, o4, k4] using hg 4 f4 rfl, by simpa [Value.cells, o5, k5] using hg 5 f5 rfl, by simpa [Value.cells, o6, k6] using hg 6 f6 rfl⟩
theorem row_ints {t e : TypeId} {fuel : Nat} {v : Value} {x : DataW H × List MemPlace} (ht : P.underlying t = some (.slice e)) (he : P.underlying e = some (.int .i64)) (hc : P.cellsOf e = 1)
    (h : DataW.trod enc P w base (fun _ => true) held fuel t [v] = some x) :
    ∃ (A : Option Addr) (l : List Int) (c : Nat), v = .slice A l.length c ∧ Kd.C (Kd.int .i64) w A l.length l ∧ l.length ≤ c ∧ l.length ≤ maxLen ∧ ∀ n ∈ l, (Lit.int .i64 n).wf = true := by
  rcases open_ints ht he hc h with ⟨hcs, _⟩ | ⟨a, len, cap, zs, hcs, _, hl, hm, hz, _, hcell, hw⟩
  · simp only [List.cons.injEq, and_true] at hcs
    subst hcs
    exact ⟨none, [], 0, rfl, ⟨rfl, by simp, fun h => absurd h (by simp)⟩, Nat.le_refl _, Nat.zero_le _, fun n hn => by simp at hn⟩
  · simp only [List.cons.injEq, and_true] at hcs
    subst hcs
    obtain ⟨l, rfl, hr, h1, h2, h3⟩ := ReadsInt.ofRowC (.inr ⟨a, rfl, hl, hm, by simpa using hz, hcell, hw⟩)
    exact ⟨some a, l, cap, rfl, Kd.C_of_reads (d := (0 : Int)) (h1 := fun _ => rfl) hr, h3, h1, h2⟩
set_option maxRecDepth 100000 in

theorem row_week {fuel : Nat} {v : Value} {x : DataW H × List MemPlace} {t : TypeId} (ht : Tryz.prog.underlying t = some (.slice 59))
    (h : DataW.trod enc Tryz.prog w base (fun _ => true) held fuel t [v] = some x) :
    ∃ (A : Option Addr) (l : List S59) (c : Nat), v = .slice A l.length c ∧ Kd.C k59 w A l.length l ∧ l.length ≤ c ∧ l.length ≤ maxLen ∧ ∀ x ∈ l, (Lit.int .i64 x.f0).wf = true ∧ (Lit.int .i64 x.f1).wf = true := by
  rcases open_slice ht h with ⟨hcs, _⟩ | ⟨a, len, cap, m, n, D, Pl, hcs, _, hl, hm, hmm, _, hi⟩
  · simp only [List.cons.injEq, and_true] at hcs
    subst hcs
    exact ⟨none, [], 0, rfl, ⟨rfl, by simp, fun h => absurd h (by simp)⟩, Nat.le_refl _, Nat.zero_le _, fun n hn => by simp at hn⟩
  · simp only [List.cons.injEq, and_true] at hcs
    subst hcs
    simp only [if_true] at hmm
    obtain rfl : cap = m := hmm.symm
    have hC : Tryz.prog.cellsOf 59 = 2 := by kernel_rfl
    have c3 : Tryz.prog.cellsOf 3 = 1 := by kernel_rfl
    have each : ∀ i, i < len → ∃ y : S59, w.cell? (a.add (i * 2)) = some (.int .i64 y.f0) ∧ w.cell? (a.add (i * 2 + 1)) = some (.int .i64 y.f1) ∧ (Lit.int .i64 y.f0).wf = true ∧ (Lit.int .i64 y.f1).wf = true := by
      intro i hil
      obtain ⟨cs', hc, ht'⟩ := hi i (by omega)
      rw [hC] at hc
      obtain ⟨ys, n', hn', hy, hlen, hyl, hf⟩ := DataW.trod_struct Tryz.underlying59 ht'
      obtain ⟨_, hcl, hat⟩ := World.cells?_some hc
      match cs', hcl with
      | [c0, c1], _ =>
        have g0 : DataW.trod enc Tryz.prog w base (fun _ => true) held n' 3 (([c0, c1].drop 0).take (Tryz.prog.cellsOf 3)) = _ := hf 0 _ rfl
        have g1 : DataW.trod enc Tryz.prog w base (fun _ => true) held n' 3 (([c0, c1].drop 1).take (Tryz.prog.cellsOf 3)) = _ := hf 1 _ rfl
        have hyl2 : ys.length = 2 := hyl
        rw [c3, List.getElem?_eq_getElem (by omega)] at g0 g1
        obtain ⟨x0, e0, _, w0⟩ := DataW.trod_int Tryz.underlying3 (show DataW.trod enc Tryz.prog w base (fun _ => true) held n' 3 [c0] = _ from g0)
        obtain ⟨x1, e1, _, w1⟩ := DataW.trod_int Tryz.underlying3 (show DataW.trod enc Tryz.prog w base (fun _ => true) held n' 3 [c1] = _ from g1)
        simp only [List.cons.injEq, and_true] at e0 e1
        subst e0 e1
        have h0 := hat (i := 0) (by omega)
        have h1 := hat (i := 1) (by omega)
        exact ⟨⟨x0, x1⟩, by simpa [Go.Deep.add_add] using h0, by simpa [Go.Deep.add_add] using h1, w0, w1⟩
    have hch : ∃ f : Nat → S59, ∀ i, i < len → w.cell? (a.add (i * 2)) = some (.int .i64 (f i).f0) ∧ w.cell? (a.add (i * 2 + 1)) = some (.int .i64 (f i).f1) ∧ (Lit.int .i64 (f i).f0).wf = true ∧ (Lit.int .i64 (f i).f1).wf = true := by
      refine Classical.axiomOfChoice (r := fun (i : Nat) (y : S59) => i < len → w.cell? (a.add (i * 2)) = some (.int .i64 y.f0) ∧ w.cell? (a.add (i * 2 + 1)) = some (.int .i64 y.f1) ∧ (Lit.int .i64 y.f0).wf = true ∧ (Lit.int .i64 y.f1).wf = true) (fun i => ?_)
      by_cases hil : i < len
      · obtain ⟨y, hy⟩ := each i hil
        exact ⟨y, fun _ => hy⟩
      · exact ⟨⟨0, 0⟩, fun h => absurd h hil⟩
    obtain ⟨f, hf⟩ := hch
    have e : ((List.range len).map f).length = len := by simp
    have hm' : len ≤ maxLen := Nat.le_trans hl hm
    refine ⟨some a, (List.range len).map f, cap, by rw [e], ⟨rfl, by rw [e]; simpa [maxLen] using hm', fun _ => ⟨a, rfl, fun j p hj => ?_⟩⟩, by rw [e]; exact hl, by rw [e]; exact hm', fun y hy => ?_⟩
    · have hjl : j < len := by
        have := (List.getElem?_eq_some_iff.mp hj).1
        simpa using this
      obtain rfl : f j = p := by simpa [hjl] using hj
      obtain ⟨g0, g1, _⟩ := hf j hjl
      refine ⟨[.int .i64 (f j).f0, .int .i64 (f j).f1], rfl, k59_mk w (f j), fun i u hu => ?_⟩
      rw [show k59.sz = 2 from rfl]
      match i, hu with
      | 0, hu => simp at hu; subst hu; simpa using g0
      | 1, hu => simp at hu; subst hu; exact g1
    · obtain ⟨i, hi', rfl⟩ := List.mem_map.mp hy
      exact (hf i (by simpa using hi')).2.2
structure RuleIn (w : World) (v : Value) (a0 a1 a2 a3 : Int) (A4 A5 A6 : Option Addr) (c4 c5 c6 : Nat) (l4 l5 : List Int) (l6 : List S59) : Prop where
  eq : v = .agg #[.int .i64 a0, .int .i64 a1, .int .i64 a2, .int .i64 a3, .slice A4 l4.length c4, .slice A5 l5.length c5, .slice A6 l6.length c6]
  w0 : (Lit.int .i64 a0).wf = true
  w1 : (Lit.int .i64 a1).wf = true
  w2 : (Lit.int .i64 a2).wf = true
  w3 : (Lit.int .i64 a3).wf = true
  r4 : Kd.C (Kd.int .i64) w A4 l4.length l4
  r5 : Kd.C (Kd.int .i64) w A5 l5.length l5
  r6 : Kd.C k59 w A6 l6.length l6
  k4 : l4.length ≤ c4
  k5 : l5.length ≤ c5
  k6 : l6.length ≤ c6
  m4 : l4.length ≤ maxLen
  m5 : l5.length ≤ maxLen
  m6 : l6.length ≤ maxLen
  s4 : l4.length * 8 ≤ 140737488351232
  s5 : l5.length * 8 ≤ 140737488351232
  f4 : ∀ n ∈ l4, (Lit.int .i64 n).wf = true
  f5 : ∀ n ∈ l5, (Lit.int .i64 n).wf = true
  f6 : ∀ x ∈ l6, (Lit.int .i64 x.f0).wf = true ∧ (Lit.int .i64 x.f1).wf = true
set_option maxRecDepth 100000 in
theorem open_rule {r : Reach} {b0 : Nat} {v : Value} {d : DataW H} {p : List MemPlace} (hv : Value.okWide Tryz.prog w r b0 25 v) (h : DataW.Trod enc Tryz.prog w base (fun _ => true) held 25 v d p) (hw : ∀ x ∈ d.weights Tryz.prog 25, x ≤ reachBytes) :
    ∃ a0 a1 a2 a3 A4 A5 A6 c4 c5 c6 l4 l5 l6, RuleIn w v a0 a1 a2 a3 A4 A5 A6 c4 c5 c6 l4 l5 l6 := by
  obtain ⟨v0, v1, v2, v3, v4, v5, v6, y0, y1, y2, y3, y4, y5, y6, n, rfl, rfl, h0, h1, h2, h3, h4, h5, h6⟩ := open_agg7 Tryz.underlying25 (by kernel_rfl) (by kernel_rfl) hv h
  obtain ⟨a0, e0, _, w0⟩ := DataW.trod_int Tryz.underlying3 (show DataW.trod enc Tryz.prog w base (fun _ => true) held n 3 [v0] = _ from h0)
  obtain ⟨a1, e1, _, w1⟩ := DataW.trod_int Tryz.underlying3 (show DataW.trod enc Tryz.prog w base (fun _ => true) held n 3 [v1] = _ from h1)
  obtain ⟨a2, e2, _, w2⟩ := DataW.trod_int Tryz.underlying3 (show DataW.trod enc Tryz.prog w base (fun _ => true) held n 3 [v2] = _ from h2)
  obtain ⟨a3, e3, _, w3⟩ := DataW.trod_int Tryz.underlying2 (show DataW.trod enc Tryz.prog w base (fun _ => true) held n 2 [v3] = _ from h3)
  simp only [List.cons.injEq, and_true] at e0 e1 e2 e3
  subst e0 e1 e2 e3
  obtain ⟨A4, l4, c4, rfl, r4, k4, m4, f4⟩ := row_ints Tryz.underlying22 Tryz.underlying3 (by kernel_rfl) (show DataW.trod enc Tryz.prog w base (fun _ => true) held n 22 [v4] = _ from h4)
  obtain ⟨A5, l5, c5, rfl, r5, k5, m5, f5⟩ := row_ints Tryz.underlying22 Tryz.underlying3 (by kernel_rfl) (show DataW.trod enc Tryz.prog w base (fun _ => true) held n 22 [v5] = _ from h5)
  obtain ⟨A6, l6, c6, rfl, r6, k6, m6, f6⟩ := row_week Tryz.underlying23 (show DataW.trod enc Tryz.prog w base (fun _ => true) held n 23 [v6] = _ from h6)
  have hin : (DataW.weightsEach Tryz.prog [3, 3, 3, 2, 22, 22, 23] [y0.1, y1.1, y2.1, y3.1, y4.1, y5.1, y6.1]).all (· ≤ reachBytes) = true := by
    rw [List.all_eq_true]
    intro x hx
    rw [decide_eq_true_eq]
    refine hw x ?_
    unfold DataW.weights
    rw [Tryz.underlying25]
    exact hx
  have s4 := sized_ints hin (j := 4) (t := 22) rfl rfl Tryz.underlying22 Tryz.underlying3 (by kernel_rfl) (B := 8) (by kernel_rfl) (a := A4) (len := l4.length) (cap := c4) (ps := y4.2) ⟨n, h4⟩
  have s5 := sized_ints hin (j := 5) (t := 22) rfl rfl Tryz.underlying22 Tryz.underlying3 (by kernel_rfl) (B := 8) (by kernel_rfl) (a := A5) (len := l5.length) (cap := c5) (ps := y5.2) ⟨n, h5⟩
  exact ⟨a0, a1, a2, a3, A4, A5, A6, c4, c5, c6, l4, l5, l6, rfl, w0, w1, w2, w3, r4, r5, r6, k4, k5, k6, m4, m5, m6, s4, s5, f4, f5, f6⟩
end
end Go.Proofs.YtfbmjonhohebiaaGreatDoor
end
section
set_option linter.unusedVariables false
set_option linter.unusedSimpArgs false
namespace Go.Proofs.YtfbmjonhohebiaaGreatDoor
open Go.RowKit Go.ChangeShapes Go.WideShapes
theorem returns_laid {H : Type} {enc : TypeId × Value → H} {a : Assume} {C : Checked} {os : Os} {f : FuncId} {fn : Func} {s : ChangeSpec} {conds : List PathCond} {apart fresh handsOn again : Bool} {X : World → Array Value → Prop}
    (hX : ∀ (w w' : World) (args : Array Value), w.heap = w'.heap → X w args → X w' args)
    (own : ownKnob C.prog.godebug = none) (started : os.Started) (noInit : C.prog.inits.idxOf? f = none) (hfn : C.prog.funcs[f]? = some fn)
    (witness : ∃ (w : World) (tape : Tape) (i : Input), w.os = os ∧ (w.forCall tape i).Shaped C.prog ∧ i.vars = [] ∧ Input.okWide C.prog (w.forCall tape i) .any w.heap.size f i ∧
      ((s.pre enc C.prog fn conds apart (w.forCall tape i).memory i.args ∧ X (w.forCall tape i).memory i.args) ∧ sizedMet enc C.prog fn (OpenSpec.ofChange s) apart (w.forCall tape i).memory i.args) ∧ a.holds C.prog (lone (Frame.enter C.prog f i.args .normal) [] (w.forCall tape i)))
    (contract : ∀ (W : World) (base : Nat) (args : Array Value) (ds gs : List (DataW H)) (before : List MemPlace),
      (∀ (j : Nat) t v, fn.params[j]? = some t → args[j]? = some v → Value.okWide C.prog W .any base t v) →
      DataW.Whole enc C.prog fn.params.toList s.vars apart W args.toList ds gs before →
      (DataW.weightsEach C.prog (fn.params.toList ++ s.plain.varTypes C.prog) (ds ++ gs)).all (· ≤ reachBytes) = true → X W args → W.ShapedOpen C.prog →
      Calls C.prog f args W fun e W' => ∃ v, e = .returned v ∧ s.post enc C.prog fn apart fresh handsOn again W args v W') :
    ReturnsInHanded a C os f .any (fun w args => (s.pre enc C.prog fn conds apart w args ∧ X w args) ∧ sizedMet enc C.prog fn (OpenSpec.ofChange s) apart w args) (s.post enc C.prog fn apart fresh handsOn again) := by
  refine returnsInHanded_of_calls own started noInit witness ?_
  intro w tape i _ hsh _ hok hpre hholds
  obtain ⟨_, _, _, fn', hfn', _, _, _, _, hval⟩ := hok
  have e : fn' = fn := Option.some.inj (hfn'.symm.trans hfn)
  subst e
  obtain ⟨⟨⟨ds, gs, before, hw, hc⟩, hx⟩, hz⟩ := hpre
  have hw' := DataW.Whole.of_heap (w' := w.forCall tape i) (by rfl) hw
  refine (contract (w.forCall tape i) w.heap.size i.args ds gs before hval hw' (hz.weights hw) (hX _ _ _ (by rfl) hx) hsh).mono fun e W' ⟨v, he, hp⟩ => ?_
  subst he
  exact ChangeSpec.post_blind hp
theorem iface_of_trod {H : Type} {enc : TypeId × Value → H} {P : Program} {w : World} {base : Nat} {sp : Nat → Bool} {held : Bool} {fuel : Nat} {t : TypeId} {ms : Array (String × TypeId)} {cs : List Value} {n : String} {d : DataW H} {p : List MemPlace}
    (ht : P.underlying t = some (.interface ms)) (h : DataW.trod enc P w base sp held fuel t cs = some (.iface n d, p)) : ∃ u v, cs = [.iface u v] := by
  cases fuel with
  | zero => simp [DataW.trod] at h
  | succ k =>
    unfold DataW.trod at h
    rw [ht] at h
    split at h <;> simp_all
theorem laid_iface {P : Program} {W : World} {name n : String} {d : DataW Unit} {rest : List (String × DataW Unit)} {g : Nat} {t : TypeId} {ms : Array (String × TypeId)}
    (hg : P.globalNamed name = some g) (hty : (P.globals[g]?).map (·.type) = some t) (ht : P.underlying t = some (.interface ms))
    (h : laidMet P ((name, .iface n d) :: rest) W) : ∃ tp p, W.var? P name = some #[.iface tp p] := by
  obtain ⟨ps, ⟨g', t', cs, fuel, p, q, hg', ht', hvar, hd, _, _⟩, _⟩ := h
  obtain rfl := Option.some.inj (hg.symm.trans hg')
  obtain rfl := Option.some.inj (hty.symm.trans ht')
  obtain ⟨u, v, e⟩ := iface_of_trod ht hd
  exact ⟨u, v, by rw [hvar, Array.eq_one_of_toList e]⟩
theorem laid_size {P : Program} {W : World} {name : String} {d : DataW Unit} {rest : List (String × DataW Unit)} {g : Nat} (hg : P.globalNamed name = some g)
    (h : laidMet P ((name, d) :: rest) W) : g < W.heap.size := by
  obtain ⟨ps, ⟨g', t', cs, fuel, p, q, hg', ht', hvar, hd, _, _⟩, _⟩ := h
  obtain rfl := Option.some.inj (hg.symm.trans hg')
  rcases Nat.lt_or_ge g W.heap.size with hlt | hge
  · exact hlt
  · unfold World.var? at hvar
    rw [hg] at hvar
    simp [Array.getElem?_eq_none hge] at hvar
abbrev laidL : List (String × DataW Unit) := Rows.recurMatchesRow.laid
theorem globs_of {W : World} (hsh : W.ShapedOpen Tryz.prog) (hL : laidMetH Tryz.prog laidL W) : Globs W := by
  rw [MakeChecks.laidMetH_plain _ _ _ (by kernel_rfl)] at hL
  have h1 := hL.filter (fun x => x.1 == "internal/strconv.uint64pow10")
  have h2 := hL.filter (fun x => x.1 == "strconv.ErrSyntax")
  have h3 := hL.filter (fun x => x.1 == "strconv.ErrRange")
  have h4 := hL.filter (fun x => x.1 == "math/bits.deBruijn64tab")
  rw [show laidL.filter (fun x => x.1 == "internal/strconv.uint64pow10") = [("internal/strconv.uint64pow10", Lib.tabData .u64 Lib.pow10Tab)] from by kernel_rfl] at h1
  rw [show laidL.filter (fun x => x.1 == "strconv.ErrSyntax") = [("strconv.ErrSyntax", Rows.laid_strconv_ErrSyntax)] from by kernel_rfl] at h2
  rw [show laidL.filter (fun x => x.1 == "strconv.ErrRange") = [("strconv.ErrRange", Rows.laid_strconv_ErrRange)] from by kernel_rfl] at h3
  rw [show laidL.filter (fun x => x.1 == "math/bits.deBruijn64tab") = [("math/bits.deBruijn64tab", Rows.laid_math_bits_deBruijn64tab)] from by kernel_rfl] at h4
  refine ⟨?_, ?_, ?_, ?_, ?_⟩
  · have := laid_size (g := 7) (by kernel_rfl) h4
    omega
  · exact cell_of_shapedOpen_int (t := 3) (zero := #[.int .i64 0]) hsh (by decide +kernel) (by kernel_rfl) rfl (by kernel_rfl) (by kernel_rfl) Tryz.underlying3
  · exact Lib.tabIs_of_head (g := 1) (by kernel_rfl) (by kernel_rfl) Tryz.underlying164 Tryz.underlying143 (by kernel_rfl) (by kernel_rfl) h1
  · exact laid_iface (g := 4) (by kernel_rfl) (by kernel_rfl) Tryz.underlying100 h2
  · exact laid_iface (g := 5) (by kernel_rfl) (by kernel_rfl) Tryz.underlying100 h3
theorem own_knob : ownKnob Tryz.prog.godebug = none := by kernel_rfl
theorem laid_out : laidOutB Tryz.prog = true := by kernel_rfl
end Go.Proofs.YtfbmjonhohebiaaGreatDoor
end
section
set_option linter.unusedVariables false
set_option linter.unusedSimpArgs false
namespace Go.Proofs.YtfbmjonhohebiaaGreatDoor.cmatch
open Go.RowKit Go.ChangeShapes Go.WideShapes Go.ChangeAt
theorem aliveC : AliveC Globs := ⟨fun h hb => h.below hb, fun h => law21_alive _ h⟩
set_option maxRecDepth 100000 in
theorem lifted (os : Os) (started : os.Started) (H : Type) (enc : TypeId × Value → H) :
    ReturnsInHanded {} Tryz.checked os 3 .any (fun w args => (Rows.recurMatchesSpec.pre enc Tryz.prog Tryz.f3 [] false w args ∧ laidMetH Tryz.prog laidL w) ∧ sizedMet enc Tryz.prog Tryz.f3 (OpenSpec.ofChange Rows.recurMatchesSpec) false w args)
      (Rows.recurMatchesSpec.post enc Tryz.prog Tryz.f3 false true false false) := by
  refine returns_laid (C := Tryz.checked) (X := fun w _ => laidMetH Tryz.prog laidL w) (fun _ _ _ hh h => h.of_heap hh) own_knob started (by kernel_rfl) Tryz.func3
    (ChangeSpec.witness_shaped (enc := enc) (C := Tryz.checked) (os := os) (X := fun w _ => laidMetH Tryz.prog laidL w) false (World.laidAll Tryz.prog os laidL) #[.agg #[.int .i64 0, .int .i64 0, .int .i64 0, .int .i64 0, .slice none 0 0, .slice none 0 0, .slice none 0 0], .int .i64 0, .int .i64 0] 8 (World.laidAll_os _ _ _)
      (World.shaped_of_ZipB (by kernel_rfl) (by kernel_rfl)) (by kernel_rfl) (by kernel_rfl) (by kernel_rfl)
      (by rw [MakeChecks.laidMetH_plain _ _ _ (by kernel_rfl)]; exact laidMet_laidAll _ (by kernel_rfl) (by kernel_rfl))) ?_
  intro W base args ds gs before hval0 hW hsz0 hL hsh
  have hval : ∀ (j : Nat) t v, Tryz.f3.params[j]? = some t → args[j]? = some v → Value.okWide Tryz.prog W .any base t v := hval0
  have hW' := hW
  obtain ⟨p, q, hA0, hV, rfl, hfz, hnd⟩ := hW
  have hA : DataW.TrodAll enc Tryz.prog W 0 (fun _ => true) true Tryz.f3.params.toList args.toList ds p := hA0
  rw [Tryz.params3] at hA hval
  obtain ⟨v0, vs0, d0, ds0, p0, q0, hargs, rfl, rfl, h0, r0⟩ := trodAll_cons hA
  obtain ⟨v1, vs1, d1, ds1, p1, q1, rfl, rfl, rfl, h1, r1⟩ := trodAll_cons r0
  obtain ⟨v2, vs2, d2, ds2, p2, q2, rfl, rfl, rfl, h2, r2⟩ := trodAll_cons r1
  obtain ⟨rfl, rfl, rfl⟩ := trodAll_nil r2
  obtain rfl : args = #[v0, v1, v2] := by cases args; simp_all
  obtain ⟨rfl, rfl⟩ := trodVars_none hV
  have k0 := h0
  have lt0 : ∀ x ∈ p0, x.block < W.heap.size := by obtain ⟨m, hm⟩ := k0; exact DataW.trod_lt m _ _ _ hm
  obtain ⟨a0, a1, a2, a3, A4, A5, A6, c4, c5, c6, l4, l5, l6, hR⟩ := open_rule (hval 0 25 v0 rfl rfl) h0 (fun x hx => by simpa using List.all_eq_true.1 hsz0 x (DataW.weights_mem_each (j := 0) rfl rfl x hx))
  obtain rfl := hR.eq
  obtain ⟨x1, rfl, rfl, rfl, w1⟩ := open_int Tryz.underlying2 (hval 1 2 v1 rfl rfl) h1
  obtain ⟨x2, rfl, rfl, rfl, w2⟩ := open_int Tryz.underlying2 (hval 2 2 v2 rfl rfl) h2
  have hLs : Lists W A4 A5 A6 c4 c5 c6 l4 l5 l6 := ⟨hR.r4, hR.k4, hR.r5, hR.k5, hR.r6, hR.k6⟩
  have hlen : (l4.length + l5.length : Int) ≤ 9223372036854775807 := by have := hR.s4; have := hR.s5; omega
  clear hA0 hval0 hsz0
  refine (law_matches aliveC hLs hR.m4 hR.m5 hlen x1 x2 (globs_of hsh hL)).mono fun e W' ⟨he, bel⟩ => ?_
  subst he
  exact ⟨_, rfl, _, _, _, [], _, [], hW', trodAll_mk1 (shut_bool Tryz.underlying4 _), (trodAll_cons_mk (Below.trod laid_out (by kernel_rfl) (of_decide_eq_true (by kernel_rfl)) k0 bel lt0) (trodAll_cons_mk (shut_int Tryz.underlying2 w1) (trodAll_cons_mk (shut_int Tryz.underlying2 w2) trodAll_mk0))), rfl, bel.frame _, fun h => by cases h⟩
theorem row_holds : Rows.RecurMatchesSaid :=
  OpenClaim.holds_of_wide 3 Tryz.f3 rfl rfl rfl rfl rfl rfl rfl ⟨rfl, rfl, rfl, rfl, rfl⟩ rfl rfl rfl rfl rfl (by kernel_rfl) Tryz.func3 (by kernel_rfl)
    (of_decide_eq_true (by kernel_rfl)) (by unfold Func.isWrapper; first | (rw [if_pos (by decide +kernel)]; kernel_rfl) | (rw [if_neg (by decide +kernel)]; exact ⟨rfl, rfl⟩))
    (fun os started H enc _ => lifted os started H enc)
end Go.Proofs.YtfbmjonhohebiaaGreatDoor.cmatch
namespace Go.Proofs.YtfbmjonhohebiaaGreatDoor
open Go
theorem recurMatches_holds : Rows.RecurMatchesCardSaid :=
  Claim7.holds_tied_plain_at .later [] [.data, .data, .data, .data, .sentinel, .sentinel, .pinned] true (true, "b33394aeb83eeb3d9ebe71b8d15df1c6d715091045c1a0291b5a9f923bae1d65") true cmatch.row_holds (fun _ h => by cases h) (by kernel_rfl) (fun _ h => by cases h) recurMatches_row_tie rfl ⟨rfl, rfl⟩ (by kernel_rfl) rfl
    (fun f fn hf hfn => by
      obtain rfl : f = 3 := Option.some.inj ((show Tryz.prog.funcNamed "posthorn/posthornlaw21.RecurMatches" = some 3 by kernel_rfl).symm.trans hf) |>.symm
      obtain rfl : fn = Tryz.f3 := (Option.some.inj (Tryz.func3.symm.trans hfn)).symm
      exact ⟨by kernel_rfl, fun j t ht => by
        rw [Tryz.params3] at ht
        have hm : t ∈ [25, 2, 2] := by simpa using Array.mem_of_getElem? ht
        have hall : ([25, 2, 2].all fun u => !Tryz.prog.wantsStandIn u) = true := by kernel_rfl
        exact (show Tryz.prog.wantsStandIn t = false by simpa using List.all_eq_true.1 hall t hm)⟩)
    (by kernel_rfl)
end Go.Proofs.YtfbmjonhohebiaaGreatDoor
end
