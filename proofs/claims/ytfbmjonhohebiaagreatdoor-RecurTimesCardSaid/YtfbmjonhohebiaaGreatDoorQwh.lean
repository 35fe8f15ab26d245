/- Texts merged: what the law needs, and no more. -/
import Derived.Test.YtfbmjonhohebiaaGreatDoorQwe
import Derived.Shelf.SlSortCmp.NoneTotal
import Derived.Ground.SlsfProg
import Derived.Shelf.Strings.Builder1
import Derived.Shelf.Strings.Builder2
import Derived.Shelf.Strings.OnBuilder
import Derived.Shelf.Small.Bits
import Derived.Shelf.Small.Wraps
import Derived.Shelf.Strings.BuilderF
import Derived.Shelf.Strings.BuilderK
import Derived.Shelf.Strings.Builder2Cap
import Derived.Shelf.Strconv.Atoi
import Derived.Shelf.Strconv.Itoa0
import Derived.Shelf.Strconv.Itoa1
import Derived.Shelf.LaysM
import Derived.Shelf.Strconv.Itoa2
import Derived.Shelf.Strconv.Itoa3
import Derived.Shelf.Strconv.AtoiErrFast
import Derived.Shelf.Strconv.ParseIntEmpty
import Derived.Shelf.Strconv.AtoiFail
import Derived.Shelf.Strconv.Clone
import Derived.Shelf.Strconv.SyntaxError
import Derived.Shelf.LaysC
import Derived.Shelf.Strconv.ToError
import Derived.Shelf.Strconv.AtoiErr
import Derived.Shelf.Strconv.ErrVar
import Derived.Shelf.Strconv.Lower
import Derived.Shelf.Strconv.ParseUint10
import Derived.Shelf.Strconv.ParseUint10Empty
import Derived.Shelf.Strconv.ParseUint10Any
import Derived.Shelf.Strconv.ParseInt10
import Derived.Shelf.Strconv.AtoiLong
import Derived.Shelf.Strconv.AtoiInnerAll
import Derived.Shelf.Strconv.RangeError
import Derived.Shelf.Strconv.ToErrorRange
import Derived.Shelf.Strconv.AtoiAll
import Derived.Shelf.Strconv.ErrVarAll
import Derived.Shelf.Strconv.ParseUintEmpty
import Derived.Shelf.Strconv.ParseUint10b64
import Derived.Shelf.Strconv.ParseUint10b32
import Derived.Shelf.Strconv.ParseUint10b16
import Derived.Shelf.Strconv.ParseUint10b8
import Derived.Shelf.Strconv.ParseUint10At
import Derived.Shelf.Strconv.ParseInt10At64
import Derived.Shelf.Strconv.ParseInt10At32
import Derived.Shelf.Strconv.ParseInt10At16
import Derived.Shelf.Strconv.ParseInt10At8
import Derived.Shelf.Strconv.ParseInt10All
import Derived.Shelf.Strings.Search1
import Derived.Shelf.Strings.Search2
import Derived.Shelf.Strings.Search3
import Derived.Shelf.Strings.Cut
import Derived.Shelf.Strings.Count
import Derived.Shelf.Strings.Shaped
import Derived.Shelf.Sort.Plain
import Derived.Shelf.Strings.Prefix
import Derived.Shelf.Strings.Split
import Derived.Shelf.Strings.SplitShaped
import Derived.Shelf.Bits.Mul64
import Derived.Shelf.Unicode.DecodeSlow
import Derived.Shelf.Strings.BuilderCap
import Derived.Shelf.Slices.In.SortNone
import Derived.WalkSmall
import Derived.Deep.RegionWith
section
namespace Go.Proofs
open Go.Shelf
def Tryz.sortWd_ren : Go.Shelf.Ren := ⟨fun | 6 => 105 | 15 => 131 | 14 => 133 | 28 => 159 | 29 => 135 | 20 => 160 | 21 => 161 | 22 => 162 | 23 => 163 | 24 => 164 | 25 => 165 | 26 => 166 | 27 => 167 | 46 => 179 | 47 => 174 | 48 => 175 | 49 => 180 | 50 => 181 | 57 => 185 | n => n, fun | 22 => 23 | 24 => 59 | 25 => 80 | 3 => 3 | 39 => 148 | 0 => 0 | 53 => 165 | 55 => 143 | 4 => 4 | 46 => 180 | 45 => 179 | 50 => 106 | 5 => 5 | 9 => 9 | 66 => 200 | 70 => 204 | 76 => 215 | 77 => 216 | n => n, fun | n => n⟩
theorem Tryz.sortWd : Go.Proofs.SlLaysF0.n6 Tryz.prog Tryz.sortWd_ren := {
  mixed := by kernel_rfl
  f6 := ⟨Tryz.f105.name, by decide, Tryz.func105.trans (congrArg some (by kernel_rfl))⟩
  f14 := ⟨Tryz.f133.name, by decide, Tryz.func133.trans (congrArg some (by kernel_rfl))⟩
  f15 := Tryz.func131.trans (congrArg some (by kernel_rfl))
  f20 := ⟨Tryz.f160.name, by decide, Tryz.func160.trans (congrArg some (by kernel_rfl))⟩
  f21 := ⟨Tryz.f161.name, by decide, Tryz.func161.trans (congrArg some (by kernel_rfl))⟩
  f22 := ⟨Tryz.f162.name, by decide, Tryz.func162.trans (congrArg some (by kernel_rfl))⟩
  f23 := ⟨Tryz.f163.name, by decide, Tryz.func163.trans (congrArg some (by kernel_rfl))⟩
  f24 := ⟨Tryz.f164.name, by decide, Tryz.func164.trans (congrArg some (by kernel_rfl))⟩
  f25 := ⟨Tryz.f165.name, by decide, Tryz.func165.trans (congrArg some (by kernel_rfl))⟩
  f26 := ⟨Tryz.f166.name, by decide, Tryz.func166.trans (congrArg some (by kernel_rfl))⟩
  f27 := ⟨Tryz.f167.name, by decide, Tryz.func167.trans (congrArg some (by kernel_rfl))⟩
  f28 := Tryz.func159.trans (congrArg some (by kernel_rfl))
  f29 := Tryz.func135.trans (congrArg some (by kernel_rfl))
  f46 := ⟨Tryz.f179.name, by decide, Tryz.func179.trans (congrArg some (by kernel_rfl))⟩
  f47 := Tryz.func174.trans (congrArg some (by kernel_rfl))
  f48 := Tryz.func175.trans (congrArg some (by kernel_rfl))
  f49 := ⟨Tryz.f180.name, by decide, Tryz.func180.trans (congrArg some (by kernel_rfl))⟩
  f50 := ⟨Tryz.f181.name, by decide, Tryz.func181.trans (congrArg some (by kernel_rfl))⟩
  f57 := ⟨Tryz.f185.name, by decide, Tryz.func185.trans (congrArg some (by kernel_rfl))⟩
  t0 := Tryz.underlying0
  a0 := Tryz.isAgg0
  z0 := Tryz.sizeOf0
  v0 := Tryz.zeroValue0
  t3 := Tryz.underlying3
  a3 := Tryz.isAgg3
  z3 := Tryz.sizeOf3
  v3 := Tryz.zeroValue3
  t4 := Tryz.underlying4
  a4 := Tryz.isAgg4
  z4 := Tryz.sizeOf4
  v4 := Tryz.zeroValue4
  t5 := Tryz.underlying5
  a5 := Tryz.isAgg5
  z5 := Tryz.sizeOf5
  v5 := Tryz.zeroValue5
  t9 := Tryz.underlying9
  a9 := Tryz.isAgg9
  z9 := Tryz.sizeOf9
  v9 := Tryz.zeroValue9
  t22 := Tryz.underlying23
  a22 := Tryz.isAgg23
  z22 := Tryz.sizeOf23
  v22 := Tryz.zeroValue23
  t25 := Tryz.underlying80
  a25 := Tryz.isAgg80
  z25 := Tryz.sizeOf80
  v25 := Tryz.zeroValue80
  t39 := Tryz.underlying148
  a39 := Tryz.isAgg148
  z39 := Tryz.sizeOf148
  v39 := Tryz.zeroValue148
  t45 := Tryz.underlying179
  a45 := Tryz.isAgg179
  z45 := Tryz.sizeOf179
  v45 := Tryz.zeroValue179
  t46 := Tryz.underlying180
  a46 := Tryz.isAgg180
  z46 := Tryz.sizeOf180
  v46 := Tryz.zeroValue180
  t50 := Tryz.underlying106
  a50 := Tryz.isAgg106
  z50 := Tryz.sizeOf106
  v50 := Tryz.zeroValue106
  t53 := Tryz.underlying165
  a53 := Tryz.isAgg165
  z53 := Tryz.sizeOf165
  v53 := Tryz.zeroValue165
  t55 := Tryz.underlying143
  a55 := Tryz.isAgg143
  z55 := Tryz.sizeOf143
  v55 := Tryz.zeroValue143
  t66 := Tryz.underlying200
  a66 := Tryz.isAgg200
  z66 := Tryz.sizeOf200
  v66 := Tryz.zeroValue200
  t70 := Tryz.underlying204
  a70 := Tryz.isAgg204
  z70 := Tryz.sizeOf204
  v70 := Tryz.zeroValue204
  t76 := Tryz.underlying215
  a76 := Tryz.isAgg215
  z76 := Tryz.sizeOf215
  v76 := Tryz.zeroValue215
  t77 := Tryz.underlying216
  a77 := Tryz.isAgg216
  z77 := Tryz.sizeOf216
  v77 := Tryz.zeroValue216 }
end Go.Proofs
end
section
namespace Go.Proofs
open Go.Shelf
def Tryz.lays103_ren : Go.Shelf.Ren := ⟨fun | 103 => 104 | 210 => 132 | 206 => 141 | n => n, fun | 9 => 9 | 4 => 4 | 24 => 134 | 3 => 3 | n => n, fun | n => n⟩
theorem Tryz.lays103 : Go.Proofs.Lays.n103 Tryz.prog Tryz.lays103_ren := {
  mixed := by kernel_rfl
  f103 := Tryz.func104.trans (congrArg some (by kernel_rfl))
  f206 := Tryz.func141.trans (congrArg some (by kernel_rfl))
  f210 := Tryz.func132.trans (congrArg some (by kernel_rfl))
  t3 := Tryz.underlying3
  a3 := Tryz.isAgg3
  z3 := Tryz.sizeOf3
  v3 := Tryz.zeroValue3
  t4 := Tryz.underlying4
  a4 := Tryz.isAgg4
  z4 := Tryz.sizeOf4
  v4 := Tryz.zeroValue4
  t9 := Tryz.underlying9
  a9 := Tryz.isAgg9
  z9 := Tryz.sizeOf9
  v9 := Tryz.zeroValue9
  t24 := Tryz.underlying134
  a24 := Tryz.isAgg134
  z24 := Tryz.sizeOf134
  v24 := Tryz.zeroValue134 }
open Go.RowKit in

theorem Tryz.strings_CutPrefix (s p : ByteArray) (w : World) :
    Calls Tryz.prog 104 #[.string s, .string p] w fun e w' => e = .returned (.tuple #[.string ⟨(Lib.trimPrefix s.data.toList p.data.toList).toArray⟩, .bool (Lib.hasPrefix s.data.toList p.data.toList)]) ∧ w' = w := Any.strings_CutPrefix Tryz.lays103 s p w
def Tryz.laysM171_ren : Go.Shelf.Ren := ⟨fun | 171 => 34 | 243 => 66 | 246 => 92 | 283 => 112 | 284 => 113 | 285 => 114 | 286 => 115 | 129 => 135 | 317 => 134 | 318 => 136 | 319 => 137 | 320 => 138 | 337 => 168 | 338 => 169 | n => n, fun | 3 => 3 | 9 => 9 | 2 => 2 | 4 => 4 | 171 => 142 | 0 => 0 | 53 => 143 | 37 => 95 | 5 => 5 | 173 => 146 | 212 => 164 | 51 => 165 | 20 => 20 | 213 => 166 | 46 => 148 | 232 => 208 | 233 => 209 | n => n, fun | 17 => 1 | 18 => 6 | 19 => 7 | n => n⟩
theorem Tryz.laysM171 : Go.Proofs.LaysM.n171 Tryz.prog Tryz.laysM171_ren := {
  mixed := by kernel_rfl
  f129 := Tryz.func135.trans (congrArg some (by kernel_rfl))
  f171 := Tryz.func34.trans (congrArg some (by kernel_rfl))
  f243 := Tryz.func66.trans (congrArg some (by kernel_rfl))
  f246 := Tryz.func92.trans (congrArg some (by kernel_rfl))
  f283 := Tryz.func112.trans (congrArg some (by kernel_rfl))
  f284 := Tryz.func113.trans (congrArg some (by kernel_rfl))
  f285 := Tryz.func114.trans (congrArg some (by kernel_rfl))
  f286 := Tryz.func115.trans (congrArg some (by kernel_rfl))
  f317 := Tryz.func134.trans (congrArg some (by kernel_rfl))
  f318 := Tryz.func136.trans (congrArg some (by kernel_rfl))
  f319 := Tryz.func137.trans (congrArg some (by kernel_rfl))
  f320 := Tryz.func138.trans (congrArg some (by kernel_rfl))
  f337 := Tryz.func168.trans (congrArg some (by kernel_rfl))
  f338 := Tryz.func169.trans (congrArg some (by kernel_rfl))
  t0 := Tryz.underlying0
  a0 := Tryz.isAgg0
  z0 := Tryz.sizeOf0
  v0 := Tryz.zeroValue0
  t2 := Tryz.underlying2
  a2 := Tryz.isAgg2
  z2 := Tryz.sizeOf2
  v2 := Tryz.zeroValue2
  t3 := Tryz.underlying3
  a3 := Tryz.isAgg3
  z3 := Tryz.sizeOf3
  v3 := Tryz.zeroValue3
  t4 := Tryz.underlying4
  a4 := Tryz.isAgg4
  z4 := Tryz.sizeOf4
  v4 := Tryz.zeroValue4
  t5 := Tryz.underlying5
  a5 := Tryz.isAgg5
  z5 := Tryz.sizeOf5
  v5 := Tryz.zeroValue5
  t9 := Tryz.underlying9
  a9 := Tryz.isAgg9
  z9 := Tryz.sizeOf9
  v9 := Tryz.zeroValue9
  t20 := Tryz.underlying20
  a20 := Tryz.isAgg20
  z20 := Tryz.sizeOf20
  v20 := Tryz.zeroValue20
  t37 := Tryz.underlying95
  a37 := Tryz.isAgg95
  z37 := Tryz.sizeOf95
  v37 := Tryz.zeroValue95
  t46 := Tryz.underlying148
  a46 := Tryz.isAgg148
  z46 := Tryz.sizeOf148
  v46 := Tryz.zeroValue148
  t51 := Tryz.underlying165
  a51 := Tryz.isAgg165
  z51 := Tryz.sizeOf165
  v51 := Tryz.zeroValue165
  t53 := Tryz.underlying143
  a53 := Tryz.isAgg143
  z53 := Tryz.sizeOf143
  v53 := Tryz.zeroValue143
  t171 := Tryz.underlying142
  a171 := Tryz.isAgg142
  z171 := Tryz.sizeOf142
  v171 := Tryz.zeroValue142
  t173 := Tryz.underlying146
  a173 := Tryz.isAgg146
  z173 := Tryz.sizeOf146
  v173 := Tryz.zeroValue146
  t212 := Tryz.underlying164
  a212 := Tryz.isAgg164
  z212 := Tryz.sizeOf164
  v212 := Tryz.zeroValue164
  t213 := Tryz.underlying166
  a213 := Tryz.isAgg166
  z213 := Tryz.sizeOf166
  t232 := Tryz.underlying208
  a232 := Tryz.isAgg208
  z232 := Tryz.sizeOf208
  v232 := Tryz.zeroValue208
  t233 := Tryz.underlying209
  a233 := Tryz.isAgg209
  z233 := Tryz.sizeOf209
  v233 := Tryz.zeroValue209
  g17 := by kernel_rfl
  g18 := by kernel_rfl
  g19 := by kernel_rfl
  i0 := by kernel_rfl
  i2 := by kernel_rfl
  i3 := by kernel_rfl
  i4 := by kernel_rfl
  i5 := by kernel_rfl
  i9 := by kernel_rfl
  i20 := by kernel_rfl
  i37 := by kernel_rfl
  i46 := by kernel_rfl
  i51 := by kernel_rfl
  i53 := by kernel_rfl
  i171 := by kernel_rfl
  i173 := by kernel_rfl
  i212 := by kernel_rfl
  i232 := by kernel_rfl
  i233 := by kernel_rfl
  m17 := by kernel_rfl
  m18 := by kernel_rfl
  m19 := by kernel_rfl }
open Go.RowKit Go.Sort Go.Lib in

theorem Tryz.strconv_Itoa (n : Int) (h0 : -9223372036854775808 ≤ n) (h1 : n ≤ 9223372036854775807) (w : World) (htab : Lib.TabIs Tryz.prog w "internal/strconv.uint64pow10" .u64 Lib.pow10Tab) :
    Calls Tryz.prog 34 #[.int .i64 n] w fun e w' => e = .returned (.string ⟨(Lib.itoa n).toArray⟩) ∧ ∃ k os, w' = grow (w.drewN k) os := Any.strconv_Itoa Tryz.laysM171 n h0 h1 w htab
def Tryz.laysC172_ren : Go.Shelf.Ren := ⟨fun | 172 => 100 | 244 => 128 | 245 => 129 | 247 => 145 | 279 => 146 | 280 => 147 | 281 => 148 | 282 => 149 | 287 => 170 | 316 => 171 | 171 => 34 | 205 => 172 | 321 => 182 | 322 => 183 | 243 => 66 | 246 => 92 | 283 => 112 | 284 => 113 | 285 => 114 | 286 => 115 | 129 => 135 | 317 => 134 | 318 => 136 | 319 => 137 | 320 => 138 | 337 => 168 | 338 => 169 | n => n, fun | 9 => 9 | 3 => 3 | 75 => 100 | 76 => 101 | 4 => 4 | 5 => 5 | 167 => 172 | 37 => 95 | 0 => 0 | 85 => 173 | 2 => 2 | 168 => 175 | 53 => 143 | 175 => 195 | 46 => 148 | 210 => 198 | 127 => 128 | 145 => 214 | 143 => 212 | 21 => 21 | 171 => 142 | 173 => 146 | 212 => 164 | 51 => 165 | 20 => 20 | 213 => 166 | 232 => 208 | 233 => 209 | 80 => 103 | n => n, fun | 15 => 4 | 16 => 5 | 17 => 1 | 18 => 6 | 19 => 7 | n => n⟩
theorem Tryz.laysC172 : Go.Proofs.LaysC.n172 Tryz.prog Tryz.laysC172_ren := {
  mixed := by kernel_rfl
  f129 := Tryz.func135.trans (congrArg some (by kernel_rfl))
  f171 := Tryz.func34.trans (congrArg some (by kernel_rfl))
  f172 := Tryz.func100.trans (congrArg some (by kernel_rfl))
  f205 := Tryz.func172.trans (congrArg some (by kernel_rfl))
  f243 := Tryz.func66.trans (congrArg some (by kernel_rfl))
  f244 := Tryz.func128.trans (congrArg some (by kernel_rfl))
  f245 := Tryz.func129.trans (congrArg some (by kernel_rfl))
  f246 := Tryz.func92.trans (congrArg some (by kernel_rfl))
  f247 := Tryz.func145.trans (congrArg some (by kernel_rfl))
  f279 := Tryz.func146.trans (congrArg some (by kernel_rfl))
  f280 := Tryz.func147.trans (congrArg some (by kernel_rfl))
  f281 := Tryz.func148.trans (congrArg some (by kernel_rfl))
  f282 := Tryz.func149.trans (congrArg some (by kernel_rfl))
  f283 := Tryz.func112.trans (congrArg some (by kernel_rfl))
  f284 := Tryz.func113.trans (congrArg some (by kernel_rfl))
  f285 := Tryz.func114.trans (congrArg some (by kernel_rfl))
  f286 := Tryz.func115.trans (congrArg some (by kernel_rfl))
  f287 := Tryz.func170.trans (congrArg some (by kernel_rfl))
  f316 := Tryz.func171.trans (congrArg some (by kernel_rfl))
  f317 := Tryz.func134.trans (congrArg some (by kernel_rfl))
  f318 := Tryz.func136.trans (congrArg some (by kernel_rfl))
  f319 := Tryz.func137.trans (congrArg some (by kernel_rfl))
  f320 := Tryz.func138.trans (congrArg some (by kernel_rfl))
  f321 := Tryz.func182.trans (congrArg some (by kernel_rfl))
  f322 := Tryz.func183.trans (congrArg some (by kernel_rfl))
  f337 := Tryz.func168.trans (congrArg some (by kernel_rfl))
  f338 := Tryz.func169.trans (congrArg some (by kernel_rfl))
  t0 := Tryz.underlying0
  a0 := Tryz.isAgg0
  z0 := Tryz.sizeOf0
  v0 := Tryz.zeroValue0
  t2 := Tryz.underlying2
  a2 := Tryz.isAgg2
  z2 := Tryz.sizeOf2
  v2 := Tryz.zeroValue2
  t3 := Tryz.underlying3
  a3 := Tryz.isAgg3
  z3 := Tryz.sizeOf3
  v3 := Tryz.zeroValue3
  t4 := Tryz.underlying4
  a4 := Tryz.isAgg4
  z4 := Tryz.sizeOf4
  v4 := Tryz.zeroValue4
  t5 := Tryz.underlying5
  a5 := Tryz.isAgg5
  z5 := Tryz.sizeOf5
  v5 := Tryz.zeroValue5
  t9 := Tryz.underlying9
  a9 := Tryz.isAgg9
  z9 := Tryz.sizeOf9
  v9 := Tryz.zeroValue9
  t20 := Tryz.underlying20
  a20 := Tryz.isAgg20
  z20 := Tryz.sizeOf20
  v20 := Tryz.zeroValue20
  t21 := Tryz.underlying21
  a21 := Tryz.isAgg21
  z21 := Tryz.sizeOf21
  v21 := Tryz.zeroValue21
  t37 := Tryz.underlying95
  a37 := Tryz.isAgg95
  z37 := Tryz.sizeOf95
  v37 := Tryz.zeroValue95
  t46 := Tryz.underlying148
  a46 := Tryz.isAgg148
  z46 := Tryz.sizeOf148
  v46 := Tryz.zeroValue148
  t51 := Tryz.underlying165
  a51 := Tryz.isAgg165
  z51 := Tryz.sizeOf165
  v51 := Tryz.zeroValue165
  t53 := Tryz.underlying143
  a53 := Tryz.isAgg143
  z53 := Tryz.sizeOf143
  v53 := Tryz.zeroValue143
  t75 := Tryz.underlying100
  a75 := Tryz.isAgg100
  z75 := Tryz.sizeOf100
  v75 := Tryz.zeroValue100
  t76 := Tryz.underlying101
  a76 := Tryz.isAgg101
  z76 := Tryz.sizeOf101
  v76 := Tryz.zeroValue101
  t85 := Tryz.underlying173
  a85 := Tryz.isAgg173
  z85 := Tryz.sizeOf173
  v85 := Tryz.zeroValue173
  t127 := Tryz.underlying128
  a127 := Tryz.isAgg128
  z127 := Tryz.sizeOf128
  v127 := Tryz.zeroValue128
  t143 := Tryz.underlying212
  a143 := Tryz.isAgg212
  z143 := Tryz.sizeOf212
  v143 := Tryz.zeroValue212
  t145 := Tryz.underlying214
  a145 := Tryz.isAgg214
  z145 := Tryz.sizeOf214
  v145 := Tryz.zeroValue214
  t167 := Tryz.underlying172
  a167 := Tryz.isAgg172
  z167 := Tryz.sizeOf172
  v167 := Tryz.zeroValue172
  t168 := Tryz.underlying175
  a168 := Tryz.isAgg175
  z168 := Tryz.sizeOf175
  v168 := Tryz.zeroValue175
  t171 := Tryz.underlying142
  a171 := Tryz.isAgg142
  z171 := Tryz.sizeOf142
  v171 := Tryz.zeroValue142
  t173 := Tryz.underlying146
  a173 := Tryz.isAgg146
  z173 := Tryz.sizeOf146
  v173 := Tryz.zeroValue146
  t175 := Tryz.underlying195
  a175 := Tryz.isAgg195
  z175 := Tryz.sizeOf195
  v175 := Tryz.zeroValue195
  t210 := Tryz.underlying198
  a210 := Tryz.isAgg198
  z210 := Tryz.sizeOf198
  v210 := Tryz.zeroValue198
  t212 := Tryz.underlying164
  a212 := Tryz.isAgg164
  z212 := Tryz.sizeOf164
  v212 := Tryz.zeroValue164
  t213 := Tryz.underlying166
  a213 := Tryz.isAgg166
  z213 := Tryz.sizeOf166
  t232 := Tryz.underlying208
  a232 := Tryz.isAgg208
  z232 := Tryz.sizeOf208
  v232 := Tryz.zeroValue208
  t233 := Tryz.underlying209
  a233 := Tryz.isAgg209
  z233 := Tryz.sizeOf209
  v233 := Tryz.zeroValue209
  g15 := by kernel_rfl
  g16 := by kernel_rfl
  g17 := by kernel_rfl
  g18 := by kernel_rfl
  g19 := by kernel_rfl
  t80 := Tryz.underlying103
  a80 := Tryz.isAgg103
  z80 := Tryz.sizeOf103
  v80 := Tryz.zeroValue103
  i0 := by kernel_rfl
  i2 := by kernel_rfl
  i3 := by kernel_rfl
  i4 := by kernel_rfl
  i5 := by kernel_rfl
  i9 := by kernel_rfl
  i20 := by kernel_rfl
  i21 := by kernel_rfl
  i37 := by kernel_rfl
  i46 := by kernel_rfl
  i51 := by kernel_rfl
  i53 := by kernel_rfl
  i75 := by kernel_rfl
  i76 := by kernel_rfl
  i80 := by kernel_rfl
  i85 := by kernel_rfl
  i127 := by kernel_rfl
  i143 := by kernel_rfl
  i145 := by kernel_rfl
  i167 := by kernel_rfl
  i168 := by kernel_rfl
  i171 := by kernel_rfl
  i173 := by kernel_rfl
  i175 := by kernel_rfl
  i210 := by kernel_rfl
  i212 := by kernel_rfl
  i232 := by kernel_rfl
  i233 := by kernel_rfl
  m15 := by kernel_rfl
  m16 := by kernel_rfl
  m17 := by kernel_rfl
  m18 := by kernel_rfl
  m19 := by kernel_rfl
  c0 := by kernel_rfl
  c2 := by kernel_rfl
  c3 := by kernel_rfl
  c4 := by kernel_rfl
  c5 := by kernel_rfl
  c9 := by kernel_rfl
  c20 := by kernel_rfl
  c21 := by kernel_rfl
  c37 := by kernel_rfl
  c46 := by kernel_rfl
  c51 := by kernel_rfl
  c53 := by kernel_rfl
  c75 := by kernel_rfl
  c76 := by kernel_rfl
  c80 := by kernel_rfl
  c85 := by kernel_rfl
  c127 := by kernel_rfl
  c143 := by kernel_rfl
  c145 := by kernel_rfl
  c167 := by kernel_rfl
  c168 := by kernel_rfl
  c171 := by kernel_rfl
  c173 := by kernel_rfl
  c175 := by kernel_rfl
  c210 := by kernel_rfl
  c212 := by kernel_rfl
  c213 := by kernel_rfl
  c232 := by kernel_rfl
  c233 := by kernel_rfl }
open Go.RowKit in

theorem Tryz.strconv_Atoi_ok (s : ByteArray) (hmax : s.size ≤ 9223372036854775806) (v : Int) (h : Lib.atoiAll s.data.toList = .ok v) (w : World) :
    Calls Tryz.prog 100 #[.string s] w fun e w' => e = .returned (.tuple #[.int .i64 v, .nilIface]) ∧ (w' = w ∨ ∃ t, w' = Lib.bytesWorld w 5 t) := Any.strconv_Atoi_ok Tryz.laysC172 s hmax v h w
open Go.RowKit in
theorem Tryz.strconv_Atoi_range_var (s : ByteArray) (hlim : s.size ≤ 281474976710656) (h : Lib.atoiAll s.data.toList = .range) (tp : TypeId) (p : Value) (w : World) (hvar : w.var? Tryz.prog "strconv.ErrRange" = some #[.iface tp p]) :
    Calls Tryz.prog 100 #[.string s] w fun e w' => ∃ N, e = .returned (.tuple #[.int .i64 (Lib.atoiSat s.data.toList), .iface 175 (.pointer (some ⟨N, 0, none⟩))]) ∧ w.heap.size ≤ N ∧ w'.heap[N]? = some (.cells #[.string ⟨#[65, 116, 111, 105]⟩, .string s, .iface tp p] 198 (0, 0)) ∧ Below w.heap.size w w' := Any.strconv_Atoi_range_var Tryz.laysC172 s hlim h tp p w hvar
def Tryz.lays145_ren : Go.Shelf.Ren := ⟨fun | 145 => 46 | 220 => 73 | 219 => 99 | 217 => 124 | 225 => 125 | 224 => 126 | 267 => 127 | 266 => 143 | 314 => 144 | n => n, fun | 9 => 9 | 4 => 4 | 59 => 73 | 3 => 3 | 5 => 5 | 46 => 148 | 146 => 167 | 51 => 165 | n => n, fun | 1 => 0 | n => n⟩
theorem Tryz.lays145 : Go.Proofs.Lays.n145 Tryz.prog Tryz.lays145_ren := {
  mixed := by kernel_rfl
  f145 := Tryz.func46.trans (congrArg some (by kernel_rfl))
  f217 := Tryz.func124.trans (congrArg some (by kernel_rfl))
  f219 := Tryz.func99.trans (congrArg some (by kernel_rfl))
  f220 := Tryz.func73.trans (congrArg some (by kernel_rfl))
  f224 := Tryz.func126.trans (congrArg some (by kernel_rfl))
  f225 := Tryz.func125.trans (congrArg some (by kernel_rfl))
  f266 := Tryz.func143.trans (congrArg some (by kernel_rfl))
  f267 := Tryz.func127.trans (congrArg some (by kernel_rfl))
  f314 := Tryz.func144.trans (congrArg some (by kernel_rfl))
  t3 := Tryz.underlying3
  a3 := Tryz.isAgg3
  z3 := Tryz.sizeOf3
  v3 := Tryz.zeroValue3
  t4 := Tryz.underlying4
  a4 := Tryz.isAgg4
  z4 := Tryz.sizeOf4
  v4 := Tryz.zeroValue4
  t5 := Tryz.underlying5
  a5 := Tryz.isAgg5
  z5 := Tryz.sizeOf5
  v5 := Tryz.zeroValue5
  t9 := Tryz.underlying9
  a9 := Tryz.isAgg9
  z9 := Tryz.sizeOf9
  v9 := Tryz.zeroValue9
  t46 := Tryz.underlying148
  a46 := Tryz.isAgg148
  z46 := Tryz.sizeOf148
  v46 := Tryz.zeroValue148
  t51 := Tryz.underlying165
  a51 := Tryz.isAgg165
  z51 := Tryz.sizeOf165
  v51 := Tryz.zeroValue165
  t59 := Tryz.underlying73
  a59 := Tryz.isAgg73
  z59 := Tryz.sizeOf73
  v59 := Tryz.zeroValue73
  t146 := Tryz.underlying167
  a146 := Tryz.isAgg167
  z146 := Tryz.sizeOf167
  v146 := Tryz.zeroValue167
  g1 := by kernel_rfl }
open Go.RowKit Go.Lib in

theorem Tryz.strings_Cut (s sep : ByteArray) (m : Int) (w : World) (hs : s.size < 4294967281) (hm : w.cell? ⟨0, 0, none⟩ = some (.int .i64 m)) :
    Calls Tryz.prog 46 #[.string s, .string sep] w fun e w' => e = .returned (.tuple #[.string ⟨(Lib.cut s.data.toList sep.data.toList).1.toArray⟩, .string ⟨(Lib.cut s.data.toList sep.data.toList).2.1.toArray⟩, .bool (Lib.cut s.data.toList sep.data.toList).2.2]) ∧ ∃ n, w' = w.drewN n := Any.strings_Cut Tryz.lays145 s sep m w hs hm
def Tryz.lays189_ren : Go.Shelf.Ren := ⟨fun | 189 => 103 | 125 => 131 | 257 => 130 | 128 => 159 | 129 => 135 | 294 => 150 | 295 => 151 | 296 => 152 | 297 => 153 | 298 => 154 | 299 => 155 | 216 => 156 | 300 => 157 | 301 => 158 | 328 => 173 | 329 => 174 | 330 => 175 | 331 => 176 | 332 => 177 | 215 => 178 | 343 => 184 | n => n, fun | 28 => 22 | 3 => 3 | 46 => 148 | 0 => 0 | 51 => 165 | 53 => 143 | 4 => 4 | 183 => 180 | 182 => 179 | 131 => 106 | 5 => 5 | 9 => 9 | 218 => 200 | 222 => 204 | 228 => 215 | 229 => 216 | n => n, fun | n => n⟩
theorem Tryz.lays189 : Go.Proofs.Lays.n189 Tryz.prog Tryz.lays189_ren := {
  mixed := by kernel_rfl
  f125 := Tryz.func131.trans (congrArg some (by kernel_rfl))
  f128 := Tryz.func159.trans (congrArg some (by kernel_rfl))
  f129 := Tryz.func135.trans (congrArg some (by kernel_rfl))
  f189 := Tryz.func103.trans (congrArg some (by kernel_rfl))
  f215 := Tryz.func178.trans (congrArg some (by kernel_rfl))
  f216 := Tryz.func156.trans (congrArg some (by kernel_rfl))
  f257 := Tryz.func130.trans (congrArg some (by kernel_rfl))
  f294 := Tryz.func150.trans (congrArg some (by kernel_rfl))
  f295 := Tryz.func151.trans (congrArg some (by kernel_rfl))
  f296 := Tryz.func152.trans (congrArg some (by kernel_rfl))
  f297 := Tryz.func153.trans (congrArg some (by kernel_rfl))
  f298 := Tryz.func154.trans (congrArg some (by kernel_rfl))
  f299 := Tryz.func155.trans (congrArg some (by kernel_rfl))
  f300 := Tryz.func157.trans (congrArg some (by kernel_rfl))
  f301 := Tryz.func158.trans (congrArg some (by kernel_rfl))
  f328 := Tryz.func173.trans (congrArg some (by kernel_rfl))
  f329 := Tryz.func174.trans (congrArg some (by kernel_rfl))
  f330 := Tryz.func175.trans (congrArg some (by kernel_rfl))
  f331 := Tryz.func176.trans (congrArg some (by kernel_rfl))
  f332 := Tryz.func177.trans (congrArg some (by kernel_rfl))
  f343 := Tryz.func184.trans (congrArg some (by kernel_rfl))
  t0 := Tryz.underlying0
  a0 := Tryz.isAgg0
  z0 := Tryz.sizeOf0
  v0 := Tryz.zeroValue0
  t3 := Tryz.underlying3
  a3 := Tryz.isAgg3
  z3 := Tryz.sizeOf3
  v3 := Tryz.zeroValue3
  t4 := Tryz.underlying4
  a4 := Tryz.isAgg4
  z4 := Tryz.sizeOf4
  v4 := Tryz.zeroValue4
  t5 := Tryz.underlying5
  a5 := Tryz.isAgg5
  z5 := Tryz.sizeOf5
  v5 := Tryz.zeroValue5
  t9 := Tryz.underlying9
  a9 := Tryz.isAgg9
  z9 := Tryz.sizeOf9
  v9 := Tryz.zeroValue9
  t28 := Tryz.underlying22
  a28 := Tryz.isAgg22
  z28 := Tryz.sizeOf22
  v28 := Tryz.zeroValue22
  t46 := Tryz.underlying148
  a46 := Tryz.isAgg148
  z46 := Tryz.sizeOf148
  v46 := Tryz.zeroValue148
  t51 := Tryz.underlying165
  a51 := Tryz.isAgg165
  z51 := Tryz.sizeOf165
  v51 := Tryz.zeroValue165
  t53 := Tryz.underlying143
  a53 := Tryz.isAgg143
  z53 := Tryz.sizeOf143
  v53 := Tryz.zeroValue143
  t131 := Tryz.underlying106
  a131 := Tryz.isAgg106
  z131 := Tryz.sizeOf106
  v131 := Tryz.zeroValue106
  t182 := Tryz.underlying179
  a182 := Tryz.isAgg179
  z182 := Tryz.sizeOf179
  v182 := Tryz.zeroValue179
  t183 := Tryz.underlying180
  a183 := Tryz.isAgg180
  z183 := Tryz.sizeOf180
  v183 := Tryz.zeroValue180
  t218 := Tryz.underlying200
  a218 := Tryz.isAgg200
  z218 := Tryz.sizeOf200
  v218 := Tryz.zeroValue200
  t222 := Tryz.underlying204
  a222 := Tryz.isAgg204
  z222 := Tryz.sizeOf204
  v222 := Tryz.zeroValue204
  t228 := Tryz.underlying215
  a228 := Tryz.isAgg215
  z228 := Tryz.sizeOf215
  v228 := Tryz.zeroValue215
  t229 := Tryz.underlying216
  a229 := Tryz.isAgg216
  z229 := Tryz.sizeOf216
  v229 := Tryz.zeroValue216 }
open Go.Sort Go.RowKit in
theorem Tryz.slices_Sort_int (blk off cap : Nat) (zs : List Int) (w : World) (hH : Holds (Value.int .i64) w blk off zs.toArray) (hblk : blk < w.heap.size) (hsz : zs.length < 4611686018427387904) :
    Calls Tryz.prog 103 #[.slice (some ⟨blk, off, none⟩) zs.length cap] w fun e w' =>
      e = .returned (.tuple #[]) ∧ ∃ n os, w' = grow (putRow (Value.int .i64) (Sort.ahead w n) blk off (zs.mergeSort fun x y => decide (x ≤ y)).toArray) os := Any.slices_Sort_int Tryz.lays189 blk off cap zs w hH hblk hsz
def Tryz.lays146_ren : Go.Shelf.Ren := ⟨fun | 146 => 44 | 221 => 72 | 268 => 96 | 138 => 97 | 143 => 98 | 195 => 121 | 197 => 122 | 218 => 123 | 219 => 99 | 260 => 142 | 217 => 124 | 225 => 125 | 224 => 126 | 267 => 127 | 266 => 143 | 314 => 144 | n => n, fun | 9 => 9 | 31 => 68 | 3 => 3 | 4 => 4 | 0 => 0 | 105 => 156 | 21 => 21 | 5 => 5 | 46 => 148 | 119 => 191 | 139 => 194 | 138 => 193 | 146 => 167 | 51 => 165 | n => n, fun | 1 => 0 | 3 => 2 | 4 => 3 | n => n⟩
theorem Tryz.lays146 : Go.Proofs.Lays.n146 Tryz.prog Tryz.lays146_ren := {
  mixed := by kernel_rfl
  f138 := Tryz.func97.trans (congrArg some (by kernel_rfl))
  f143 := Tryz.func98.trans (congrArg some (by kernel_rfl))
  f146 := Tryz.func44.trans (congrArg some (by kernel_rfl))
  f195 := Tryz.func121.trans (congrArg some (by kernel_rfl))
  f197 := Tryz.func122.trans (congrArg some (by kernel_rfl))
  f217 := Tryz.func124.trans (congrArg some (by kernel_rfl))
  f218 := Tryz.func123.trans (congrArg some (by kernel_rfl))
  f219 := Tryz.func99.trans (congrArg some (by kernel_rfl))
  f221 := Tryz.func72.trans (congrArg some (by kernel_rfl))
  f224 := Tryz.func126.trans (congrArg some (by kernel_rfl))
  f225 := Tryz.func125.trans (congrArg some (by kernel_rfl))
  f260 := Tryz.func142.trans (congrArg some (by kernel_rfl))
  f266 := Tryz.func143.trans (congrArg some (by kernel_rfl))
  f267 := Tryz.func127.trans (congrArg some (by kernel_rfl))
  f268 := Tryz.func96.trans (congrArg some (by kernel_rfl))
  f314 := Tryz.func144.trans (congrArg some (by kernel_rfl))
  t0 := Tryz.underlying0
  a0 := Tryz.isAgg0
  z0 := Tryz.sizeOf0
  v0 := Tryz.zeroValue0
  t3 := Tryz.underlying3
  a3 := Tryz.isAgg3
  z3 := Tryz.sizeOf3
  v3 := Tryz.zeroValue3
  t4 := Tryz.underlying4
  a4 := Tryz.isAgg4
  z4 := Tryz.sizeOf4
  v4 := Tryz.zeroValue4
  t5 := Tryz.underlying5
  a5 := Tryz.isAgg5
  z5 := Tryz.sizeOf5
  v5 := Tryz.zeroValue5
  t9 := Tryz.underlying9
  a9 := Tryz.isAgg9
  z9 := Tryz.sizeOf9
  v9 := Tryz.zeroValue9
  t21 := Tryz.underlying21
  a21 := Tryz.isAgg21
  z21 := Tryz.sizeOf21
  v21 := Tryz.zeroValue21
  t31 := Tryz.underlying68
  a31 := Tryz.isAgg68
  z31 := Tryz.sizeOf68
  v31 := Tryz.zeroValue68
  t46 := Tryz.underlying148
  a46 := Tryz.isAgg148
  z46 := Tryz.sizeOf148
  v46 := Tryz.zeroValue148
  t51 := Tryz.underlying165
  a51 := Tryz.isAgg165
  z51 := Tryz.sizeOf165
  v51 := Tryz.zeroValue165
  t105 := Tryz.underlying156
  a105 := Tryz.isAgg156
  z105 := Tryz.sizeOf156
  v105 := Tryz.zeroValue156
  t119 := Tryz.underlying191
  a119 := Tryz.isAgg191
  z119 := Tryz.sizeOf191
  t138 := Tryz.underlying193
  a138 := Tryz.isAgg193
  z138 := Tryz.sizeOf193
  v138 := Tryz.zeroValue193
  t139 := Tryz.underlying194
  a139 := Tryz.isAgg194
  z139 := Tryz.sizeOf194
  v139 := Tryz.zeroValue194
  t146 := Tryz.underlying167
  a146 := Tryz.isAgg167
  z146 := Tryz.sizeOf167
  v146 := Tryz.zeroValue167
  g1 := by kernel_rfl
  g3 := by kernel_rfl
  g4 := by kernel_rfl }
open Go.RowKit Go.Lib in

theorem Tryz.strings_Split (s sep : ByteArray) (m : Int) (w : World) (hs : s.size < 4294967281) (hm : w.cell? ⟨0, 0, none⟩ = some (.int .i64 m)) (h1 : 1 ≤ sep.size) :
    Calls Tryz.prog 44 #[.string s, .string sep] w fun e w' =>
      e = .returned (.slice (some ⟨w.heap.size, 0, none⟩) (Lib.countB s sep + 1) (Lib.countB s sep + 1)) ∧ w' = w.alloc (.cells ((Lib.splitB sep 0 (Lib.countB s sep) s).map Value.string).toArray 9) := Any.strings_Split Tryz.lays146 (by kernel_rfl) s sep m w hs hm h1
open Go.RowKit Go.Sort in

theorem Tryz.slices_Sort_int_none (p : Option Addr) (cap : Nat) (w : World) :
    Calls Tryz.prog 103 #[.slice p 0 cap] w fun e w' => e = .returned (.tuple #[]) ∧ w' = w := Any.slices_Sort_int_none Tryz.lays189 p cap w
end Go.Proofs
end
section
set_option linter.unusedVariables false
set_option linter.unusedSimpArgs false
namespace Go.Proofs.YtfbmjonhohebiaaGreatDoor
open Go.RowKit Go.Proofs.YtfbmjonhohebiaaGreatDoorW.PrintWords Go.Proofs.YtfbmjonhohebiaaGreatDoorW.PrintLast Go.Proofs.YtfbmjonhohebiaaGreatDoorW.PrintMore PRecurExpands
structure Globs (w : World) : Prop where
  size : 8 ≤ w.heap.size
  maxlen : ∃ m : Int, w.cell? ⟨0, 0, none⟩ = some (.int .i64 m)
  tab : Lib.TabIs Tryz.prog w "internal/strconv.uint64pow10" .u64 Lib.pow10Tab
  syn : ∃ tp p, w.var? Tryz.prog "strconv.ErrSyntax" = some #[.iface tp p]
  rng : ∃ tp p, w.var? Tryz.prog "strconv.ErrRange" = some #[.iface tp p]
theorem Globs.below {w w' : World} (h : Globs w) (hb : Below w.heap.size w w') : Globs w' := by
  have hs := h.size
  refine ⟨Nat.le_trans hs hb.size, ?_, ?_, ?_, ?_⟩
  · obtain ⟨m, hm⟩ := h.maxlen
    exact ⟨m, (hb.cell (p := ⟨0, 0, none⟩) (by show (0 : Nat) < _; omega)).trans hm⟩
  · exact var?_below (g := 1) hb (by kernel_rfl) (by omega) h.tab
  · obtain ⟨tp, p, hv⟩ := h.syn
    exact ⟨tp, p, var?_below (g := 4) hb (by kernel_rfl) (by omega) hv⟩
  · obtain ⟨tp, p, hv⟩ := h.rng
    exact ⟨tp, p, var?_below (g := 5) hb (by kernel_rfl) (by omega) hv⟩
theorem grow_below (w : World) (k : Nat) (os : Array Obj) : Below w.heap.size w (Go.Sort.grow (w.drewN k) os) := by
  refine ⟨rfl, rfl, rfl, ?_, fun i hi => ?_⟩
  · show w.heap.size ≤ (w.heap ++ os).size
    simp
  · show (w.heap ++ os)[i]? = w.heap[i]?
    rw [Array.getElem?_append_left hi]
def numV (l : List UInt8) : Int := match Lib.atoiAll l with | .ok v => v | .range => Lib.atoiSat l | _ => 0
def numB (l : List UInt8) : Bool := match Lib.atoiAll l with | .ok v => (Lib.itoa v == l) && decide (l.length < 9) | _ => false
theorem atoiAll_rng {l : List UInt8} {v : Int} (h : Lib.atoiAll l = .ok v) : -9223372036854775808 ≤ v ∧ v ≤ 9223372036854775807 := by
  unfold Lib.atoiAll at h
  cases l with
  | nil => simp at h
  | cons c r =>
    simp only at h
    split at h
    · cases h
    · cases h
    · rename_i u _
      split at h
      · cases h
      · rename_i h1
        split at h
        · cases h
        · rename_i h2
          injection h with h
          subst h
          split
          · rename_i hn; have : ¬ 9223372036854775808 < u := fun hc => h2 ⟨hn, hc⟩; omega
          · rename_i hn; have : ¬ 9223372036854775808 ≤ u := fun hc => h1 ⟨hn, hc⟩; omega
theorem atoi_ok (s : ByteArray) (hs : s.size ≤ 140737488351232) (v : Int) (h : Lib.atoiAll s.data.toList = .ok v) (w : World) :
    Calls Tryz.prog 100 #[.string s] w fun e w' => e = .returned (.tuple #[.int .i64 v, .nilIface]) ∧ Below w.heap.size w w' := by
  refine (Tryz.strconv_Atoi_ok s (by omega) v h w).mono ?_
  rintro e w' ⟨rfl, rfl | ⟨t, rfl⟩⟩
  · exact ⟨rfl, Below.refl _ _⟩
  · exact ⟨rfl, bytes_below (Below.refl _ _) (Nat.le_refl _) 5 t⟩
theorem atoi_bad (s : ByteArray) (hs : s.size ≤ 140737488351232) (h : ∀ v, Lib.atoiAll s.data.toList ≠ .ok v) (w : World) (hG : Globs w) :
    Calls Tryz.prog 100 #[.string s] w fun e w' => (∃ t x, e = .returned (.tuple #[.int .i64 (numV s.data.toList), .iface t x])) ∧ Below w.heap.size w w' := by
  cases h' : Lib.atoiAll s.data.toList
  · exact absurd h' (h _)
  · obtain ⟨tp, p, hv⟩ := hG.syn
    have hx : Calls Tryz.prog 100 #[.string s] w (fun e w' => ∃ N tt, e = .returned (.tuple #[.int .i64 0, .iface tt (.pointer (some ⟨N, 0, none⟩))]) ∧ Below w.heap.size w w') :=
      (Any.strconv_Atoi_syntax_var Tryz.laysC172 s (by omega) h' tp p w hv).mono (fun e w' ⟨N, h1, _, _, h4⟩ => ⟨N, _, h1, h4⟩)
    refine hx.mono ?_
    rintro e w' ⟨N, tt, rfl, hb⟩
    exact ⟨⟨_, _, by rw [show numV s.data.toList = 0 from by simp only [numV, h']]⟩, hb⟩
  · obtain ⟨tp, p, hv⟩ := hG.rng
    refine (Tryz.strconv_Atoi_range_var s (by omega) h' tp p w hv).mono ?_
    rintro e w' ⟨N, rfl, _, _, hb⟩
    exact ⟨⟨_, _, by rw [show numV s.data.toList = Lib.atoiSat s.data.toList from by simp only [numV, h']]⟩, hb⟩
theorem itoa_c (n : Int) (h0 : -9223372036854775808 ≤ n) (h1 : n ≤ 9223372036854775807) (w : World) (hG : Globs w) :
    Calls Tryz.prog 34 #[.int .i64 n] w fun e w' => e = .returned (.string ⟨(Lib.itoa n).toArray⟩) ∧ Below w.heap.size w w' := by
  refine (Tryz.strconv_Itoa n h0 h1 w hG.tab).mono ?_
  rintro e w' ⟨rfl, k, os, rfl⟩
  exact ⟨rfl, grow_below w k os⟩
theorem ret2_ib {k : IntKind} {a b : Int} {a' b' : Bool} (h : a = b) (h' : a' = b') : Ending.returned (.tuple #[.int k a, .bool a']) = .returned (.tuple #[.int k b, .bool b']) := by rw [h, h']
set_option maxRecDepth 100000 in
set_option maxHeartbeats 2000000 in
theorem recur_number (s : ByteArray) (hs : s.size ≤ 140737488351232) (w : World) (hG : Globs w) :
    Calls Tryz.prog 74 #[.string s] w fun e w' => e = .returned (.tuple #[.int .i64 (numV s.data.toList), .bool (numB s.data.toList)]) ∧ Below w.heap.size w w' := by
  by_cases hok : ∃ v, Lib.atoiAll s.data.toList = .ok v
  · obtain ⟨v, h⟩ := hok
    have hrng := atoiAll_rng h
    obtain ⟨r0, r1⟩ := hrng
    have H := Aside0.mk h
    have hv : numV s.data.toList = v := by simp only [numV, h]
    have hB : numB s.data.toList = ((Lib.itoa v == s.data.toList) && decide (s.data.toList.length < 9)) := by simp only [numB, h]
    have HV := Aside0.mk hv
    have HB := Aside0.mk hB
    clear h hv hB
    go_enter Tryz.func74, Tryz.ntmps74
    go_wp2_with (first
        | (go_at_call 100; refine (atoi_ok s hs v H.out _).mono ?_; rintro e w2 ⟨rfl, hb2⟩)
        | (go_at_call 34; refine (itoa_c v r0 r1 _ (hG.below hb2)).mono ?_; rintro e w3 ⟨rfl, hb3⟩))
    · have he : Lib.itoa v = s.toList := by assumption
      go_ret2
      exact ⟨ret2_ib HV.out.symm (by rw [HB.out, ← Lib.toList_data, beq_iff_eq.mpr he, Bool.true_and, Lib.toList_data, data_length]; rw [decide_eq_decide]; omega), hb2.trans (hb3.mono hb2.size)⟩
    · have he : ¬ Lib.itoa v = s.toList := by assumption
      go_ret2
      exact ⟨ret2_ib HV.out.symm (by rw [HB.out, ← Lib.toList_data, beq_eq_false_iff_ne.mpr he, Bool.false_and]), hb2.trans (hb3.mono hb2.size)⟩
  · have hv : numB s.data.toList = false := by
      cases h : Lib.atoiAll s.data.toList
      · exact absurd ⟨_, h⟩ hok
      · simp only [numB, h]
      · simp only [numB, h]
    have HV := Aside0.mk hv
    clear hv
    go_enter Tryz.func74, Tryz.ntmps74
    go_wp2_with (go_at_call 100; refine (atoi_bad s hs (fun v h => hok ⟨v, h⟩) _ hG).mono ?_; rintro e w2 ⟨⟨t, x, rfl⟩, hb2⟩)
    go_ret2
    exact ⟨ret2_ib rfl HV.out.symm, hb2⟩
end Go.Proofs.YtfbmjonhohebiaaGreatDoor
end
section
set_option linter.unusedVariables false
set_option linter.unusedSimpArgs false
namespace Go.Proofs.YtfbmjonhohebiaaGreatDoor
open Go.RowKit Go.Proofs.YtfbmjonhohebiaaGreatDoorW.PrintWords Go.Proofs.YtfbmjonhohebiaaGreatDoorW.PrintLast Go.Proofs.YtfbmjonhohebiaaGreatDoorW.PrintMore PRecurExpands
def freqL (n : Int) : List UInt8 := if n = 1 then [68, 65, 73, 76, 89] else if n = 2 then [87, 69, 69, 75, 76, 89] else if n = 3 then [77, 79, 78, 84, 72, 76, 89] else [89, 69, 65, 82, 76, 89]
def wdL (n : Int) : List UInt8 := if n = 0 then [77, 79] else if n = 1 then [84, 85] else if n = 2 then [87, 69] else if n = 3 then [84, 72] else if n = 4 then [70, 82] else if n = 5 then [83, 65] else [83, 85]
set_option maxRecDepth 100000 in
set_option maxHeartbeats 2000000 in
theorem recur_freq (n : Int) (h0 : 1 ≤ n) (h1 : n ≤ 4) (w : World) :
    Calls Tryz.prog 33 #[.int .i64 n] w fun e w' => e = .returned (.string ⟨(freqL n).toArray⟩) ∧ Below w.heap.size w w' := by
  have h : n = 1 ∨ n = 2 ∨ n = 3 ∨ n = 4 := by omega
  clear h0 h1
  rcases h with rfl | rfl | rfl | rfl <;>
  ( go_enter Tryz.func33, Tryz.ntmps33
    go_wp2
    go_ret
    exact ⟨rfl, (Below.refl _ _).alloc (Nat.le_refl _) _⟩)
set_option maxRecDepth 100000 in
set_option maxHeartbeats 2000000 in
theorem recur_weekday (n : Int) (h0 : 0 ≤ n) (h1 : n ≤ 6) (w : World) :
    Calls Tryz.prog 37 #[.int .i64 n] w fun e w' => e = .returned (.string ⟨(wdL n).toArray⟩) ∧ Below w.heap.size w w' := by
  have h : n = 0 ∨ n = 1 ∨ n = 2 ∨ n = 3 ∨ n = 4 ∨ n = 5 ∨ n = 6 := by omega
  clear h0 h1
  rcases h with rfl | rfl | rfl | rfl | rfl | rfl | rfl <;>
  ( go_enter Tryz.func37, Tryz.ntmps37
    go_wp2
    go_ret
    exact ⟨rfl, (Below.refl _ _).alloc (Nat.le_refl _) _⟩)
end Go.Proofs.YtfbmjonhohebiaaGreatDoor
end
section
set_option linter.unusedVariables false
set_option linter.unusedSimpArgs false
namespace Go.Proofs.YtfbmjonhohebiaaGreatDoor
open Go.RowKit Go.Proofs.YtfbmjonhohebiaaGreatDoorW.PrintWords Go.Proofs.YtfbmjonhohebiaaGreatDoorW.PrintLast Go.Proofs.YtfbmjonhohebiaaGreatDoorW.PrintMore PRecurExpands
def sufL (l : List UInt8) : List UInt8 := l.drop (l.length - 2)
def dayUp (l : List UInt8) : Nat → Int
  | 0 => -1
  | i + 1 => if wdL i = sufL l then (i : Int) else dayUp l i
def digL (l : List UInt8) : List UInt8 := Lib.trimPrefix (l.take (l.length - 2)) [43]
def wkBadV (b : Bool) (v : Int) (c : UInt8) : Bool := !b || v == 0 || (c == 43 && decide (v < 0))
def wkBad (l : List UInt8) : Bool := wkBadV (numB (digL l)) (numV (digL l)) (l.headD 0)
theorem u8_43 {c : UInt8} (h : (c.toNat : Int) = 43) : c = 43 := by
  have : c.toNat = 43 := by omega
  exact UInt8.toNat_inj.mp this
theorem head_get (X : ByteArray) (h : 0 < X.size) : X.data.toList.headD 0 = X[0] := by
  have e : X[0] = X.data[0] := rfl
  rw [e]
  have h2 : 0 < X.data.size := h
  cases hl : X.data.toList with
  | nil => have := congrArg List.length hl; rw [Array.length_toList] at this; simp only [List.length_nil] at this; omega
  | cons a r =>
    have : X.data.toList[0]'(by simpa using h2) = a := by simp [hl]
    rw [← this]; simp
def wkOne (l : List UInt8) : Option S59 :=
  if l.length < 2 then none else
  if l.take (l.length - 2) = [] then some ⟨dayUp l 7, 0⟩ else
  if wkBad l = true then none else some ⟨dayUp l 7, numV (digL l)⟩
def wkAll : List (List UInt8) → Option (List S59)
  | [] => some []
  | l :: ls => match wkOne l with | none => none | some x => (wkAll ls).map (x :: ·)
def enc59 (x : S59) : List Value := [.int .i64 x.f0, .int .i64 x.f1]
theorem info_59 : (Tryz.prog.info? 59).map (fun i => (i.zero, i.size, i.bytes)) = some (some (.agg #[.int .i64 0, .int .i64 0]), 2, 16) := by kernel_rfl
set_option maxRecDepth 100000 in
set_option maxHeartbeats 2000000 in
theorem recur_order_c (x y : S59) (w : World) :
    Calls Tryz.prog 52 #[.agg #[.int .i64 x.f0, .int .i64 x.f1], .agg #[.int .i64 y.f0, .int .i64 y.f1]] w fun e w' => e = .returned (.int .i64 (if x.f0 = y.f0 then wrap64 (x.f1 - y.f1) else wrap64 (x.f0 - y.f0))) ∧ ∃ q os', w' = Go.Sort.grow (w.drewN q) os' := by
  by_cases h : x.f0 = y.f0
  · rw [if_pos h]
    go_enter Tryz.func52, Tryz.ntmps52
    go_wp2
    go_ret
    exact ⟨rfl, 0, _, by rw [Go.Sort.alloc_eq_grow, Go.Sort.alloc_eq_grow, Go.Sort.grow_grow]; rfl⟩
  · rw [if_neg h]
    go_enter Tryz.func52, Tryz.ntmps52
    go_wp2
    go_ret
    exact ⟨rfl, 0, _, by rw [Go.Sort.alloc_eq_grow, Go.Sort.alloc_eq_grow, Go.Sort.grow_grow]; rfl⟩
def In59 (x : S59) : Prop := -1 ≤ x.f0 ∧ x.f0 ≤ 6 ∧ -1000000000 ≤ x.f1 ∧ x.f1 ≤ 1000000000
theorem itoa_in {v : Int} (h : (Lib.itoa v).length < 9) : -1000000000 ≤ v ∧ v ≤ 1000000000 := by
  by_cases hneg : v < 0
  · obtain ⟨u, rfl⟩ : ∃ u : Nat, v = -(u : Int) := ⟨v.natAbs, by omega⟩
    rw [Lib.itoa_neg u (by omega), List.length_cons, Lib.decDigits_length] at h
    have h1 := Lib.lt_pow_nDigits u
    have h2 : 10 ^ Lib.nDigits u ≤ 10 ^ 9 := Nat.pow_le_pow_right (by omega) (by omega)
    omega
  · obtain ⟨u, rfl⟩ : ∃ u : Nat, v = u := ⟨v.toNat, by omega⟩
    rw [Lib.itoa_nonneg, Lib.decDigits_length] at h
    have h1 := Lib.lt_pow_nDigits u
    have h2 : 10 ^ Lib.nDigits u ≤ 10 ^ 9 := Nat.pow_le_pow_right (by omega) (by omega)
    omega
theorem numB_in {l : List UInt8} (h : numB l = true) : -1000000000 ≤ numV l ∧ numV l ≤ 1000000000 := by
  unfold numB at h
  cases hl : Lib.atoiAll l
  · rename_i v
    rw [hl] at h
    simp only [Bool.and_eq_true, beq_iff_eq, decide_eq_true_eq] at h
    have e : numV l = v := by simp only [numV, hl]
    rw [e]
    exact itoa_in (by rw [h.1]; exact h.2)
  · rw [hl] at h; cases h
  · rw [hl] at h; cases h
theorem wkAll_none {l : List UInt8} (hl : wkOne l = none) (b : List (List UInt8)) : ∀ {a : List (List UInt8)} {xs : List S59}, wkAll a = some xs → wkAll (a ++ l :: b) = none := by
  intro a
  induction a with
  | nil => intro xs _; simp [wkAll, hl]
  | cons x a ih =>
    intro xs h
    simp only [wkAll] at h
    cases hx : wkOne x with
    | none => rw [hx] at h; cases h
    | some y =>
      rw [hx] at h
      simp only [Option.map_eq_some_iff] at h
      obtain ⟨ys, h1, _⟩ := h
      simp only [List.cons_append, wkAll, hx, ih h1, Option.map_none]
theorem wkAll_some {l : List UInt8} {y : S59} (hl : wkOne l = some y) : ∀ {a : List (List UInt8)} {xs : List S59}, wkAll a = some xs → wkAll (a ++ [l]) = some (xs ++ [y]) := by
  intro a
  induction a with
  | nil => intro xs h; injection h with h; subst h; simp [wkAll, hl]
  | cons x a ih =>
    intro xs h
    simp only [wkAll] at h
    cases hx : wkOne x with
    | none => rw [hx] at h; cases h
    | some z =>
      rw [hx] at h
      simp only [Option.map_eq_some_iff] at h
      obtain ⟨ys, h1, rfl⟩ := h
      simp only [List.cons_append, wkAll, hx, ih h1, Option.map_some]
theorem map_split {α β : Type} (f : α → β) (L : List α) (k : Nat) (X : α) (h : L[k]? = some X) : L.map f = (L.take k).map f ++ f X :: (L.drop (k + 1)).map f := by
  obtain ⟨hk, rfl⟩ := List.getElem?_eq_some_iff.mp h
  rw [← List.map_cons, ← List.map_append, ← List.drop_eq_getElem_cons hk, List.take_append_drop]
theorem map_take {α β : Type} (f : α → β) (L : List α) (k : Nat) (X : α) (h : L[k]? = some X) : (L.take (k + 1)).map f = (L.take k).map f ++ [f X] := by
  obtain ⟨hk, rfl⟩ := List.getElem?_eq_some_iff.mp h
  rw [List.take_succ_eq_append_getElem hk, List.map_append, List.map_cons, List.map_nil]
theorem digL_len (l : List UInt8) : (digL l).length ≤ l.length := by
  unfold digL Lib.trimPrefix
  split
  · simp; omega
  · simp
theorem isEmpty_take {X : ByteArray} {b : Bool} (h2 : ¬ X.size < 2) (hE : (X.extract 0 (X.size - 2)).toList.isEmpty = b) : (X.data.toList.take (X.data.toList.length - 2)).isEmpty = b := by
  rw [← hE, Lib.toList_data, Lib.extract_from_zero, data_length]
theorem wk_plain {X : ByteArray} (h2 : ¬ X.size < 2) (hE : (X.extract 0 (X.size - 2)).toList.isEmpty = true) : wkOne X.data.toList = some ⟨dayUp X.data.toList 7, 0⟩ := by
  unfold wkOne
  rw [if_neg (by rw [data_length]; exact h2), if_pos (List.isEmpty_iff.mp (isEmpty_take h2 hE))]
theorem wk_bad {X : ByteArray} (h2 : ¬ X.size < 2) (hE : (X.extract 0 (X.size - 2)).toList.isEmpty = false) (hb : wkBad X.data.toList = true) : wkOne X.data.toList = none := by
  unfold wkOne
  rw [if_neg (by rw [data_length]; exact h2), if_neg (fun h => by have := isEmpty_take h2 hE; rw [h] at this; cases this), if_pos hb]
theorem wk_good {X : ByteArray} (h2 : ¬ X.size < 2) (hE : (X.extract 0 (X.size - 2)).toList.isEmpty = false) (hb : wkBad X.data.toList = false) : wkOne X.data.toList = some ⟨dayUp X.data.toList 7, numV (digL X.data.toList)⟩ := by
  unfold wkOne
  rw [if_neg (by rw [data_length]; exact h2), if_neg (fun h => by have := isEmpty_take h2 hE; rw [h] at this; cases this), if_neg (by rw [hb]; decide)]
theorem suf_eq {X : ByteArray} (h2 : ¬ X.size < 2) : (X.extract (X.size - 2) X.size).toList = sufL X.data.toList := by
  unfold sufL
  rw [Lib.toList_data, data_length]
  simp [ByteArray.data_extract]
  rw [show X.size = X.data.toList.length from by simp]
  exact List.take_of_length_le (by simp)
theorem day_yes {X : ByteArray} {d : Nat} (h2 : ¬ X.size < 2) (h : (wdL d == (X.extract (X.size - 2) X.size).toList) = true) : dayUp X.data.toList (d + 1) = d := by
  rw [suf_eq h2] at h
  rw [dayUp, if_pos (by simpa using h)]
theorem day_no {X : ByteArray} {d : Nat} (h2 : ¬ X.size < 2) (h : (wdL d == (X.extract (X.size - 2) X.size).toList) = false) : dayUp X.data.toList (d + 1) = dayUp X.data.toList d := by
  rw [suf_eq h2] at h
  rw [dayUp, if_neg (by simpa using h)]
theorem wkOne_in {l : List UInt8} {x : S59} (h : wkOne l = some x) : In59 x := by
  have hd : ∀ k : Nat, k ≤ 7 → -1 ≤ dayUp l k ∧ dayUp l k ≤ 6 := by
    intro k
    induction k with
    | zero => intro _; simp [dayUp]
    | succ k ih =>
      intro hk
      have := ih (by omega)
      rw [dayUp]
      split
      · omega
      · exact this
  have hd7 := hd 7 (by omega)
  unfold wkOne at h
  split at h
  · cases h
  · split at h
    · injection h with h; subst h; exact ⟨hd7.1, hd7.2, by simp, by simp⟩
    · split at h
      · cases h
      · rename_i hb
        injection h with h; subst h
        have hb' : wkBad l = false := by simpa using hb
        have hn : numB (digL l) = true := by
          unfold wkBad wkBadV at hb'
          simp at hb'
          exact hb'.1.1
        obtain ⟨n1, n2⟩ := numB_in hn
        exact ⟨hd7.1, hd7.2, n1, n2⟩
theorem wkAll_in : ∀ {a : List (List UInt8)} {xs : List S59}, wkAll a = some xs → ∀ x ∈ xs, In59 x := by
  intro a
  induction a with
  | nil => intro xs h; injection h with h; subst h; simp
  | cons l a ih =>
    intro xs h
    simp only [wkAll] at h
    cases hx : wkOne l with
    | none => rw [hx] at h; cases h
    | some y =>
      rw [hx] at h
      simp only [Option.map_eq_some_iff] at h
      obtain ⟨ys, h1, rfl⟩ := h
      intro x hm
      rcases List.mem_cons.mp hm with rfl | hm
      · exact wkOne_in hx
      · exact ih h1 x hm
def lt59 (x y : S59) : Bool := decide (x.f0 < y.f0) || (decide (x.f0 = y.f0) && decide (x.f1 < y.f1))
def srt59 (l : List S59) : List S59 := l.mergeSort fun x y => !lt59 y x
def SortC : Prop := ∀ (base : Nat) (v : Value) (xs : List S59) (W : World), (∀ x ∈ xs, In59 x) → W.ownsRow base 59 2 v xs.length (xs.flatMap enc59) → xs.length ≤ 4294967296 →
  Calls Tryz.prog 105 #[v, .func (.func 52) #[] #[]] W fun e w' => e = .returned (.tuple #[]) ∧ w'.ownsRow base 59 2 v xs.length ((srt59 xs).flatMap enc59) ∧ Below base W w'
def wkPost (o : Option (List S59)) (n₀ : Nat) (e : Ending) (w' : World) : Prop := match o with
  | none => e = .returned (.tuple #[.slice none 0 0, .bool false])
  | some xs => ∃ v, e = .returned (.tuple #[v, .bool true]) ∧ w'.ownsRow n₀ 59 2 v xs.length ((srt59 xs).flatMap enc59)
theorem cell_two_at (w : World) (x y : Value) (t : TypeId) {b : Nat} (h : b = w.heap.size) : ∀ j u, [x, y][j]? = some u → (w.alloc (.cells #[x, y] t)).cell? ((⟨b, 0, none⟩ : Addr).add j) = some u := by
  subst h; exact cell_two_new w x y t
theorem week_app {w W1 wr w1 : World} {n m : Nat} {v : Value} {xs : List Value} {o tmp : Obj} (hb : Below n w W1) (hbk : W1.heap[n]? = some o) (hrow : W1.ownsRow (n + 1) 59 2 v m xs) (hbq : Below W1.heap.size W1 wr) (hg : (wr.alloc tmp).grownBy w1 v.ownBlock) :
    Below n w w1 ∧ w1.heap[n]? = some o := by
  have hz := blk_lt hbk
  have h2 := hbq.size
  have key : ∀ k, v.ownBlock = some k → n + 1 ≤ k := fun k hk => own_base hrow k hk
  refine ⟨((hb.trans (hbq.mono (by omega))).alloc (by omega) _).grown hg (by simp; omega) (fun k hk => by have := key k hk; omega), blk_grown (blk_alloc (blk_below hbk hbq) _) hg (fun e => by have := key n e.symm; omega)⟩
def spl (s : ByteArray) (c : UInt8) : List ByteArray := Lib.splitB ⟨#[c]⟩ 0 (Lib.countB s ⟨#[c]⟩) s
theorem spl_len (s : ByteArray) (c : UInt8) : (spl s c).length = Lib.countB s ⟨#[c]⟩ + 1 := Lib.splitB_all ⟨#[c]⟩ (Nat.le_refl 1) 0 _ s rfl
theorem splitB_mem (sep : ByteArray) : ∀ (k : Nat) (s : ByteArray), ∀ x ∈ Lib.splitB sep 0 k s, x.size ≤ s.size := by
  intro k
  induction k with
  | zero => intro s x hx; rw [Lib.splitB_zero] at hx; rw [List.mem_singleton.mp hx]; exact Nat.le_refl _
  | succ k ih =>
    intro s x hx
    unfold Lib.splitB at hx
    split at hx
    · rw [List.mem_singleton.mp hx]; exact Nat.le_refl _
    · rcases List.mem_cons.mp hx with rfl | hx
      · simp [ByteArray.size_extract]; omega
      · have := ih _ x hx
        simp [ByteArray.size_extract] at this
        omega
theorem spl_mem (s : ByteArray) (c : UInt8) : ∀ x ∈ spl s c, x.size ≤ s.size := splitB_mem _ _ s
set_option maxRecDepth 100000 in
set_option maxHeartbeats 2000000 in
theorem recur_week (hsort : SortC) (s : ByteArray) (hs : s.size < 4294967000) (w : World) (hG : Globs w) :
    Calls Tryz.prog 77 #[.string s] w fun e w' => wkPost (wkAll ((spl s 44).map (·.data.toList))) w.heap.size e w' ∧ Below w.heap.size w w' := by
  obtain ⟨m, hm⟩ := hG.maxlen
  obtain ⟨L, hL⟩ : ∃ L, L = spl s 44 := ⟨_, rfl⟩
  have hlen : Lib.countB s ⟨#[44]⟩ + 1 = L.length := by rw [hL]; exact (spl_len s 44).symm
  rw [← hL]
  have hLs : ∀ x ∈ L, x.size ≤ s.size := by rw [hL]; exact spl_mem s 44
  have hLl : L.length ≤ s.size + 1 := by rw [hL, spl_len]; have := Lib.countB_le ⟨#[44]⟩ (by decide) s.size s (Nat.le_refl _); omega
  have hcut := Tryz.strings_Split s ⟨#[44]⟩ m w (by omega) hm (by decide)
  rw [show Lib.splitB ⟨#[44]⟩ 0 (Lib.countB s ⟨#[44]⟩) s = L from hL.symm, hlen] at hcut
  have hG1 := Aside0.mk hG
  clear hG hL hlen
  go_enter Tryz.func77, Tryz.ntmps77
  go_wp2_with (go_at_call 44; refine hcut.mono ?_; rintro e w2 ⟨rfl, rfl⟩)
  have hb0 : Below w.heap.size w (w.alloc (.cells (L.map Value.string).toArray 9)) := (Below.refl _ _).alloc (Nat.le_refl _) _
  have hk0 : (w.alloc (.cells (L.map Value.string).toArray 9)).heap[w.heap.size]? = some (.cells (L.map Value.string).toArray 9) := blk_new w _
  obtain ⟨i0, hi, hz0, hz1, hz2⟩ := info_parts info_59
  go_loopw [4, 15] (fun v i wr => ∃ (k : Nat) (xs : List S59), k ≤ L.length ∧ i = .int .i64 k ∧ Below w.heap.size w wr ∧ wr.heap[w.heap.size]? = some (.cells (L.map Value.string).toArray 9) ∧ wkAll ((L.take k).map (·.data.toList)) = some xs ∧ xs.length = k ∧ wr.ownsRow (w.heap.size + 1) 59 2 v xs.length (xs.flatMap enc59)) (fun v i _ => L.length - (intOf i).toNat)
  case atStart => exact ⟨0, [], by omega, rfl, hb0, hk0, rfl, rfl, World.ownsRow_nil _ _ _ _⟩
  case round =>
    obtain ⟨k, xs, hk, rfl, hb, hbk, hall, rfl, hrow⟩ := hrel
    obtain ⟨W1, hW1⟩ : ∃ W1, W1 = wr := ⟨_, rfl⟩
    subst hW1
    have hzz1 := blk_lt hbk
    by_cases hlt : xs.length < L.length
    · obtain ⟨X, hX⟩ : ∃ X, L[xs.length]? = some X := ⟨L[xs.length], List.getElem?_eq_getElem hlt⟩
      have hXs := hLs X (List.mem_of_getElem? hX)
      have hcell : W1.cell? ⟨w.heap.size, xs.length, none⟩ = some (.string X) := by rw [blk_cell hbk]; simp [hX]
      obtain ⟨A, cv, rfl⟩ := own_slice hrow
      have HROW := Aside0.mk hrow
      have HALL := Aside0.mk hall
      have HB := Aside0.mk hb
      have HBK := Aside0.mk hbk
      clear hrow hall hb hbk
      by_cases h2 : X.size < 2
      · go_wp2
        go_ret2
        refine ⟨?_, HB.out⟩
        rw [map_split _ L _ X hX, wkAll_none (by unfold wkOne; rw [if_pos (by simpa using h2)]) _ HALL.out]
        rfl
      · go_wp2
        go_loopw [23] (fun j wq => ∃ d : Nat, d ≤ 7 ∧ j = .int .i64 d ∧ Below W1.heap.size W1 wq ∧ wq.heap[W1.heap.size]? = some (.cells #[.int .i64 (dayUp X.data.toList d), .int .i64 0] 59)) (fun j _ => 7 - (intOf j).toNat)
        case atStart => exact ⟨0, by omega, rfl, (Below.refl _ _).alloc (Nat.le_refl _) _, blk_new W1 _⟩
        case round =>
          obtain ⟨d, hd, rfl, hbq, hq⟩ := hrel
          have hzq := hbq.size
          have c0 := blk_cell hq 0
          have c1 := blk_cell hq 1
          have cf := blk_frozen hq 0
          simp at c0 c1
          by_cases hd7 : d < 7
          · clear hX HROW HALL HB HBK
            go_wp2
            have q1 : IntKind.i64.wrap ((X.size : Int) - 2) = (X.size : Int) - 2 := IntWalk.i64_in _ ⟨by omega, by omega⟩
            have q2 : (0 : Int) ≤ (X.size : Int) - 2 := by omega
            have q3 : ((X.size : Int) - 2).toNat = X.size - 2 := by omega
            have q4 : (X.size : Int) - 2 ≤ (X.size : Int) := by omega
            have q5 : X.size - 2 ≤ X.size := by omega
            go_region_with (go_at_call 37; refine (recur_weekday d (by omega) (by omega) _).mono ?_; rintro e w3 ⟨rfl, hb3⟩)
            clear q1 q2 q3 q4 q5
            have hb3 : Below wr.heap.size wr w3 := ((Below.refl _ wr).drew).trans hb3
            have hq3 := blk_below hq hb3
            have d0 := blk_cell hq3 0
            have d1 := blk_cell hq3 1
            have df := blk_frozen hq3 0
            simp at d0 d1
            go_wp2
            · have l1 : (wdL d == (X.extract (X.size - 2) X.size).toList) = true := by assumption
              go_roundw
              case rel => exact ⟨d + 1, by omega, by go_num, (hbq.trans (hb3.mono hbq.size)).setCell (p := ⟨W1.heap.size, 0, none⟩) (Nat.le_refl _) _, by rw [day_yes h2 l1]; exact blk_set hq3 0 _⟩
              case measure => simp [intOf]; omega
            · have l1 : (wdL d == (X.extract (X.size - 2) X.size).toList) = false := by assumption
              go_roundw
              case rel => exact ⟨d + 1, by omega, by go_num, hbq.trans (hb3.mono hbq.size), by rw [day_no h2 l1]; exact hq3⟩
              case measure => simp [intOf]; omega
          · obtain rfl : d = 7 := by omega
            have hE : (X.extract 0 (X.size - 2)).toList.isEmpty = true ∨ (X.extract 0 (X.size - 2)).toList.isEmpty = false := by cases (X.extract 0 (X.size - 2)).toList.isEmpty <;> simp
            rcases hE with hE | hE
            · have P := Aside0.mk (wk_plain h2 hE)
              go_wp2_with (at_builtin; refine wpList_append_own _ rfl _ _ 23 rfl (w.heap.size + 1) 59 i0 (.agg #[.int .i64 0, .int .i64 0]) 2 16 Tryz.underlying23 hi hz0 hz1 hz2 rfl (by decide) _ _ _ rfl ((pw_own_below HROW.out hbq).alloc _) ⟨wr.heap.size, 0, none⟩ 1 1 [.int .i64 (dayUp X.data.toList 7), .int .i64 0] rfl rfl (cell_two_new _ _ _ _) (fun x hx => by simp at hx; rcases hx with rfl | rfl <;> rfl) (by unfold maxLen; omega) (by omega) (by simp; omega) ?_; intro v' w1 hown' hgrow _)
              have T := Aside0.mk (week_app HB.out HBK.out HROW.out hbq hgrow)
              go_roundw
              case rel => exact ⟨xs.length + 1, xs ++ [⟨dayUp X.data.toList 7, 0⟩], by omega, by go_num, T.out.1, T.out.2, by rw [map_take _ L _ X hX]; exact wkAll_some P.out HALL.out, by simp, by simpa [enc59] using hown'⟩
              case measure => simp [intOf]; omega
            · obtain ⟨v, hv⟩ : ∃ v, v = numV (digL X.data.toList) := ⟨_, rfl⟩
              obtain ⟨b, hb⟩ : ∃ b, b = numB (digL X.data.toList) := ⟨_, rfl⟩
              obtain ⟨D, hD⟩ : ∃ D : ByteArray, D = ⟨(digL X.data.toList).toArray⟩ := ⟨_, rfl⟩
              have hcp : ∀ W, ∃ bb, Calls Tryz.prog 104 #[.string (X.extract 0 (X.size - 2)), .string ⟨#[43]⟩] W fun e w' => e = .returned (.tuple #[.string D, .bool bb]) ∧ w' = W := fun W => by
                have h := Tryz.strings_CutPrefix (X.extract 0 (X.size - 2)) ⟨#[43]⟩ W
                rw [Lib.extract_from_zero] at h
                exact ⟨_, by rw [hD]; exact h⟩
              have hnum : ∀ W, Globs W → Calls Tryz.prog 74 #[.string D] W fun e w' => e = .returned (.tuple #[.int .i64 v, .bool b]) ∧ Below W.heap.size W w' := fun W hW => by
                have hDl : D.data.toList = digL X.data.toList := by rw [hD]
                have h := recur_number D (by rw [← data_length, hDl]; exact Nat.le_trans (digL_len _) (by rw [data_length]; omega)) W hW
                rw [hDl, ← hv, ← hb] at h
                exact h
              have HN := Aside0.mk hnum
              have HV := Aside0.mk hv
              have HBB := Aside0.mk hb
              clear hnum hv hb hD
              obtain ⟨bb, hcp⟩ := hcp wr
              have hX0 : 0 < X.size := by omega
              have HD := Aside0.mk (head_get X hX0)
              go_wp2_with (first
                | (go_at_call 104; refine hcp.mono ?_; rintro e w2 ⟨rfl, rfl⟩)
                | (go_at_call 74; refine (HN.out _ (hG1.out.below (HB.out.trans (hbq.mono (Nat.le_of_lt hzz1))))).mono ?_; rintro e w3 ⟨rfl, hb3⟩; have hz3 := hb3.size; have hq3 := blk_below hq hb3; have d0 := blk_cell hq3 0; have d1 := blk_cell hq3 1; have df := blk_frozen hq3 1; simp at d0 d1)
                | (at_builtin; refine wpList_append_own _ rfl _ _ 23 rfl (w.heap.size + 1) 59 i0 (.agg #[.int .i64 0, .int .i64 0]) 2 16 Tryz.underlying23 hi hz0 hz1 hz2 rfl (by decide) _ _ _ rfl ((pw_own_below HROW.out ((hbq.trans (hb3.mono hbq.size)).setCell (p := ⟨W1.heap.size, 1, none⟩) (Nat.le_refl _) (.int .i64 v))).alloc _) ⟨w3.heap.size, 0, none⟩ 1 1 [.int .i64 (dayUp X.data.toList 7), .int .i64 v] rfl rfl (cell_two_at _ _ _ _ (by simp)) (fun x hx => by simp at hx; rcases hx with rfl | rfl <;> rfl) (by unfold maxLen; omega) (by omega) (by simp; omega) ?_; intro v' w1 hown' hgrow _))
              all_goals first
                | (have hbad : wkBad X.data.toList = true := by
                     unfold wkBad; rw [← HBB.out, ← HV.out, HD.out]
                     first
                       | (have e1 : ¬ b = true := (by assumption); simp [wkBadV, e1]; done)
                       | (have e1 : v = 0 := (by assumption); simp [wkBadV, e1]; done)
                       | (have e1 : (X[0].toNat : Int) = 43 := (by assumption); have e5 : (v == 0) = true ∨ v < 0 := (by assumption); have e6 : ¬ v = 0 := (by assumption); have e2 : v < 0 := e5.resolve_left (by simpa using e6); simp [wkBadV, u8_43 e1, e2]; done)
                   go_ret2
                   refine ⟨?_, HB.out.trans ((hbq.trans (hb3.mono hbq.size)).mono (Nat.le_of_lt hzz1))⟩
                   rw [map_split _ L _ X hX, wkAll_none (wk_bad h2 hE hbad) _ HALL.out]
                   rfl)
                | (have hgood : wkBad X.data.toList = false := by
                     unfold wkBad; rw [← HBB.out, ← HV.out, HD.out]
                     have e0 : b = true := (by assumption)
                     have e3 : ¬ v = 0 := (by assumption)
                     first
                       | (have e1 : ¬ (X[0].toNat : Int) = 43 := (by assumption); have e2 : ¬ X[0] = 43 := fun h => e1 (by rw [h]; rfl); simp [wkBadV, e0, e3, e2]; done)
                       | (have e2 : ¬ v < 0 := (by omega); simp [wkBadV, e0, e3, e2]; done)
                   have T := Aside0.mk (week_app HB.out HBK.out HROW.out ((hbq.trans (hb3.mono hbq.size)).setCell (p := ⟨W1.heap.size, 1, none⟩) (Nat.le_refl _) (.int .i64 v)) hgrow)
                   go_roundw
                   case rel => exact ⟨xs.length + 1, xs ++ [⟨dayUp X.data.toList 7, v⟩], by omega, by go_num, T.out.1, T.out.2, by rw [map_take _ L _ X hX]; exact wkAll_some (by rw [HV.out]; exact wk_good h2 hE hgood) HALL.out, by simp, by simpa [enc59] using hown'⟩
                   case measure => simp [intOf]; omega)
    · have hkL : xs.length = L.length := by omega
      rw [hkL, List.take_length] at hall
      go_wp2_with (go_at_call 105; refine (hsort (w.heap.size + 1) _ xs _ (wkAll_in hall) hrow (by omega)).mono ?_; rintro e w2 ⟨rfl, hrow2, hb2⟩)
      go_ret2
      refine ⟨?_, hb.trans (hb2.mono (by omega))⟩
      rw [hall]
      exact ⟨_, rfl, own_weaken hrow2 (by omega)⟩
end Go.Proofs.YtfbmjonhohebiaaGreatDoor
end
section
set_option linter.unusedVariables false
set_option linter.unusedSimpArgs false
namespace Go.Proofs.YtfbmjonhohebiaaGreatDoor
open Go.RowKit Go.Shelf Go.Lib Go.Sort Go.Proofs.YtfbmjonhohebiaaGreatDoorW.PrintWords Go.Proofs.YtfbmjonhohebiaaGreatDoorW.PrintLast Go.Proofs.YtfbmjonhohebiaaGreatDoorW.PrintMore PRecurExpands
def B59 : Type := {x : S59 // In59 x}
instance : Inhabited B59 := ⟨⟨⟨0, 0⟩, by simp [In59]⟩⟩
def encB (x : B59) : List Value := enc59 x.1
def cfB (x y : B59) : Int := if x.1.f0 = y.1.f0 then x.1.f1 - y.1.f1 else x.1.f0 - y.1.f0
theorem ltB (x y : B59) : ltOf cfB x y = lt59 x.1 y.1 := by
  unfold ltOf cfB lt59
  by_cases h : x.1.f0 = y.1.f0
  · rw [if_pos h]
    simp [h]
    omega
  · rw [if_neg h]
    simp [h]
    omega
theorem swoB : SWO (ltOf cfB) where
  irrefl x := by rw [ltB]; simp [lt59]
  trans x y z h1 h2 := by rw [ltB] at *; simp [lt59] at *; omega
  ntrans x y z h1 h2 := by rw [ltB] at *; simp [lt59] at *; omega
theorem partB (x y : B59) (h1 : (ltOf cfB) x y = false) (h2 : (ltOf cfB) y x = false) : x = y := by
  rw [ltB] at *
  simp [lt59] at *
  apply Subtype.ext
  obtain ⟨⟨a, b⟩, _⟩ := x
  obtain ⟨⟨c, d⟩, _⟩ := y
  simp at *
  omega
theorem cmpB (blk off size : Nat) (w : World) : CmpLays Tryz.prog 52 #[] encB 2 cfB blk off size w := fun m os dk _ x y => by
  have h := recur_order_c x.1 y.1 (sortWorldK encB 2 w blk off m dk os)
  obtain ⟨a1, a2, a3, a4⟩ := x.2
  obtain ⟨b1, b2, b3, b4⟩ := y.2
  have e : (if x.1.f0 = y.1.f0 then wrap64 (x.1.f1 - y.1.f1) else wrap64 (x.1.f0 - y.1.f0)) = cfB x y := by
    unfold cfB
    split
    · exact wrap64_in (by omega) (by omega)
    · exact wrap64_in (by omega) (by omega)
  rw [e] at h
  exact h
theorem flat_get {α : Type} (a b : α → Value) : ∀ (l : List α) (t : Nat), (l.flatMap fun x => [a x, b x])[t]? = (l[t / 2]?).map (fun x => if t % 2 = 0 then a x else b x) := by
  intro l
  induction l with
  | nil => intro t; simp
  | cons x l ih =>
    intro t
    match t with
    | 0 => simp
    | 1 => simp
    | t + 2 =>
      have h1 : (t + 2) / 2 = t / 2 + 1 := by omega
      have h2 : (t + 2) % 2 = t % 2 := by omega
      simp only [List.flatMap_cons, List.cons_append, List.nil_append, List.getElem?_cons_succ, h1, h2]
      exact ih t
theorem flatK_get (d : Array B59) (t : Nat) (h : t < d.size * 2) : (d.toList.flatMap encB)[t]? = some ((flatK encB 2 d)[t]!) := by
  rw [get_flatK _ _ _ _ h]
  have e : (d.toList.flatMap encB) = d.toList.flatMap fun x => [.int .i64 x.1.f0, .int .i64 x.1.f1] := rfl
  have h2 : t / 2 < d.size := by omega
  rw [e, flat_get]
  rw [List.getElem?_eq_getElem (by simpa using h2)]
  simp only [Option.map_some, Array.getElem_toList]
  rw [getElem!_pos d (t / 2) h2]
  have h3 : t % 2 = 0 ∨ t % 2 = 1 := by omega
  rcases h3 with h3 | h3
  · rw [h3]; rfl
  · rw [h3]; rfl
theorem flatK_list (d : Array B59) : (flatK encB 2 d).toList = d.toList.flatMap encB := by
  apply List.ext_getElem?
  intro t
  by_cases h : t < d.size * 2
  · rw [flatK_get d t h]
    rw [List.getElem?_eq_getElem (by simpa using h)]
    rw [getElem!_pos _ t (by simpa using h)]
    simp
  · have e : (d.toList.flatMap encB) = d.toList.flatMap fun x => [.int .i64 x.1.f0, .int .i64 x.1.f1] := rfl
    rw [List.getElem?_eq_none (by simpa using h), e, flat_get, List.getElem?_eq_none (by simp; omega)]
    rfl
def bring : (xs : List S59) → (∀ x ∈ xs, In59 x) → List B59
  | [], _ => []
  | x :: xs, h => ⟨x, h x (List.mem_cons_self ..)⟩ :: bring xs (fun y hy => h y (List.mem_cons_of_mem _ hy))
theorem bring_map : ∀ (xs : List S59) (h : ∀ x ∈ xs, In59 x), (bring xs h).map (·.1) = xs := by
  intro xs
  induction xs with
  | nil => intro h; rfl
  | cons x xs ih => intro h; show x :: (bring xs _).map (·.1) = x :: xs; rw [ih]
theorem bring_flat (xs : List S59) (h : ∀ x ∈ xs, In59 x) : (bring xs h).flatMap encB = xs.flatMap enc59 := by
  conv => rhs; rw [← bring_map xs h]
  rw [List.flatMap_map]
  rfl
theorem flat_len : ∀ (r : List B59), (r.flatMap encB).length = r.length * 2 := by
  intro r
  induction r with
  | nil => rfl
  | cons x r ih => rw [List.flatMap_cons, List.length_append, ih, List.length_cons]; simp [encB, enc59]; omega
theorem heap_sortedK {w : World} {g n : Nat} {os : Array Obj} {cur : Array Value} {e : TypeId} {fr : Nat × Nat} (d : Array B59) (hb : w.heap[g]? = some (.cells cur e fr)) :
    (sortWorldK encB 2 w g 0 n d os).heap[g]? = some (.cells (putCells id 0 (flatK encB 2 d) cur) e fr) := by
  have hg : g < w.heap.size := (Array.getElem?_eq_some_iff.1 hb).1
  unfold sortWorldK putRowK
  rw [heap_grow_old _ _ (by simpa using hg)]
  simp [putRow, mapBlock, Sort.ahead, Array.getElem?_modify, hb, onCells]
theorem below_sortedK {w : World} {g n : Nat} {os : Array Obj} (d : Array B59) {base : Nat} (hbase : base ≤ g) (hg : g < w.heap.size) : Below base w (sortWorldK encB 2 w g 0 n d os) := by
  refine ⟨rfl, rfl, rfl, by simp [sortWorldK, putRowK], fun k hk => ?_⟩
  unfold sortWorldK putRowK
  rw [heap_grow_old _ _ (by simp; omega)]
  have : g ≠ k := by omega
  simp [putRow, mapBlock, Sort.ahead, Array.getElem?_modify, this]
theorem sortC : SortC := by
  intro base v xs W hin hown hlen
  rcases hown.2 with ⟨rfl, h0⟩ | ⟨g, cap, cur, rfl, hbase, hh, hc1, hc2, hcs, htk⟩
  · have hx : xs = [] := List.eq_nil_of_length_eq_zero h0
    subst hx
    refine (AnyF.slices_SortFunc_none { Tryz.sortWd with } none 0 _ W).mono ?_
    rintro e w' ⟨rfl, rfl⟩
    exact ⟨rfl, by simpa [srt59] using hown, Below.refl _ _⟩
  · obtain ⟨l, hl⟩ : ∃ l, l = bring xs hin := ⟨_, rfl⟩
    have hm : l.map (·.1) = xs := by rw [hl]; exact bring_map xs hin
    have hf : l.flatMap encB = xs.flatMap enc59 := by rw [hl]; exact bring_flat xs hin
    have hn : l.length = xs.length := by rw [← hm]; simp
    have hcur : ∀ j, j < xs.length * 2 → cur[j]? = (xs.flatMap enc59)[j]? := by
      intro j hj
      rw [← htk, List.getElem?_take_of_lt hj]
      simp
    have hH : HoldsK encB 2 W g 0 l.toArray := by
      intro j hj
      have hj' : j < xs.length * 2 := by simpa [hn] using hj
      refine ⟨?_, blk_frozen hh _⟩
      rw [Nat.zero_add, blk_cell hh j, hcur j hj', ← hf]
      exact flatK_get l.toArray j (by simpa using hj)
    have eg : ∀ args w, (callFunc 52 args).run Tryz.prog w = .ok (.enter 52 args) w := enters_of Tryz.func52 (by kernel_rfl) rfl
    have hcon := AnyQ.slices_SortFunc_total Tryz.sortWd 2 Tryz.isAgg59 Tryz.sizeOf59 encB (fun _ => rfl) (fun x v hv => by simp [encB, enc59] at hv; rcases hv with rfl | rfl <;> rfl) cfB swoB 52 #[] g 0 cap l.toArray W eg (cmpB _ _ _ _) hH (blk_lt hh) (by simp; omega) partB
    have hsz : l.toArray.size = xs.length := by simpa using hn
    rw [hsz] at hcon
    refine Calls.mono hcon ?_
    rintro e w' ⟨rfl, n, os, rfl⟩
    have hs : (l.mergeSort fun x y => !(ltOf cfB) y x).map (·.1) = srt59 xs := by
      rw [← hm]
      unfold srt59
      rw [List.map_mergeSort]
      intro a _ b _
      rw [ltB]
    have hsl : (l.mergeSort fun x y => !(ltOf cfB) y x).length = xs.length := by rw [List.length_mergeSort]; exact hn
    obtain ⟨r, hr⟩ : ∃ r, r = l.mergeSort fun x y => !(ltOf cfB) y x := ⟨_, rfl⟩
    rw [← hr] at hs hsl ⊢
    have hsf : r.flatMap encB = (srt59 xs).flatMap enc59 := by rw [← hs, List.flatMap_map]; rfl
    refine ⟨rfl, ⟨by rw [← hsf, flat_len, hsl], .inr ⟨g, cap, _, rfl, hbase, heap_sortedK r.toArray hh, hc1, hc2, by simp [putCells, hcs], ?_⟩⟩, below_sortedK _ hbase (blk_lt hh)⟩
    rw [← hsf]
    have e := flatK_list r.toArray
    rw [show r.toArray.toList = r from rfl] at e
    rw [← e]
    have hz : (flatK encB 2 r.toArray).size = xs.length * 2 := by simp [hsl]
    have hcz : xs.length * 2 ≤ cur.size := by rw [hcs]; omega
    generalize flatK encB 2 r.toArray = F at hz
    apply List.ext_getElem?
    intro j
    by_cases hj : j < xs.length * 2
    · rw [List.getElem?_take_of_lt hj, Array.getElem?_toList]
      simp [putCells, hz, hj, show j < cur.size by omega]
    · rw [List.getElem?_take_eq_none (by omega), List.getElem?_eq_none (by simp; omega)]
end Go.Proofs.YtfbmjonhohebiaaGreatDoor
end
section
set_option linter.unusedVariables false
set_option linter.unusedSimpArgs false
namespace Go.Proofs.YtfbmjonhohebiaaGreatDoor
open Go.RowKit Go.Proofs.YtfbmjonhohebiaaGreatDoorW.PrintWords Go.Proofs.YtfbmjonhohebiaaGreatDoorW.PrintLast Go.Proofs.YtfbmjonhohebiaaGreatDoorW.PrintMore PRecurExpands
def frUp (l : List UInt8) (f : Int) : Nat → Int
  | 0 => f
  | k + 1 => if freqL ((k : Int) + 1) = l then (k : Int) + 1 else frUp l f k
def frOk (l : List UInt8) : Nat → Bool
  | 0 => false
  | k + 1 => if freqL ((k : Int) + 1) = l then true else frOk l k
theorem grown_set (W : World) (b i : Nat) (v : Value) : W.grownBy (W.setCell ⟨b, i, none⟩ v) (some b) :=
  ⟨rfl, rfl, rfl, by simp, fun k _ hk => Below.heap_setCell _ _ _ k (fun e => hk (by rw [e]))⟩
theorem fr_yes {l : List UInt8} {X : ByteArray} (h : (l == X.toList) = true) : l = X.data.toList := by rw [← Lib.toList_data]; simpa using h
theorem fr_no {l : List UInt8} {X : ByteArray} (h : (l == X.toList) = false) : ¬ l = X.data.toList := by rw [← Lib.toList_data]; simpa using h
def cells7 (a0 a1 a2 a3 : Int) (v4 v5 v6 : Value) : Array Value := #[.int .i64 a0, .int .i64 a1, .int .i64 a2, .int .i64 a3, v4, v5, v6]
def RuleAt (w : World) (p : Nat) (a0 a1 a2 a3 : Int) (v4 v5 v6 : Value) : Prop := w.heap[p]? = some (.cells (cells7 a0 a1 a2 a3 v4 v5 v6) 25 (0, 0))
theorem RuleAt.all {w : World} {p : Nat} {a0 a1 a2 a3 : Int} {v4 v5 v6 : Value} (h : RuleAt w p a0 a1 a2 a3 v4 v5 v6) :
    w.cell? ⟨p, 0, none⟩ = some (.int .i64 a0) ∧ w.cell? ⟨p, 1, none⟩ = some (.int .i64 a1) ∧ w.cell? ⟨p, 2, none⟩ = some (.int .i64 a2) ∧ w.cell? ⟨p, 3, none⟩ = some (.int .i64 a3) ∧
    w.cell? ⟨p, 4, none⟩ = some v4 ∧ w.cell? ⟨p, 5, none⟩ = some v5 ∧ w.cell? ⟨p, 6, none⟩ = some v6 ∧ (∀ i, w.frozen? ⟨p, i, none⟩ = false) ∧ p < w.heap.size :=
  ⟨blk_cell h 0, blk_cell h 1, blk_cell h 2, blk_cell h 3, blk_cell h 4, blk_cell h 5, blk_cell h 6, fun i => blk_frozen h i, blk_lt h⟩
theorem grown_trans {a b c : World} {row : Option Nat} (h : a.grownBy b row) (k : b.grownBy c row) : a.grownBy c row :=
  ⟨k.os.trans h.os, k.tape.trans h.tape, k.output.trans h.output, Nat.le_trans h.size k.size, fun i hi hne => (k.block i (Nat.lt_of_lt_of_le hi h.size) hne).trans (h.block i hi hne)⟩
set_option maxRecDepth 100000 in
set_option maxHeartbeats 2000000 in
theorem part_FREQ (X : ByteArray) (p : Nat) (a0 a1 a2 a3 : Int) (v4 v5 v6 : Value) (w : World) (hR : RuleAt w p a0 a1 a2 a3 v4 v5 v6) :
    Calls Tryz.prog 47 #[.pointer (some ⟨p, 0, none⟩), .string ⟨#[70, 82, 69, 81]⟩, .string X] w fun e w' => e = .returned (.bool (frOk X.data.toList 4)) ∧
      w.grownBy w' (some p) ∧ RuleAt w' p (frUp X.data.toList a0 4) a1 a2 a3 v4 v5 v6 := by
  have HR := Aside0.mk hR
  clear hR
  go_enter Tryz.func47, Tryz.ntmps47
  go_wp2
  go_loopw [7, 14] (fun b i wr => ∃ k : Nat, k ≤ 4 ∧ i = .int .i64 k ∧ b = .bool (frOk X.data.toList k) ∧ w.grownBy wr (some p) ∧ RuleAt wr p (frUp X.data.toList a0 k) a1 a2 a3 v4 v5 v6) (fun b i _ => 4 - (intOf i).toNat)
  case atStart => exact ⟨0, by omega, rfl, rfl, grown_of_below (Below.refl _ _) _, HR.out⟩
  case round =>
    obtain ⟨k, hk, rfl, rfl, hg, hr⟩ := hrel
    by_cases h4 : k < 4
    · have HG := Aside0.mk hg
      have HRR := Aside0.mk hr
      clear hg hr
      go_wp2_with (go_at_call 33; refine (recur_freq ((k : Int) + 1) (by omega) (by omega) _).mono ?_; rintro e w3 ⟨rfl, hb3⟩; obtain ⟨c0, c1, c2, c3, c4, c5, c6, cf, cz⟩ := (show RuleAt w3 p (frUp X.data.toList a0 k) a1 a2 a3 v4 v5 v6 from blk_below HRR.out hb3).all; have cf0 := cf 0; clear cf)
      · have l1 : (freqL ((k : Int) + 1) == X.toList) = true := by assumption
        go_roundw
        case rel => exact ⟨k + 1, by omega, by go_num, by rw [frOk, if_pos (fr_yes l1)], grown_trans (grown_trans HG.out (grown_of_below hb3 _)) (grown_set _ _ _ _), by rw [frUp, if_pos (fr_yes l1)]; exact blk_set (blk_below HRR.out hb3) 0 _⟩
        case measure => simp [intOf]; omega
      · have l1 : (freqL ((k : Int) + 1) == X.toList) = false := by assumption
        go_roundw
        case rel => exact ⟨k + 1, by omega, by go_num, by rw [frOk, if_neg (fr_no l1)], grown_trans HG.out (grown_of_below hb3 _), by rw [frUp, if_neg (fr_no l1)]; exact blk_below HRR.out hb3⟩
        case measure => simp [intOf]; omega
    · obtain rfl : k = 4 := by omega
      go_wp2
      go_ret
      exact ⟨rfl, hg, hr⟩
set_option maxRecDepth 100000 in
set_option maxHeartbeats 2000000 in
theorem part_INTERVAL (X : ByteArray) (hX : X.size ≤ 140737488351232) (p : Nat) (a0 a1 a2 a3 : Int) (v4 v5 v6 : Value) (w : World) (hG : Globs w) (hR : RuleAt w p a0 a1 a2 a3 v4 v5 v6) :
    Calls Tryz.prog 47 #[.pointer (some ⟨p, 0, none⟩), .string ⟨#[73, 78, 84, 69, 82, 86, 65, 76]⟩, .string X] w fun e w' => e = .returned (.bool (numB X.data.toList)) ∧
      w.grownBy w' (some p) ∧ RuleAt w' p a0 (numV X.data.toList) a2 a3 v4 v5 v6 := by
  have HR := Aside0.mk hR
  clear hR
  go_enter Tryz.func47, Tryz.ntmps47
  go_wp2_with (go_at_call 74; refine (recur_number X hX _ hG).mono ?_; rintro e w3 ⟨rfl, hb3⟩; obtain ⟨c0, c1, c2, c3, c4, c5, c6, cf, cz⟩ := (show RuleAt w3 p a0 a1 a2 a3 v4 v5 v6 from blk_below HR.out hb3).all; have cf0 := cf 1; clear cf)
  go_ret
  exact ⟨rfl, grown_trans (grown_of_below hb3 _) (grown_set _ _ _ _), blk_set (blk_below HR.out hb3) 1 _⟩
set_option maxRecDepth 100000 in
set_option maxHeartbeats 2000000 in
theorem part_COUNT (X : ByteArray) (hX : X.size ≤ 140737488351232) (p : Nat) (a0 a1 a2 a3 : Int) (v4 v5 v6 : Value) (w : World) (hG : Globs w) (hR : RuleAt w p a0 a1 a2 a3 v4 v5 v6) :
    Calls Tryz.prog 47 #[.pointer (some ⟨p, 0, none⟩), .string ⟨#[67, 79, 85, 78, 84]⟩, .string X] w fun e w' => e = .returned (.bool (numB X.data.toList && decide (0 < numV X.data.toList))) ∧
      w.grownBy w' (some p) ∧ RuleAt w' p a0 a1 (numV X.data.toList) a3 v4 v5 v6 := by
  have HR := Aside0.mk hR
  clear hR
  have hnum := recur_number X hX w hG
  obtain ⟨v, hv⟩ : ∃ v, v = numV X.data.toList := ⟨_, rfl⟩
  obtain ⟨b, hb⟩ : ∃ b, b = numB X.data.toList := ⟨_, rfl⟩
  rw [← hv, ← hb] at hnum ⊢
  clear hv hb
  cases b <;>
  ( go_enter Tryz.func47, Tryz.ntmps47
    go_wp2_with (go_at_call 74; refine hnum.mono ?_; rintro e w3 ⟨rfl, hb3⟩; obtain ⟨c0, c1, c2, c3, c4, c5, c6, cf, cz⟩ := (show RuleAt w3 p a0 a1 a2 a3 v4 v5 v6 from blk_below HR.out hb3).all; have cf0 := cf 2; clear cf)
    go_ret
    exact ⟨rfl, grown_trans (grown_of_below hb3 _) (grown_set _ _ _ _), blk_set (blk_below HR.out hb3) 2 _⟩)
set_option maxRecDepth 100000 in
set_option maxHeartbeats 2000000 in
theorem part_BYDAY (hsort : SortC) (X : ByteArray) (hX : X.size < 4294967000) (p : Nat) (a0 a1 a2 a3 : Int) (v4 v5 v6 : Value) (w : World) (hG : Globs w) (hR : RuleAt w p a0 a1 a2 a3 v4 v5 v6) :
    Calls Tryz.prog 47 #[.pointer (some ⟨p, 0, none⟩), .string ⟨#[66, 89, 68, 65, 89]⟩, .string X] w fun e w' => e = .returned (.bool (wkAll ((spl X 44).map (·.data.toList))).isSome) ∧
      w.grownBy w' (some p) ∧ ∃ v, RuleAt w' p a0 a1 a2 a3 v4 v5 v ∧ ∀ xs, wkAll ((spl X 44).map (·.data.toList)) = some xs → w'.ownsRow w.heap.size 59 2 v xs.length ((srt59 xs).flatMap enc59) := by
  have HR := Aside0.mk hR
  clear hR
  have hwk := recur_week hsort X hX w hG
  obtain ⟨o, ho⟩ : ∃ o, o = wkAll ((spl X 44).map (·.data.toList)) := ⟨_, rfl⟩
  rw [← ho] at hwk ⊢
  clear ho
  cases o with
  | none =>
    go_enter Tryz.func47, Tryz.ntmps47
    go_wp2_with (go_at_call 77; refine hwk.mono ?_; rintro e w3 ⟨rfl, hb3⟩; obtain ⟨c0, c1, c2, c3, c4, c5, c6, cf, cz⟩ := (show RuleAt w3 p a0 a1 a2 a3 v4 v5 v6 from blk_below HR.out hb3).all; have cf0 := cf 6; clear cf)
    go_ret
    exact ⟨rfl, grown_trans (grown_of_below hb3 _) (grown_set _ _ _ _), _, blk_set (blk_below HR.out hb3) 6 _, fun xs h => by cases h⟩
  | some xs =>
    go_enter Tryz.func47, Tryz.ntmps47
    go_wp2_with (go_at_call 77; refine hwk.mono ?_; rintro e w3 ⟨⟨v, rfl, hrow⟩, hb3⟩; obtain ⟨A, cv, rfl⟩ := own_slice hrow; have HROW := Aside0.mk hrow; clear hrow; obtain ⟨c0, c1, c2, c3, c4, c5, c6, cf, cz⟩ := (show RuleAt w3 p a0 a1 a2 a3 v4 v5 v6 from blk_below HR.out hb3).all; have cf0 := cf 6; clear cf)
    go_ret
    refine ⟨rfl, grown_trans (grown_of_below hb3 _) (grown_set _ _ _ _), _, blk_set (blk_below HR.out hb3) 6 _, fun ys h => ?_⟩
    injection h with h
    subst h
    refine own_move HROW.out (fun k hk => Below.heap_setCell _ _ _ k (fun e => ?_))
    have h1 := own_base HROW.out k hk
    have h2 := blk_lt HR.out
    simp at e
    omega
end Go.Proofs.YtfbmjonhohebiaaGreatDoor
end
section
set_option linter.unusedVariables false
set_option linter.unusedSimpArgs false
namespace Go.Proofs.YtfbmjonhohebiaaGreatDoor
open Go.RowKit Go.Proofs.YtfbmjonhohebiaaGreatDoorW.PrintWords Go.Proofs.YtfbmjonhohebiaaGreatDoorW.PrintLast Go.Proofs.YtfbmjonhohebiaaGreatDoorW.PrintMore PRecurExpands
def nlOne (l : List UInt8) : Option Int := if numB l = true then some (numV l) else none
def nlAll : List (List UInt8) → Option (List Int)
  | [] => some []
  | l :: ls => match nlOne l with | none => none | some x => (nlAll ls).map (x :: ·)
theorem nlAll_none {l : List UInt8} (hl : nlOne l = none) (b : List (List UInt8)) : ∀ {a : List (List UInt8)} {xs : List Int}, nlAll a = some xs → nlAll (a ++ l :: b) = none := by
  intro a
  induction a with
  | nil => intro xs _; simp [nlAll, hl]
  | cons x a ih =>
    intro xs h
    simp only [nlAll] at h
    cases hx : nlOne x with
    | none => rw [hx] at h; cases h
    | some y =>
      rw [hx] at h
      simp only [Option.map_eq_some_iff] at h
      obtain ⟨ys, h1, _⟩ := h
      simp only [List.cons_append, nlAll, hx, ih h1, Option.map_none]
theorem nlAll_some {l : List UInt8} {y : Int} (hl : nlOne l = some y) : ∀ {a : List (List UInt8)} {xs : List Int}, nlAll a = some xs → nlAll (a ++ [l]) = some (xs ++ [y]) := by
  intro a
  induction a with
  | nil => intro xs h; injection h with h; subst h; simp [nlAll, hl]
  | cons x a ih =>
    intro xs h
    simp only [nlAll] at h
    cases hx : nlOne x with
    | none => rw [hx] at h; cases h
    | some z =>
      rw [hx] at h
      simp only [Option.map_eq_some_iff] at h
      obtain ⟨ys, h1, rfl⟩ := h
      simp only [List.cons_append, nlAll, hx, ih h1, Option.map_some]
def srtI (l : List Int) : List Int := l.mergeSort fun x y => decide (x ≤ y)
theorem heap_sortedZ {w : World} {g n : Nat} {os : Array Obj} {cur : Array Value} {e : TypeId} {fr : Nat × Nat} (d : Array Int) (hb : w.heap[g]? = some (.cells cur e fr)) :
    (Go.Sort.grow (Go.Sort.putRow (Value.int .i64) (Go.Sort.ahead w n) g 0 d) os).heap[g]? = some (.cells (Go.Sort.putCells (Value.int .i64) 0 d cur) e fr) := by
  have hg : g < w.heap.size := (Array.getElem?_eq_some_iff.1 hb).1
  rw [Go.Sort.heap_grow_old _ _ (by simpa using hg)]
  simp [Go.Sort.putRow, Go.Sort.mapBlock, Go.Sort.ahead, Array.getElem?_modify, hb, Go.Sort.onCells]
theorem below_sortedZ {w : World} {g n : Nat} {os : Array Obj} (d : Array Int) {base : Nat} (hbase : base ≤ g) (hg : g < w.heap.size) : Below base w (Go.Sort.grow (Go.Sort.putRow (Value.int .i64) (Go.Sort.ahead w n) g 0 d) os) := by
  refine ⟨rfl, rfl, rfl, by simp, fun k hk => ?_⟩
  rw [Go.Sort.heap_grow_old _ _ (by simp; omega)]
  have : g ≠ k := by omega
  simp [Go.Sort.putRow, Go.Sort.mapBlock, Go.Sort.ahead, Array.getElem?_modify, this]
theorem sortI (base : Nat) (v : Value) (xs : List Int) (W : World) (hown : W.ownsRow base 3 1 v xs.length (xs.map (.int .i64))) (hlen : xs.length ≤ 4294967296) :
    Calls Tryz.prog 103 #[v] W fun e w' => e = .returned (.tuple #[]) ∧ w'.ownsRow base 3 1 v xs.length ((srtI xs).map (.int .i64)) ∧ Below base W w' := by
  rcases hown.2 with ⟨rfl, h0⟩ | ⟨g, cap, cur, rfl, hbase, hh, hc1, hc2, hcs, htk⟩
  · have hx : xs = [] := List.eq_nil_of_length_eq_zero h0
    subst hx
    refine (Tryz.slices_Sort_int_none none 0 W).mono ?_
    rintro e w' ⟨rfl, rfl⟩
    exact ⟨rfl, by simpa [srtI] using hown, Below.refl _ _⟩
  · have hcur : ∀ j, j < xs.length → cur[j]? = some (.int .i64 (xs.toArray[j]!)) := by
      intro j hj
      have : (xs.map (Value.int .i64))[j]? = some (.int .i64 (xs.toArray[j]!)) := by simp [hj]
      rw [← this, ← htk, List.getElem?_take_of_lt (by omega)]
      simp
    have hH : Go.Sort.Holds (Value.int .i64) W g 0 xs.toArray := by
      intro j hj
      refine ⟨?_, blk_frozen hh _⟩
      rw [Nat.zero_add, blk_cell hh j, hcur j (by simpa using hj)]
    refine (Tryz.slices_Sort_int g 0 cap xs W hH (blk_lt hh) (by omega)).mono ?_
    rintro e w' ⟨rfl, n, os, rfl⟩
    have hl : (srtI xs).length = xs.length := by unfold srtI; rw [List.length_mergeSort]
    refine ⟨rfl, ⟨by simp [hl], .inr ⟨g, cap, _, rfl, hbase, heap_sortedZ _ hh, hc1, hc2, by simp [Go.Sort.putCells, hcs], ?_⟩⟩, below_sortedZ _ hbase (blk_lt hh)⟩
    show ((Go.Sort.putCells (Value.int .i64) 0 (srtI xs).toArray cur).toList.take (xs.length * 1)) = _
    generalize srtI xs = ts at hl
    rw [Nat.mul_one, ← hl]
    apply List.ext_getElem?
    intro j
    by_cases hj : j < ts.length
    · rw [List.getElem?_take_of_lt hj, Array.getElem?_toList]
      simp [Go.Sort.putCells, hj, show j < cur.size by omega]
    · rw [List.getElem?_take_eq_none (by omega), List.getElem?_eq_none (by simp; omega)]
theorem info_int : (Tryz.prog.info? 3).map (fun i => (i.zero, i.size, i.bytes)) = some (some (.int .i64 0), 1, 8) := by kernel_rfl
def nlPost (o : Option (List Int)) (n₀ : Nat) (e : Ending) (w' : World) : Prop := match o with
  | none => e = .returned (.tuple #[.slice none 0 0, .bool false])
  | some xs => ∃ v, e = .returned (.tuple #[v, .bool true]) ∧ w'.ownsRow n₀ 3 1 v xs.length ((srtI xs).map (.int .i64))
theorem list_app {w W1 wr w1 : World} {n m : Nat} {v : Value} {xs : List Value} {o tmp : Obj} (hb : Below n w W1) (hbk : W1.heap[n]? = some o) (hrow : W1.ownsRow (n + 1) 3 1 v m xs) (hbq : Below W1.heap.size W1 wr) (hg : (wr.alloc tmp).grownBy w1 v.ownBlock) :
    Below n w w1 ∧ w1.heap[n]? = some o := by
  have hz := blk_lt hbk
  have h2 := hbq.size
  have key : ∀ k, v.ownBlock = some k → n + 1 ≤ k := fun k hk => own_base hrow k hk
  refine ⟨((hb.trans (hbq.mono (by omega))).alloc (by omega) _).grown hg (by simp; omega) (fun k hk => by have := key k hk; omega), blk_grown (blk_alloc (blk_below hbk hbq) _) hg (fun e => by have := key n e.symm; omega)⟩
theorem cell_one_at2 (w : World) (x : Value) (t : TypeId) {b : Nat} (h : b = w.heap.size) : ∀ j u, [x][j]? = some u → (w.alloc (.cells #[x] t)).cell? ((⟨b, 0, none⟩ : Addr).add j) = some u := by
  subst h; exact cell_one_new w x t
set_option maxRecDepth 100000 in
set_option maxHeartbeats 2000000 in
theorem recur_list (s : ByteArray) (hs : s.size < 4294967000) (w : World) (hG : Globs w) :
    Calls Tryz.prog 76 #[.string s] w fun e w' => nlPost (nlAll ((spl s 44).map (·.data.toList))) w.heap.size e w' ∧ Below w.heap.size w w' := by
  obtain ⟨m, hm⟩ := hG.maxlen
  obtain ⟨L, hL⟩ : ∃ L, L = spl s 44 := ⟨_, rfl⟩
  have hlen : Lib.countB s ⟨#[44]⟩ + 1 = L.length := by rw [hL]; exact (spl_len s 44).symm
  rw [← hL]
  have hLs : ∀ x ∈ L, x.size ≤ s.size := by rw [hL]; exact spl_mem s 44
  have hLl : L.length ≤ s.size + 1 := by rw [hL, spl_len]; have := Lib.countB_le ⟨#[44]⟩ (by decide) s.size s (Nat.le_refl _); omega
  have hcut := Tryz.strings_Split s ⟨#[44]⟩ m w (by omega) hm (by decide)
  rw [show Lib.splitB ⟨#[44]⟩ 0 (Lib.countB s ⟨#[44]⟩) s = L from hL.symm, hlen] at hcut
  have hG1 := Aside0.mk hG
  clear hG hL hlen
  go_enter Tryz.func76, Tryz.ntmps76
  go_wp2_with (go_at_call 44; refine hcut.mono ?_; rintro e w2 ⟨rfl, rfl⟩)
  have hb0 : Below w.heap.size w (w.alloc (.cells (L.map Value.string).toArray 9)) := (Below.refl _ _).alloc (Nat.le_refl _) _
  have hk0 : (w.alloc (.cells (L.map Value.string).toArray 9)).heap[w.heap.size]? = some (.cells (L.map Value.string).toArray 9) := blk_new w _
  obtain ⟨i0, hi, hz0, hz1, hz2⟩ := info_parts info_int
  go_loopw [4, 12] (fun v i wr => ∃ (k : Nat) (xs : List Int), k ≤ L.length ∧ i = .int .i64 k ∧ Below w.heap.size w wr ∧ wr.heap[w.heap.size]? = some (.cells (L.map Value.string).toArray 9) ∧ nlAll ((L.take k).map (·.data.toList)) = some xs ∧ xs.length = k ∧ wr.ownsRow (w.heap.size + 1) 3 1 v xs.length (xs.map (.int .i64))) (fun v i _ => L.length - (intOf i).toNat)
  case atStart => exact ⟨0, [], by omega, rfl, hb0, hk0, rfl, rfl, World.ownsRow_nil _ _ _ _⟩
  case round =>
    obtain ⟨k, xs, hk, rfl, hb, hbk, hall, rfl, hrow⟩ := hrel
    obtain ⟨W1, hW1⟩ : ∃ W1, W1 = wr := ⟨_, rfl⟩
    subst hW1
    have hzz1 := blk_lt hbk
    by_cases hlt : xs.length < L.length
    · obtain ⟨X, hX⟩ : ∃ X, L[xs.length]? = some X := ⟨L[xs.length], List.getElem?_eq_getElem hlt⟩
      have hXs := hLs X (List.mem_of_getElem? hX)
      have hcell : W1.cell? ⟨w.heap.size, xs.length, none⟩ = some (.string X) := by rw [blk_cell hbk]; simp [hX]
      obtain ⟨A, cv, rfl⟩ := own_slice hrow
      have HROW := Aside0.mk hrow
      have HALL := Aside0.mk hall
      have HB := Aside0.mk hb
      have HBK := Aside0.mk hbk
      have hnum := recur_number X (by omega) W1 (hG1.out.below hb)
      obtain ⟨v, hv⟩ : ∃ v, v = numV X.data.toList := ⟨_, rfl⟩
      obtain ⟨b, hbb⟩ : ∃ b, b = numB X.data.toList := ⟨_, rfl⟩
      rw [← hv, ← hbb] at hnum
      have HV := Aside0.mk hv
      have HBB := Aside0.mk hbb
      clear hrow hall hb hbk hv hbb
      cases b with
      | false =>
        go_wp2_with (go_at_call 74; refine hnum.mono ?_; rintro e w3 ⟨rfl, hb3⟩; have hz3 := hb3.size)
        go_ret2
        refine ⟨?_, HB.out.trans (hb3.mono (Nat.le_of_lt hzz1))⟩
        rw [map_split _ L _ X hX, nlAll_none (by unfold nlOne; rw [if_neg (by rw [← HBB.out]; decide)]) _ HALL.out]
        rfl
      | true =>
        go_wp2_with (first
          | (go_at_call 74; refine hnum.mono ?_; rintro e w3 ⟨rfl, hb3⟩; have hz3 := hb3.size)
          | (at_builtin; refine wpList_append_own _ rfl _ _ 22 rfl (w.heap.size + 1) 3 i0 (.int .i64 0) 1 8 Tryz.underlying22 hi hz0 hz1 hz2 rfl (by decide) _ _ _ rfl ((pw_own_below HROW.out hb3).alloc _) ⟨w3.heap.size, 0, none⟩ 1 1 [.int .i64 v] rfl rfl (cell_one_at2 _ _ _ (by simp)) (fun x hx => by simp at hx; rcases hx with rfl; rfl) (by unfold maxLen; omega) (by omega) (by simp; omega) ?_; intro v' w1 hown' hgrow _))
        have T := Aside0.mk (list_app HB.out HBK.out HROW.out hb3 hgrow)
        go_roundw
        case rel => exact ⟨xs.length + 1, xs ++ [v], by omega, by go_num, T.out.1, T.out.2, by rw [map_take _ L _ X hX]; exact nlAll_some (by unfold nlOne; rw [if_pos HBB.out.symm, HV.out]) HALL.out, by simp, by simpa using hown'⟩
        case measure => simp [intOf]; omega
    · have hkL : xs.length = L.length := by omega
      rw [hkL, List.take_length] at hall
      go_wp2_with (go_at_call 103; refine (sortI (w.heap.size + 1) _ xs _ hrow (by omega)).mono ?_; rintro e w2 ⟨rfl, hrow2, hb2⟩)
      go_ret2
      refine ⟨?_, hb.trans (hb2.mono (by omega))⟩
      rw [hall]
      exact ⟨_, rfl, own_weaken hrow2 (by omega)⟩
end Go.Proofs.YtfbmjonhohebiaaGreatDoor
end
