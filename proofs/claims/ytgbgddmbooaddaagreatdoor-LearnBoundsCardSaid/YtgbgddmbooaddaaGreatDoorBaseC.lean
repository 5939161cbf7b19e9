/-
  Common ground of the proofs over this seat, part 3: DERIVED: THE SHELF's CONTRACTS AT THIS DUMP, IN PLAIN WORDS (tools/lay-plain.mjs out of 'S; Plain functions, continued: the text of a claim; Plain functions, continued: the number of a word.
-/
import Derived.Shelf.Small.Bits
import Derived.Shelf.Utf8.RuneCount
import Derived.Shelf.Strconv.Itoa0
import Derived.Shelf.Strconv.Itoa1
import Derived.Shelf.LaysM
import Derived.Shelf.Strconv.Itoa2
import Derived.Shelf.Strconv.Itoa3
import Derived.Shelf.Strconv.Itoa4
import Derived.Shelf.Strconv.ParseIntEmpty
import Derived.Shelf.Strconv.Clone
import Derived.Shelf.Strconv.SyntaxError
import Derived.Shelf.LaysC
import Derived.Shelf.Strconv.ToError
import Derived.Shelf.Strconv.Lower
import Derived.Shelf.Strconv.ParseUint10
import Derived.Shelf.Strconv.ParseUint10Empty
import Derived.Shelf.Strconv.ParseUint10Any
import Derived.Shelf.Strconv.ParseInt10
import Derived.Shelf.Strconv.RangeError
import Derived.Shelf.Strconv.ToErrorRange
import Derived.Shelf.Strconv.ParseUintEmpty
import Derived.Shelf.Strconv.ParseUint10b64
import Derived.Shelf.Strconv.ParseUint10b32
import Derived.Shelf.Strconv.ParseUint10b16
import Derived.Shelf.Strconv.ParseUint10b8
import Derived.Shelf.Strconv.ParseUint10At
import Derived.Shelf.Strconv.ParseInt10At64
import Derived.Shelf.Strconv.ParseInt10At32
import Derived.Shelf.Strconv.ParseInt10At16
import Derived.Shelf.Strconv.ParseInt10At8
import Derived.Shelf.Strconv.ParseInt10All
import Derived.Shelf.Strconv.ParseIntPublic10
import Derived.Shelf.Strconv.ErrVarParseInt
import Derived.Shelf.Strings.Search1
import Derived.Shelf.Strings.Search2
import Derived.Shelf.Strings.Search3
import Derived.Shelf.Strings.Count
import Derived.Shelf.Strings.Shaped
import Derived.Shelf.Strings.Split
import Derived.Shelf.Strings.SplitShaped
import Derived.Shelf.Unicode.Decode
import Derived.Shelf.Strings.RuneCount
import Derived.Shelf.Strings.Explode
import Derived.Shelf.Unicode.DecodeSlow
import Derived.Shelf.Unicode.DecodeAny
import Derived.Ground.SlgnProg
import Derived.Shelf.SlicesE.Clone
import Derived.Test.YtgbgddmbooaddaaGreatDoorProg
import Derived.Lib.ItoaNum
import Derived.Lib.ParseIntB
import Derived.Lib.SmallJoins
import Derived.Lib.SplitLaws
import Derived.Test.YtgbgddmbooaddaaGreatDoorBaseB
namespace Go.Proofs
open Go.Shelf
def Tryz.laysM173_ren : Go.Shelf.Ren := ⟨fun | 173 => 38 | 246 => 70 | 283 => 97 | 284 => 98 | 285 => 99 | 286 => 100 | 129 => 114 | 317 => 113 | 318 => 115 | 319 => 116 | 320 => 117 | 337 => 135 | 338 => 136 | n => n, fun | 2 => 2 | 3 => 3 | 9 => 9 | 4 => 4 | 171 => 147 | 0 => 0 | 53 => 121 | 37 => 150 | 5 => 5 | 173 => 151 | 212 => 167 | 51 => 168 | 20 => 20 | 213 => 169 | 46 => 163 | 232 => 196 | 233 => 197 | n => n, fun | 17 => 0 | 18 => 2 | 19 => 3 | n => n⟩
theorem Tryz.laysM173 : Go.Proofs.LaysM.n173 Tryz.prog Tryz.laysM173_ren := {
  mixed := by kernel_rfl
  f129 := Tryz.func114.trans (congrArg some (by kernel_rfl))
  f173 := Tryz.func38.trans (congrArg some (by kernel_rfl))
  f246 := Tryz.func70.trans (congrArg some (by kernel_rfl))
  f283 := Tryz.func97.trans (congrArg some (by kernel_rfl))
  f284 := Tryz.func98.trans (congrArg some (by kernel_rfl))
  f285 := Tryz.func99.trans (congrArg some (by kernel_rfl))
  f286 := Tryz.func100.trans (congrArg some (by kernel_rfl))
  f317 := Tryz.func113.trans (congrArg some (by kernel_rfl))
  f318 := Tryz.func115.trans (congrArg some (by kernel_rfl))
  f319 := Tryz.func116.trans (congrArg some (by kernel_rfl))
  f320 := Tryz.func117.trans (congrArg some (by kernel_rfl))
  f337 := Tryz.func135.trans (congrArg some (by kernel_rfl))
  f338 := Tryz.func136.trans (congrArg some (by kernel_rfl))
  t0 := Tryz.underlying0
  a0 := Tryz.isAgg0
  z0 := Tryz.sizeOf0
  v0 := Tryz.zeroValue0
  t2 := Tryz.underlying2
  a2 := Tryz.isAgg2
  z2 := Tryz.sizeOf2
  v2 := Tryz.zeroValue2
  t3 := Tryz.underlying3
  a3 := Tryz.isAgg3
  z3 := Tryz.sizeOf3
  v3 := Tryz.zeroValue3
  t4 := Tryz.underlying4
  a4 := Tryz.isAgg4
  z4 := Tryz.sizeOf4
  v4 := Tryz.zeroValue4
  t5 := Tryz.underlying5
  a5 := Tryz.isAgg5
  z5 := Tryz.sizeOf5
  v5 := Tryz.zeroValue5
  t9 := Tryz.underlying9
  a9 := Tryz.isAgg9
  z9 := Tryz.sizeOf9
  v9 := Tryz.zeroValue9
  t20 := Tryz.underlying20
  a20 := Tryz.isAgg20
  z20 := Tryz.sizeOf20
  v20 := Tryz.zeroValue20
  t37 := Tryz.underlying150
  a37 := Tryz.isAgg150
  z37 := Tryz.sizeOf150
  v37 := Tryz.zeroValue150
  t46 := Tryz.underlying163
  a46 := Tryz.isAgg163
  z46 := Tryz.sizeOf163
  v46 := Tryz.zeroValue163
  t51 := Tryz.underlying168
  a51 := Tryz.isAgg168
  z51 := Tryz.sizeOf168
  v51 := Tryz.zeroValue168
  t53 := Tryz.underlying121
  a53 := Tryz.isAgg121
  z53 := Tryz.sizeOf121
  v53 := Tryz.zeroValue121
  t171 := Tryz.underlying147
  a171 := Tryz.isAgg147
  z171 := Tryz.sizeOf147
  v171 := Tryz.zeroValue147
  t173 := Tryz.underlying151
  a173 := Tryz.isAgg151
  z173 := Tryz.sizeOf151
  v173 := Tryz.zeroValue151
  t212 := Tryz.underlying167
  a212 := Tryz.isAgg167
  z212 := Tryz.sizeOf167
  v212 := Tryz.zeroValue167
  t213 := Tryz.underlying169
  a213 := Tryz.isAgg169
  z213 := Tryz.sizeOf169
  t232 := Tryz.underlying196
  a232 := Tryz.isAgg196
  z232 := Tryz.sizeOf196
  v232 := Tryz.zeroValue196
  t233 := Tryz.underlying197
  a233 := Tryz.isAgg197
  z233 := Tryz.sizeOf197
  v233 := Tryz.zeroValue197
  g17 := by kernel_rfl
  g18 := by kernel_rfl
  g19 := by kernel_rfl
  i0 := by kernel_rfl
  i2 := by kernel_rfl
  i3 := by kernel_rfl
  i4 := by kernel_rfl
  i5 := by kernel_rfl
  i9 := by kernel_rfl
  i20 := by kernel_rfl
  i37 := by kernel_rfl
  i46 := by kernel_rfl
  i51 := by kernel_rfl
  i53 := by kernel_rfl
  i171 := by kernel_rfl
  i173 := by kernel_rfl
  i212 := by kernel_rfl
  i232 := by kernel_rfl
  i233 := by kernel_rfl
  m17 := by kernel_rfl
  m18 := by kernel_rfl
  m19 := by kernel_rfl }
open Go.RowKit Go.Sort Go.Lib in
/-- strconv.FormatInt: "FormatInt returns the string representation of i in the given base": AT BASE 10: i's decimal numeral, for every int64. (LAID: no walk: one application.) -/
theorem Tryz.strconv_FormatInt_10 (n : Int) (h0 : -9223372036854775808 ≤ n) (h1 : n ≤ 9223372036854775807) (w : World) (htab : Lib.TabIs Tryz.prog w "internal/strconv.uint64pow10" .u64 Lib.pow10Tab) :
    Calls Tryz.prog 38 #[.int .i64 n, .int .i64 10] w fun e w' => e = .returned (.string ⟨(Lib.itoa n).toArray⟩) ∧ ∃ k os, w' = grow (w.drewN k) os := Any.strconv_FormatInt_10 Tryz.laysM173 n h0 h1 w htab
def Tryz.laysC174_ren : Go.Shelf.Ren := ⟨fun | 174 => 108 | 247 => 123 | 245 => 124 | 287 => 142 | 279 => 143 | 280 => 144 | 281 => 145 | 282 => 146 | 321 => 155 | 322 => 156 | 316 => 157 | 171 => 159 | 205 => 158 | 243 => 161 | 246 => 70 | 283 => 97 | 284 => 98 | 285 => 99 | 286 => 100 | 129 => 114 | 317 => 113 | 318 => 115 | 319 => 116 | 320 => 117 | 337 => 135 | 338 => 136 | n => n, fun | 9 => 9 | 3 => 3 | 2 => 2 | 75 => 157 | 85 => 158 | 4 => 4 | 167 => 184 | 5 => 5 | 53 => 121 | 175 => 185 | 46 => 163 | 168 => 187 | 37 => 150 | 0 => 0 | 210 => 207 | 21 => 21 | 127 => 212 | 145 => 215 | 143 => 213 | 171 => 147 | 173 => 151 | 212 => 167 | 51 => 168 | 20 => 20 | 213 => 169 | 232 => 196 | 233 => 197 | 80 => 216 | n => n, fun | 15 => 6 | 16 => 7 | 17 => 0 | 18 => 2 | 19 => 3 | n => n⟩
theorem Tryz.laysC174 : Go.Proofs.LaysC.n174 Tryz.prog Tryz.laysC174_ren := {
  mixed := by kernel_rfl
  f129 := Tryz.func114.trans (congrArg some (by kernel_rfl))
  f171 := Tryz.func159.trans (congrArg some (by kernel_rfl))
  f174 := Tryz.func108.trans (congrArg some (by kernel_rfl))
  f205 := Tryz.func158.trans (congrArg some (by kernel_rfl))
  f243 := Tryz.func161.trans (congrArg some (by kernel_rfl))
  f245 := Tryz.func124.trans (congrArg some (by kernel_rfl))
  f246 := Tryz.func70.trans (congrArg some (by kernel_rfl))
  f247 := Tryz.func123.trans (congrArg some (by kernel_rfl))
  f279 := Tryz.func143.trans (congrArg some (by kernel_rfl))
  f280 := Tryz.func144.trans (congrArg some (by kernel_rfl))
  f281 := Tryz.func145.trans (congrArg some (by kernel_rfl))
  f282 := Tryz.func146.trans (congrArg some (by kernel_rfl))
  f283 := Tryz.func97.trans (congrArg some (by kernel_rfl))
  f284 := Tryz.func98.trans (congrArg some (by kernel_rfl))
  f285 := Tryz.func99.trans (congrArg some (by kernel_rfl))
  f286 := Tryz.func100.trans (congrArg some (by kernel_rfl))
  f287 := Tryz.func142.trans (congrArg some (by kernel_rfl))
  f316 := Tryz.func157.trans (congrArg some (by kernel_rfl))
  f317 := Tryz.func113.trans (congrArg some (by kernel_rfl))
  f318 := Tryz.func115.trans (congrArg some (by kernel_rfl))
  f319 := Tryz.func116.trans (congrArg some (by kernel_rfl))
  f320 := Tryz.func117.trans (congrArg some (by kernel_rfl))
  f321 := Tryz.func155.trans (congrArg some (by kernel_rfl))
  f322 := Tryz.func156.trans (congrArg some (by kernel_rfl))
  f337 := Tryz.func135.trans (congrArg some (by kernel_rfl))
  f338 := Tryz.func136.trans (congrArg some (by kernel_rfl))
  t0 := Tryz.underlying0
  a0 := Tryz.isAgg0
  z0 := Tryz.sizeOf0
  v0 := Tryz.zeroValue0
  t2 := Tryz.underlying2
  a2 := Tryz.isAgg2
  z2 := Tryz.sizeOf2
  v2 := Tryz.zeroValue2
  t3 := Tryz.underlying3
  a3 := Tryz.isAgg3
  z3 := Tryz.sizeOf3
  v3 := Tryz.zeroValue3
  t4 := Tryz.underlying4
  a4 := Tryz.isAgg4
  z4 := Tryz.sizeOf4
  v4 := Tryz.zeroValue4
  t5 := Tryz.underlying5
  a5 := Tryz.isAgg5
  z5 := Tryz.sizeOf5
  v5 := Tryz.zeroValue5
  t9 := Tryz.underlying9
  a9 := Tryz.isAgg9
  z9 := Tryz.sizeOf9
  v9 := Tryz.zeroValue9
  t20 := Tryz.underlying20
  a20 := Tryz.isAgg20
  z20 := Tryz.sizeOf20
  v20 := Tryz.zeroValue20
  t21 := Tryz.underlying21
  a21 := Tryz.isAgg21
  z21 := Tryz.sizeOf21
  v21 := Tryz.zeroValue21
  t37 := Tryz.underlying150
  a37 := Tryz.isAgg150
  z37 := Tryz.sizeOf150
  v37 := Tryz.zeroValue150
  t46 := Tryz.underlying163
  a46 := Tryz.isAgg163
  z46 := Tryz.sizeOf163
  v46 := Tryz.zeroValue163
  t51 := Tryz.underlying168
  a51 := Tryz.isAgg168
  z51 := Tryz.sizeOf168
  v51 := Tryz.zeroValue168
  t53 := Tryz.underlying121
  a53 := Tryz.isAgg121
  z53 := Tryz.sizeOf121
  v53 := Tryz.zeroValue121
  t75 := Tryz.underlying157
  a75 := Tryz.isAgg157
  z75 := Tryz.sizeOf157
  v75 := Tryz.zeroValue157
  t85 := Tryz.underlying158
  a85 := Tryz.isAgg158
  z85 := Tryz.sizeOf158
  v85 := Tryz.zeroValue158
  t127 := Tryz.underlying212
  a127 := Tryz.isAgg212
  z127 := Tryz.sizeOf212
  v127 := Tryz.zeroValue212
  t143 := Tryz.underlying213
  a143 := Tryz.isAgg213
  z143 := Tryz.sizeOf213
  v143 := Tryz.zeroValue213
  t145 := Tryz.underlying215
  a145 := Tryz.isAgg215
  z145 := Tryz.sizeOf215
  v145 := Tryz.zeroValue215
  t167 := Tryz.underlying184
  a167 := Tryz.isAgg184
  z167 := Tryz.sizeOf184
  v167 := Tryz.zeroValue184
  t168 := Tryz.underlying187
  a168 := Tryz.isAgg187
  z168 := Tryz.sizeOf187
  v168 := Tryz.zeroValue187
  t171 := Tryz.underlying147
  a171 := Tryz.isAgg147
  z171 := Tryz.sizeOf147
  v171 := Tryz.zeroValue147
  t173 := Tryz.underlying151
  a173 := Tryz.isAgg151
  z173 := Tryz.sizeOf151
  v173 := Tryz.zeroValue151
  t175 := Tryz.underlying185
  a175 := Tryz.isAgg185
  z175 := Tryz.sizeOf185
  v175 := Tryz.zeroValue185
  t210 := Tryz.underlying207
  a210 := Tryz.isAgg207
  z210 := Tryz.sizeOf207
  v210 := Tryz.zeroValue207
  t212 := Tryz.underlying167
  a212 := Tryz.isAgg167
  z212 := Tryz.sizeOf167
  v212 := Tryz.zeroValue167
  t213 := Tryz.underlying169
  a213 := Tryz.isAgg169
  z213 := Tryz.sizeOf169
  t232 := Tryz.underlying196
  a232 := Tryz.isAgg196
  z232 := Tryz.sizeOf196
  v232 := Tryz.zeroValue196
  t233 := Tryz.underlying197
  a233 := Tryz.isAgg197
  z233 := Tryz.sizeOf197
  v233 := Tryz.zeroValue197
  g15 := by kernel_rfl
  g16 := by kernel_rfl
  g17 := by kernel_rfl
  g18 := by kernel_rfl
  g19 := by kernel_rfl
  t80 := Tryz.underlying216
  a80 := Tryz.isAgg216
  z80 := Tryz.sizeOf216
  v80 := Tryz.zeroValue216
  i0 := by kernel_rfl
  i2 := by kernel_rfl
  i3 := by kernel_rfl
  i4 := by kernel_rfl
  i5 := by kernel_rfl
  i9 := by kernel_rfl
  i20 := by kernel_rfl
  i21 := by kernel_rfl
  i37 := by kernel_rfl
  i46 := by kernel_rfl
  i51 := by kernel_rfl
  i53 := by kernel_rfl
  i75 := by kernel_rfl
  i80 := by kernel_rfl
  i85 := by kernel_rfl
  i127 := by kernel_rfl
  i143 := by kernel_rfl
  i145 := by kernel_rfl
  i167 := by kernel_rfl
  i168 := by kernel_rfl
  i171 := by kernel_rfl
  i173 := by kernel_rfl
  i175 := by kernel_rfl
  i210 := by kernel_rfl
  i212 := by kernel_rfl
  i232 := by kernel_rfl
  i233 := by kernel_rfl
  m15 := by kernel_rfl
  m16 := by kernel_rfl
  m17 := by kernel_rfl
  m18 := by kernel_rfl
  m19 := by kernel_rfl
  c0 := by kernel_rfl
  c2 := by kernel_rfl
  c3 := by kernel_rfl
  c4 := by kernel_rfl
  c5 := by kernel_rfl
  c9 := by kernel_rfl
  c20 := by kernel_rfl
  c21 := by kernel_rfl
  c37 := by kernel_rfl
  c46 := by kernel_rfl
  c51 := by kernel_rfl
  c53 := by kernel_rfl
  c75 := by kernel_rfl
  c80 := by kernel_rfl
  c85 := by kernel_rfl
  c127 := by kernel_rfl
  c143 := by kernel_rfl
  c145 := by kernel_rfl
  c167 := by kernel_rfl
  c168 := by kernel_rfl
  c171 := by kernel_rfl
  c173 := by kernel_rfl
  c175 := by kernel_rfl
  c210 := by kernel_rfl
  c212 := by kernel_rfl
  c213 := by kernel_rfl
  c232 := by kernel_rfl
  c233 := by kernel_rfl }
open Go.RowKit in
/-- strconv.ParseInt(s, 10, 64), AT EVERY STRING THAT SPELLS AN int64 ('Lib.parseIntB 64 s.data.toList = .ok v'): v, AND NO ERROR. (LAID: no walk: one application.) -/
theorem Tryz.strconv_ParseInt_10_at64_ok (s : ByteArray) (hmax : s.size ≤ 9223372036854775806) (v : Int) (h : Lib.parseIntB 64 s.data.toList = .ok v) (w : World) :
    Calls Tryz.prog 108 #[.string s, .int .i64 10, .int .i64 64] w fun e w' => e = .returned (.tuple #[.int .i64 v, .nilIface]) ∧ (w' = w ∨ ∃ t, w' = Lib.bytesWorld w 5 t) := Any.strconv_ParseInt_10_at64_ok Tryz.laysC174 s hmax v h w
open Go.RowKit in
theorem Tryz.strconv_ParseInt_10_at64_syntax_var (s : ByteArray) (hlim : s.size ≤ 281474976710656) (h : Lib.parseIntB 64 s.data.toList = Lib.parseIntB 64 []) (tp : TypeId) (p : Value) (w : World) (hvar : w.var? Tryz.prog "strconv.ErrSyntax" = some #[.iface tp p]) :
    Calls Tryz.prog 108 #[.string s, .int .i64 10, .int .i64 64] w fun e w' => ∃ N, e = .returned (.tuple #[.int .i64 (0), .iface 187 (.pointer (some ⟨N, 0, none⟩))]) ∧ w.heap.size ≤ N ∧ w'.heap[N]? = some (.cells #[.string ⟨#[80, 97, 114, 115, 101, 73, 110, 116]⟩, .string s, .iface tp p] 207 (0, 0)) ∧ Below w.heap.size w w' := Any.strconv_ParseInt_10_at64_syntax_var Tryz.laysC174 s hlim h tp p w hvar
open Go.RowKit in
theorem Tryz.strconv_ParseInt_10_at64_range_var (s : ByteArray) (hlim : s.size ≤ 281474976710656) (h : Lib.parseIntB 64 s.data.toList = .range) (tp : TypeId) (p : Value) (w : World) (hvar : w.var? Tryz.prog "strconv.ErrRange" = some #[.iface tp p]) :
    Calls Tryz.prog 108 #[.string s, .int .i64 10, .int .i64 64] w fun e w' => ∃ N, e = .returned (.tuple #[.int .i64 (Lib.intSat 64 s.data.toList), .iface 187 (.pointer (some ⟨N, 0, none⟩))]) ∧ w.heap.size ≤ N ∧ w'.heap[N]? = some (.cells #[.string ⟨#[80, 97, 114, 115, 101, 73, 110, 116]⟩, .string s, .iface tp p] 207 (0, 0)) ∧ Below w.heap.size w w' := Any.strconv_ParseInt_10_at64_range_var Tryz.laysC174 s hlim h tp p w hvar
def Tryz.lays146_ren : Go.Shelf.Ren := ⟨fun | 146 => 42 | 221 => 73 | 268 => 105 | 138 => 106 | 143 => 107 | 195 => 119 | 197 => 120 | 218 => 121 | 219 => 122 | 260 => 137 | 217 => 138 | 225 => 139 | 224 => 140 | 267 => 141 | 266 => 153 | 314 => 154 | n => n, fun | 9 => 9 | 31 => 26 | 3 => 3 | 4 => 4 | 0 => 0 | 105 => 171 | 21 => 21 | 5 => 5 | 46 => 163 | 119 => 198 | 139 => 201 | 138 => 200 | 146 => 202 | 51 => 168 | n => n, fun | 1 => 1 | 3 => 4 | 4 => 5 | n => n⟩
theorem Tryz.lays146 : Go.Proofs.Lays.n146 Tryz.prog Tryz.lays146_ren := {
  mixed := by kernel_rfl
  f138 := Tryz.func106.trans (congrArg some (by kernel_rfl))
  f143 := Tryz.func107.trans (congrArg some (by kernel_rfl))
  f146 := Tryz.func42.trans (congrArg some (by kernel_rfl))
  f195 := Tryz.func119.trans (congrArg some (by kernel_rfl))
  f197 := Tryz.func120.trans (congrArg some (by kernel_rfl))
  f217 := Tryz.func138.trans (congrArg some (by kernel_rfl))
  f218 := Tryz.func121.trans (congrArg some (by kernel_rfl))
  f219 := Tryz.func122.trans (congrArg some (by kernel_rfl))
  f221 := Tryz.func73.trans (congrArg some (by kernel_rfl))
  f224 := Tryz.func140.trans (congrArg some (by kernel_rfl))
  f225 := Tryz.func139.trans (congrArg some (by kernel_rfl))
  f260 := Tryz.func137.trans (congrArg some (by kernel_rfl))
  f266 := Tryz.func153.trans (congrArg some (by kernel_rfl))
  f267 := Tryz.func141.trans (congrArg some (by kernel_rfl))
  f268 := Tryz.func105.trans (congrArg some (by kernel_rfl))
  f314 := Tryz.func154.trans (congrArg some (by kernel_rfl))
  t0 := Tryz.underlying0
  a0 := Tryz.isAgg0
  z0 := Tryz.sizeOf0
  v0 := Tryz.zeroValue0
  t3 := Tryz.underlying3
  a3 := Tryz.isAgg3
  z3 := Tryz.sizeOf3
  v3 := Tryz.zeroValue3
  t4 := Tryz.underlying4
  a4 := Tryz.isAgg4
  z4 := Tryz.sizeOf4
  v4 := Tryz.zeroValue4
  t5 := Tryz.underlying5
  a5 := Tryz.isAgg5
  z5 := Tryz.sizeOf5
  v5 := Tryz.zeroValue5
  t9 := Tryz.underlying9
  a9 := Tryz.isAgg9
  z9 := Tryz.sizeOf9
  v9 := Tryz.zeroValue9
  t21 := Tryz.underlying21
  a21 := Tryz.isAgg21
  z21 := Tryz.sizeOf21
  v21 := Tryz.zeroValue21
  t31 := Tryz.underlying26
  a31 := Tryz.isAgg26
  z31 := Tryz.sizeOf26
  v31 := Tryz.zeroValue26
  t46 := Tryz.underlying163
  a46 := Tryz.isAgg163
  z46 := Tryz.sizeOf163
  v46 := Tryz.zeroValue163
  t51 := Tryz.underlying168
  a51 := Tryz.isAgg168
  z51 := Tryz.sizeOf168
  v51 := Tryz.zeroValue168
  t105 := Tryz.underlying171
  a105 := Tryz.isAgg171
  z105 := Tryz.sizeOf171
  v105 := Tryz.zeroValue171
  t119 := Tryz.underlying198
  a119 := Tryz.isAgg198
  z119 := Tryz.sizeOf198
  t138 := Tryz.underlying200
  a138 := Tryz.isAgg200
  z138 := Tryz.sizeOf200
  v138 := Tryz.zeroValue200
  t139 := Tryz.underlying201
  a139 := Tryz.isAgg201
  z139 := Tryz.sizeOf201
  v139 := Tryz.zeroValue201
  t146 := Tryz.underlying202
  a146 := Tryz.isAgg202
  z146 := Tryz.sizeOf202
  v146 := Tryz.zeroValue202
  g1 := by kernel_rfl
  g3 := by kernel_rfl
  g4 := by kernel_rfl }
open Go.RowKit Go.Lib in
/-- strings.Split. (LAID: no walk: one application.) -/
theorem Tryz.strings_Split (s sep : ByteArray) (m : Int) (w : World) (hs : s.size < 4294967281) (hm : w.cell? ⟨1, 0, none⟩ = some (.int .i64 m)) (h1 : 1 ≤ sep.size) :
    Calls Tryz.prog 42 #[.string s, .string sep] w fun e w' =>
      e = .returned (.slice (some ⟨w.heap.size, 0, none⟩) (Lib.countB s sep + 1) (Lib.countB s sep + 1)) ∧ w' = w.alloc (.cells ((Lib.splitB sep 0 (Lib.countB s sep) s).map Value.string).toArray 9) := Any.strings_Split Tryz.lays146 (by kernel_rfl) s sep m w hs hm h1
end Go.Proofs

namespace Go.Proofs.YtgbgddmbooaddaaGreatDoor

theorem dig10 : ∀ i, i < 10 → (([48, 49, 50, 51, 52, 53, 54, 55, 56, 57] : List UInt8).drop i).take (i + 1 - i) = [UInt8.ofNat (48 + i)] := by decide
theorem decDigits_small {u : Nat} (h : u < 10) : Lib.decDigits u = [UInt8.ofNat (48 + u)] := by rw [Lib.decDigits, dif_pos h]
theorem decDigits_big {u : Nat} (h : ¬ u < 10) : Lib.decDigits u = Lib.decDigits (u / 10) ++ [UInt8.ofNat (48 + u % 10)] := by rw [Lib.decDigits, dif_neg h]
theorem decDigits_len : ∀ (m u : Nat), u < 10 ^ (m + 1) → (Lib.decDigits u).length ≤ m + 1
  | 0, u, h => by rw [decDigits_small (by simpa using h)]; simp
  | m + 1, u, h => by
    by_cases h10 : u < 10
    · rw [decDigits_small h10]; simp
    · rw [decDigits_big h10, List.length_append]
      have := decDigits_len m (u / 10) (by rw [Nat.div_lt_iff_lt_mul (by decide)]; rw [Nat.pow_succ] at h; exact h)
      simp
      omega
theorem itoa_len {x : Int} (h : -9223372036854775808 ≤ x ∧ x ≤ 9223372036854775807) : (Lib.itoa x).length ≤ 21 := by
  unfold Lib.itoa
  split
  · have := decDigits_len 19 x.natAbs (by omega)
    simp only [List.length_cons]
    omega
  · have := decDigits_len 19 x.toNat (by omega)
    omega

/-- The numbers of a set, each behind a blank. -/
def numsT (l : List Int) : List UInt8 := (l.map fun y => (32 : UInt8) :: Lib.itoa y).flatten
theorem numsT_snoc (l : List Int) (y : Int) : numsT (l ++ [y]) = numsT l ++ (32 :: Lib.itoa y) := by simp [numsT]
theorem numsT_len {l : List Int} (h : ∀ y ∈ l, -9223372036854775808 ≤ y ∧ y ≤ 9223372036854775807) : (numsT l).length ≤ 22 * l.length := by
  induction l with
  | nil => simp [numsT]
  | cons y l ih =>
    have h1 := itoa_len (h y (List.mem_cons_self ..))
    have h2 := ih fun z hz => h z (List.mem_cons_of_mem _ hz)
    simp only [numsT, List.map_cons, List.flatten_cons, List.length_append, List.length_cons] at h2 ⊢
    omega

def textE (x : Inv) (a b : List UInt8) : List UInt8 :=
  if x.kind = 1 then a ++ [32, 61, 61, 32] ++ Lib.itoa x.k
  else if x.kind = 2 then a ++ [32, 105, 110] ++ numsT x.set
  else if x.kind = 3 then a ++ [32, 62, 61, 32] ++ Lib.itoa x.k
  else if x.kind = 4 then a ++ [32, 60, 61, 32] ++ Lib.itoa x.k
  else if x.kind = 5 then a ++ [32, 33, 61, 32, 48]
  else if x.kind = 6 then a ++ [32, 37, 32] ++ Lib.itoa x.m ++ [32, 61, 61, 32] ++ Lib.itoa x.k
  else if x.kind = 7 then a ++ [32, 61, 61, 32] ++ b
  else if x.kind = 8 then a ++ [32, 33, 61, 32] ++ b
  else if x.kind = 9 then a ++ [32, 60, 32] ++ b
  else if x.kind = 10 then a ++ [32, 60, 61, 32] ++ b
  else b ++ [32, 61, 61, 32] ++ Lib.itoa x.k ++ [32, 42, 32] ++ a ++ [32, 43, 32] ++ Lib.itoa x.m

/-- Write. -/
def writeE (x : Inv) (names : List (List UInt8)) : List UInt8 × Int :=
  if namedE names ≠ 0 then ([], namedE names) else if chk x names.length ≠ 0 then ([], chk x names.length)
  else (textE x (names.getD x.a.toNat []) (names.getD x.b.toNat []), 0)
theorem writeE_named {x : Inv} {names : List (List UInt8)} (h : namedE names ≠ 0) : writeE x names = ([], namedE names) := by rw [writeE, if_pos h]
theorem writeE_chk {x : Inv} {names : List (List UInt8)} (h : namedE names = 0) (h2 : chk x names.length ≠ 0) : writeE x names = ([], chk x names.length) := by rw [writeE, if_neg (by simp [h]), if_pos h2]
theorem writeE_ok {x : Inv} {names : List (List UInt8)} (h : namedE names = 0) (h2 : chk x names.length = 0) : writeE x names = (textE x (names.getD x.a.toNat []) (names.getD x.b.toNat []), 0) := by
  rw [writeE, if_neg (by simp [h]), if_neg (by simp [h2])]
theorem small_wide {n : Int} (h : smallB n = true) : -9223372036854775808 ≤ n ∧ n ≤ 9223372036854775807 := by have := small_le h; omega
end Go.Proofs.YtgbgddmbooaddaaGreatDoor

namespace Go.Proofs.YtgbgddmbooaddaaGreatDoor

/-- number, as package learn has it. -/
def numL (s : List UInt8) : Int × Bool :=
  match Lib.parseIntB 64 s with
  | .ok v => (v, decide (Lib.itoa v = s))
  | .range => (Lib.intSat 64 s, false)
  | _ => (0, false)
/-- What no digits come to. -/
abbrev synI : Lib.NumEnd Int := Lib.parseIntB 64 []

/-- number, as the specification has it. -/
def digsR : List UInt8 → Int → Option Int
  | [], n => some n
  | c :: r, n => if (decide ((c.toNat : Int) < 48) || decide ((57 : Int) < c.toNat)) || decide (2147483647 < n) then none else digsR r (10 * n + ((c.toNat : Int) - 48))
def negB (s : List UInt8) : Bool := decide ((0 : Int) < s.length) && decide (((s.getD 0 0).toNat : Int) = 45)
def numR (s : List UInt8) : Int × Bool :=
  match digsR (s.drop (if negB s then 1 else 0)) 0 with
  | none => (0, false)
  | some n => ((if negB s then -n else n), decide ((if negB s then 1 else 0 : Int) < s.length) && smallB (if negB s then -n else n))

theorem ofNat_dig {d : Nat} (h : d < 10) : (UInt8.ofNat (48 + d)).toNat = 48 + d := by
  rw [UInt8.toNat_ofNat']
  omega
theorem decDigits_ne (u : Nat) : Lib.decDigits u ≠ [] := by
  by_cases h : u < 10
  · rw [decDigits_small h]; simp
  · rw [decDigits_big h]; simp
theorem decDigits_dig (u : Nat) : ∀ c ∈ Lib.decDigits u, 48 ≤ c.toNat ∧ c.toNat ≤ 57 := by
  induction u using Nat.strongRecOn with
  | _ u ih =>
    intro c hc
    by_cases h : u < 10
    · rw [decDigits_small h] at hc
      simp only [List.mem_singleton] at hc
      rw [hc, ofNat_dig h]
      omega
    · rw [decDigits_big h] at hc
      rcases List.mem_append.1 hc with hc | hc
      · exact ih (u / 10) (by omega) c hc
      · simp only [List.mem_singleton] at hc
        rw [hc, ofNat_dig (Nat.mod_lt _ (by decide))]
        omega
theorem parseM_append (M : Nat) : ∀ (l r : List UInt8) (a : Nat), Lib.parseUintM M a (l ++ r) = match Lib.parseUintM M a l with | .ok u => Lib.parseUintM M u r | e => e
  | [], r, a => rfl
  | c :: l, r, a => by
    simp only [List.cons_append, Lib.parseUintM]
    split
    · split
      · rfl
      · split
        · rfl
        · exact parseM_append M l r _
    · rfl
theorem parseM_dec (M : Nat) (hM : M ≤ 18446744073709551615) : ∀ u, u ≤ M → Lib.parseUintM M 0 (Lib.decDigits u) = .ok u := by
  intro u
  induction u using Nat.strongRecOn with
  | _ u ih =>
    intro hu
    by_cases h : u < 10
    · rw [decDigits_small h]
      simp only [Lib.parseUintM, ofNat_dig h]
      rw [if_pos (by omega), if_neg (by omega), if_neg (by omega)]
      congr 1
      omega
    · have hd := Nat.mod_lt u (show 0 < 10 by decide)
      rw [decDigits_big h, parseM_append, ih (u / 10) (by omega) (by omega)]
      simp only [Lib.parseUintM, ofNat_dig hd]
      rw [if_pos (by omega), if_neg (by omega), if_neg (by omega)]
      congr 1
      omega
theorem digsR_append : ∀ (l r : List UInt8) (a : Int), digsR (l ++ r) a = (digsR l a).bind (digsR r)
  | [], r, a => rfl
  | c :: l, r, a => by
    simp only [List.cons_append, digsR]
    split
    · rfl
    · exact digsR_append l r _
theorem digsR_dec : ∀ u : Nat, u ≤ 2147483647 → digsR (Lib.decDigits u) 0 = some (u : Int) := by
  intro u
  induction u using Nat.strongRecOn with
  | _ u ih =>
    intro hu
    by_cases h : u < 10
    · rw [decDigits_small h]
      simp only [digsR, ofNat_dig h]
      rw [if_neg (by simp; omega)]
      congr 1
      omega
    · have hd := Nat.mod_lt u (show 0 < 10 by decide)
      rw [decDigits_big h, digsR_append, ih (u / 10) (by omega) (by omega)]
      simp only [Option.bind_some, digsR, ofNat_dig hd]
      rw [if_neg (by simp; omega)]
      congr 1
      omega
theorem itoa_cases (n : Int) : (n < 0 ∧ Lib.itoa n = 45 :: Lib.decDigits n.natAbs) ∨ (0 ≤ n ∧ Lib.itoa n = Lib.decDigits n.toNat) := by
  unfold Lib.itoa
  by_cases h : n < 0
  · exact .inl ⟨h, if_pos h⟩
  · exact .inr ⟨by omega, if_neg h⟩
theorem numL_itoa {n : Int} (h : smallB n = true) : numL (Lib.itoa n) = (n, true) := by
  have hs := small_le h
  have hp : Lib.parseIntB 64 (Lib.itoa n) = .ok n := by
    rcases itoa_cases n with ⟨h0, h1⟩ | ⟨h0, h1⟩
    · rw [h1]
      unfold Lib.parseIntB
      have e1 : (45 : UInt8).toNat = 45 := rfl
      simp only [e1, or_true, if_true, Lib.parseUintB, if_neg (decDigits_ne _), parseM_dec (2 ^ 64 - 1) (by decide) n.natAbs (by simp only [Nat.reducePow, Nat.reduceSub]; omega)]
      simp only [not_true_eq_false, false_and, if_false, true_and]
      rw [if_neg (by simp only [Nat.reducePow, Nat.reduceSub]; omega), ← show n = -(n.natAbs : Int) by omega]
    · rw [h1]
      have hd := decDigits_dig n.toNat
      have hp := parseM_dec (2 ^ 64 - 1) (by decide) n.toNat (by simp only [Nat.reducePow, Nat.reduceSub]; omega)
      have hne := decDigits_ne n.toNat
      cases hl : Lib.decDigits n.toNat with
      | nil => exact absurd hl hne
      | cons c r =>
        rw [hl] at hd hp hne
        have hc := hd c (List.mem_cons_self ..)
        unfold Lib.parseIntB
        have e1 : ¬ c.toNat = 43 := by omega
        have e2 : ¬ c.toNat = 45 := by omega
        simp only [e1, e2, or_false, if_false, Lib.parseUintB, if_neg hne, hp, not_false_eq_true, true_and, false_and]
        rw [if_neg (by simp only [Nat.reducePow, Nat.reduceSub]; omega), show ((n.toNat : Nat) : Int) = n by omega]
  rw [numL, hp]
  simp
theorem numR_itoa {n : Int} (h : smallB n = true) : numR (Lib.itoa n) = (n, true) := by
  have hs := small_le h
  rcases itoa_cases n with ⟨h0, h1⟩ | ⟨h0, h1⟩
  · have hneg : negB (Lib.itoa n) = true := by
      rw [h1]
      simp only [negB, List.length_cons, List.getD_cons_zero, Bool.and_eq_true, decide_eq_true_eq]
      exact ⟨by omega, rfl⟩
    have hne := decDigits_ne n.natAbs
    rw [numR, hneg, h1]
    simp only [if_true, List.drop_succ_cons, List.drop_zero, digsR_dec n.natAbs (by omega)]
    have hl : (1 : Int) < ((45 : UInt8) :: Lib.decDigits n.natAbs).length := by
      have := List.length_pos_iff.2 hne
      simp only [List.length_cons]
      omega
    rw [show -((n.natAbs : Nat) : Int) = n by omega, h, Bool.and_true, decide_eq_true hl]
  · have hd := decDigits_dig n.toNat
    have hne := decDigits_ne n.toNat
    have hneg : negB (Lib.itoa n) = false := by
      rw [h1]
      cases hl : Lib.decDigits n.toNat with
      | nil => exact absurd hl hne
      | cons c r =>
        rw [hl] at hd
        have hc := hd c (List.mem_cons_self ..)
        simp only [negB, List.getD_cons_zero, Bool.and_eq_false_iff, decide_eq_false_iff_not]
        exact .inr (by omega)
    have hl : (0 : Int) < (Lib.decDigits n.toNat).length := by
      have := List.length_pos_iff.2 hne
      omega
    rw [numR, hneg, h1]
    simp only [Bool.false_eq_true, if_false, List.drop_zero, digsR_dec n.toNat (by omega)]
    rw [show ((n.toNat : Nat) : Int) = n by omega, h, Bool.and_true, decide_eq_true hl]
theorem digsR_wide : ∀ (l : List UInt8) (a n : Int), 0 ≤ a → a ≤ 21474836479 → digsR l a = some n → 0 ≤ n ∧ n ≤ 21474836479
  | [], a, n, h0, h1, h => by simp only [digsR, Option.some.injEq] at h; omega
  | c :: l, a, n, h0, h1, h => by
    simp only [digsR] at h
    split at h
    · cases h
    · rename_i hc
      simp only [Bool.or_eq_true, decide_eq_true_eq, not_or] at hc
      exact digsR_wide l _ n (by omega) (by omega) h
theorem parse_wide {s : List UInt8} {v : Int} (h : Lib.parseIntB 64 s = .ok v) : -9223372036854775808 ≤ v ∧ v ≤ 9223372036854775807 := by
  cases s with
  | nil => simp [Lib.parseIntB] at h
  | cons c r =>
    simp only [Lib.parseIntB] at h
    cases hu : Lib.parseUintB 64 (if c.toNat = 43 ∨ c.toNat = 45 then r else c :: r) with
    | range => rw [hu] at h; cases h
    | ok u =>
      rw [hu] at h
      by_cases hn : c.toNat = 45
      · by_cases h2 : 2 ^ (64 - 1) < u
        · simp [hn, h2] at h
        · simp only [hn, not_true_eq_false, false_and, if_false, true_and, h2, if_true, Lib.NumEnd.ok.injEq] at h
          simp only [Nat.reduceSub, Nat.reducePow] at h2
          omega
      · by_cases h2 : 2 ^ (64 - 1) ≤ u
        · simp [hn, h2] at h
        · simp only [hn, not_false_eq_true, true_and, h2, if_false, false_and, Lib.NumEnd.ok.injEq] at h
          simp only [Nat.reduceSub, Nat.reducePow] at h2
          omega
    | _ => rw [hu] at h; cases h
theorem numL_ok {s : List UInt8} {v : Int} (h : Lib.parseIntB 64 s = .ok v) : numL s = (v, decide (Lib.itoa v = s)) := by rw [numL, h]
theorem numL_syn {s : List UInt8} (h : Lib.parseIntB 64 s = synI) : numL s = (0, false) := by rw [numL, h]; rfl
theorem numL_ran {s : List UInt8} (h : Lib.parseIntB 64 s = .range) : numL s = (Lib.intSat 64 s, false) := by rw [numL, h]
end Go.Proofs.YtgbgddmbooaddaaGreatDoor

namespace Go.Proofs.YtgbgddmbooaddaaGreatDoor
open Go.RowKit Go.Sort

section
variable {P : Program} {n : Nat} {e : Env} {C : World → Prop} {d : Option Tmp} {t : TypeId} {p : String} {af : Array Edge} {g : Option (Nat × Bool)}
variable {k : IntKind} {a b : Int} {x y : Operand} {tx ty : TypeId}
theorem yl_addK (c : Int) (hx : eev e x = some (.int k a)) (hy : eev e y = some (.int k b)) (hc : k.wrap (a + b) = c) : Yl P C n e ⟨d, .binOp .add tx x y ty, t, p, af, g⟩ (.int k c) :=
  Yl.val fun ac w hf _ => by simp [execOp, hf.ev hx, hf.ev hy, eqGuard, binOp, Op.intArith, hc]
theorem yl_subK (c : Int) (hx : eev e x = some (.int k a)) (hy : eev e y = some (.int k b)) (hc : k.wrap (a - b) = c) : Yl P C n e ⟨d, .binOp .sub tx x y ty, t, p, af, g⟩ (.int k c) :=
  Yl.val fun ac w hf _ => by simp [execOp, hf.ev hx, hf.ev hy, eqGuard, binOp, Op.intArith, hc]
theorem yl_remK (c : Int) (hx : eev e x = some (.int k a)) (hy : eev e y = some (.int k b)) (hb : b ≠ 0) (hc : a.tmod b = c) : Yl P C n e ⟨d, .binOp .rem tx x y ty, t, p, af, g⟩ (.int k c) :=
  Yl.val fun ac w hf _ => by simp [execOp, hf.ev hx, hf.ev hy, eqGuard, binOp, Op.intDiv, hb, hc]
theorem yl_quoK (c : Int) (hx : eev e x = some (.int k a)) (hy : eev e y = some (.int k b)) (hb : b ≠ 0) (hc : k.wrap (a.tdiv b) = c) : Yl P C n e ⟨d, .binOp .quo tx x y ty, t, p, af, g⟩ (.int k c) :=
  Yl.val fun ac w hf _ => by simp [execOp, hf.ev hx, hf.ev hy, eqGuard, binOp, Op.intDiv, hb, hc]
/-- A number's kind changes. -/
theorem yl_convert {src dst : TypeId} {k2 : IntKind} (c : Int) {ds : TypeDesc} (h1 : P.underlying src = some ds) (h2 : P.underlying dst = some (.int k2)) (hx : eev e x = some (.int k a)) (hc : k2.wrap a = c) : Yl P C n e ⟨d, .convert src dst x, t, p, af, g⟩ (.int k2 c) :=
  Yl.val fun ac w hf _ => by simp [execOp, hf.ev hx, convert, run_underlying h1, run_underlying h2, Conv.intToInt, hc]
end

theorem ext_grow (w : World) (k : Nat) (os : Array Obj) : Ext w (grow (w.drewN k) os) :=
  ⟨rfl, rfl, rfl, by simp [grow], fun j hj => by
    show (w.heap ++ os)[j]? = _
    rw [Array.getElem?_append_left hj]⟩
theorem var_ext {w w' : World} (h : Ext w w') {nm : String} {cs : Array Value} (hv : w.var? Tryz.prog nm = some cs) : w'.var? Tryz.prog nm = some cs := by
  unfold World.var? at hv ⊢
  obtain ⟨g, hg, h2⟩ := Option.bind_eq_some_iff.1 hv
  rw [hg]
  simp only [Option.bind_some]
  cases hb : w.heap[g]? with
  | none => rw [hb] at h2; cases h2
  | some o => rw [blk_ext h hb]; rw [hb] at h2; exact h2

/-- What the library's variables hold. -/
structure Vars (w : World) : Prop where
  tab : Lib.TabIs Tryz.prog w "internal/strconv.uint64pow10" .u64 Lib.pow10Tab
  syn : ∃ tp p, w.var? Tryz.prog "strconv.ErrSyntax" = some #[.iface tp p]
  ran : ∃ tp p, w.var? Tryz.prog "strconv.ErrRange" = some #[.iface tp p]
  max : ∃ m, w.cell? ⟨1, 0, none⟩ = some (.int .i64 m)
theorem Vars.ext {w w' : World} (h : Vars w) (k : Ext w w') : Vars w' where
  tab := var_ext k h.tab
  syn := let ⟨tp, p, hv⟩ := h.syn; ⟨tp, p, var_ext k hv⟩
  ran := let ⟨tp, p, hv⟩ := h.ran; ⟨tp, p, var_ext k hv⟩
  max := let ⟨m, hm⟩ := h.max; ⟨m, cell_ext k hm⟩

theorem Hp.ofExt {w w' : World} (h : Ext w w') : Hp w [] [] [] w' := (Hp.init w).step h
/-- strconv.ParseInt(s, 10, 64): the number, and whether there was an error. -/
theorem parseInt_any (s : List UInt8) (w0 : World) (hs : s.length ≤ 1000) (hw : Vars w0) : Calls Tryz.prog 108 #[strV s, .int .i64 10, .int .i64 64] w0 fun e w' =>
    ∃ z : Bool × Nat, e = .returned (.tuple #[.int .i64 (numL s).1, if z.1 = true then .nilIface else .iface 187 (.pointer (some ⟨z.2, 0, none⟩))]) ∧ (z.1 = true → Lib.parseIntB 64 s = .ok (numL s).1) ∧ (z.1 = false → (numL s).2 = false) ∧ Ext w0 w' := by
  have hl : (⟨s.toArray⟩ : ByteArray).data.toList = s := by simp
  have hsz : (⟨s.toArray⟩ : ByteArray).size = s.length := rfl
  cases hp : Lib.parseIntB 64 s with
  | ok v =>
    refine (Tryz.strconv_ParseInt_10_at64_ok ⟨s.toArray⟩ (by rw [hsz]; omega) v (by rw [hl]; exact hp) w0).mono fun e w' h => ?_
    refine ⟨(true, 0), ?_, fun _ => by rw [numL_ok hp], (fun h => Bool.noConfusion h), ?_⟩
    · rw [numL_ok hp]; exact h.1
    · rcases h.2 with rfl | ⟨t, rfl⟩
      · exact Ext.refl _
      · exact Joins.below_bytesWorld _ _ _ _ (Nat.le_refl _)
  | range =>
    obtain ⟨tp, p, hv⟩ := hw.ran
    refine (Tryz.strconv_ParseInt_10_at64_range_var ⟨s.toArray⟩ (by rw [hsz]; omega) (by rw [hl]; exact hp) tp p w0 hv).mono fun e w' h => ?_
    obtain ⟨N, h1, _, _, h2⟩ := h
    refine ⟨(false, N), ?_, (fun h => Bool.noConfusion h), fun _ => by rw [numL_ran hp], h2⟩
    rw [numL_ran hp]
    have := h1
    rw [hl] at this
    exact this
  | _ =>
    obtain ⟨tp, p, hv⟩ := hw.syn
    refine (Tryz.strconv_ParseInt_10_at64_syntax_var ⟨s.toArray⟩ (by rw [hsz]; omega) (by rw [hl]; exact hp) tp p w0 hv).mono fun e w' h => ?_
    obtain ⟨N, h1, _, _, h2⟩ := h
    exact ⟨(false, N), by rw [numL_syn hp]; exact h1, (fun h => Bool.noConfusion h), fun _ => by rw [numL_syn hp], h2⟩
theorem formatInt_any (x : Int) (w0 : World) (hx : -9223372036854775808 ≤ x ∧ x ≤ 9223372036854775807) (hw : Vars w0) : Calls Tryz.prog 38 #[.int .i64 x, .int .i64 10] w0 fun e w' => e = .returned (strV (Lib.itoa x)) ∧ Ext w0 w' :=
  (Tryz.strconv_FormatInt_10 x hx.1 hx.2 w0 hw.tab).mono fun e w' h => by
    obtain ⟨h1, k, os, rfl⟩ := h
    exact ⟨h1, ext_grow _ _ _⟩
end Go.Proofs.YtgbgddmbooaddaaGreatDoor

namespace Go.Proofs.YtgbgddmbooaddaaGreatDoor
open Go.RowKit

set_option maxRecDepth 100000 in
theorem big_step (n : Nat) (w0 : World) (hn : n ≤ 18446744073709551615) (ih : ¬ n < 10 → ∀ w, Calls Tryz.prog 72 #[.int .u64 ((n / 10 : Nat) : Int)] w fun e w' => e = .returned (strV (Lib.decDigits (n / 10))) ∧ Ext w w') : Calls Tryz.prog 72 #[.int .u64 (n : Int)] w0 fun e w' => e = .returned (strV (Lib.decDigits n)) ∧ Ext w0 w' := by
  have hlen : ∀ u, u ≤ 18446744073709551615 → (Lib.decDigits u).length ≤ 20 := fun u hu => decDigits_len 19 u (by omega)
  have h1 := hlen (n / 10) (by omega)
  refine enterA 18 Tryz.func72 rfl Tryz.ntmps72 rfl (Hp w0 [] [] []) (Hp.init _) ?_
  refine H.seq ?_
  refine H.region ?_
  refine H.q (yl_assign rfl) rfl rfl (by decide) ?_
  refine HN.done ?_
  refine HN.keep [(0, _)] ⟨rfl, trivial⟩ ?_
  refine HN.then ?_
  refine H.seq ?_
  refine H.region ?_
  refine H.q (yl_move rfl) rfl rfl (by decide) ?_
  refine H.q (yl_remK ((n % 10 : Nat) : Int) rfl rfl (by decide) rfl) rfl rfl (by decide) ?_
  refine H.q (yl_move rfl) rfl rfl (by decide) ?_
  refine H.q (yl_remK ((n % 10 : Nat) : Int) rfl rfl (by decide) rfl) rfl rfl (by decide) ?_
  refine H.q (yl_addK ((n % 10 + 1 : Nat) : Int) rfl rfl (IntWalk.u64_in _ (by omega))) rfl rfl (by decide) ?_
  refine H.q (yl_to (yl_sslice (l := [48, 49, 50, 51, 52, 53, 54, 55, 56, 57]) (n % 10) (n % 10 + 1) Tryz.underlying9 rfl rfl rfl rfl rfl (by omega) (by simp only [List.length_cons, List.length_nil]; omega)) (congrArg strV (dig10 (n % 10) (by omega)))) rfl rfl (by decide) ?_
  refine H.q (yl_assign rfl) rfl rfl (by decide) ?_
  refine HN.done ?_
  refine HN.keep [(0, _), (3, _)] ⟨rfl, rfl, trivial⟩ ?_
  refine HN.then ?_
  refine H.seq ?_
  refine H.seq ?_
  refine H.region ?_
  refine H.q (yl_move rfl) rfl rfl (by decide) ?_
  refine H.q (yl_lss rfl rfl) rfl rfl (by decide) ?_
  refine HN.done ?_
  refine HN.keep [(0, _), (3, _), (11, _)] ⟨rfl, rfl, rfl, trivial⟩ ?_
  refine HN.then ?_
  refine H.cond _ rfl (fun t0 => ?_) (fun t0 => ?_)
  · simp only [decide_eq_true_eq] at t0
    refine H.keep [(3, _)] ⟨rfl, trivial⟩ ?_
    refine H.seq ?_
    refine H.region ?_
    refine H.q (yl_move rfl) rfl rfl (by decide) ?_
    refine H.q (yl_assign rfl) rfl rfl (by decide) ?_
    refine HN.done ?_
    refine HN.keep [(2, _)] ⟨rfl, trivial⟩ ?_
    refine HN.then ?_
    refine HR.ret ?_
    refine HR.then ?_
    refine HR.ret1 _ Tryz.results72 rfl (fun w hw => ?_)
    exact ⟨by rw [decDigits_small (by omega), Nat.mod_eq_of_lt (by omega)], hw.ext⟩
  · simp only [decide_eq_false_iff_not] at t0
    refine H.keep [(0, _), (3, _)] ⟨rfl, rfl, trivial⟩ ?_
    refine HN.skip ?_
    refine HN.then ?_
    refine H.seq ?_
    refine H.region ?_
    refine H.q (yl_move rfl) rfl rfl (by decide) ?_
    refine H.q (yl_quoK ((n / 10 : Nat) : Int) rfl rfl (by decide) (by rw [IntWalk.u64_in _ (by have : ((n : Int).tdiv 10) = ((n / 10 : Nat) : Int) := rfl; omega)]; rfl)) rfl rfl (by decide) ?_
    refine H.q (yl_call (xs := [.tmp 14]) Tryz.call72 (stab_hp _ _ _ _) rfl (fun w hw => ih (by omega) w)) rfl rfl (by decide) ?_
    refine H.q (yl_move rfl) rfl rfl (by decide) ?_
    refine H.q (yl_catL rfl rfl (by simp only [List.length_append, List.length_cons, List.length_nil]; omega)) rfl rfl (by decide) ?_
    refine H.q (yl_assign rfl) rfl rfl (by decide) ?_
    refine HN.done ?_
    refine HN.keep [(2, _)] ⟨rfl, trivial⟩ ?_
    refine HN.then ?_
    refine HR.ret ?_
    refine HR.ret1 _ Tryz.results72 rfl (fun w hw => ?_)
    exact ⟨by rw [decDigits_big (u := n) (by omega)], hw.ext⟩


theorem big_any : ∀ (n : Nat) (w0 : World), n ≤ 18446744073709551615 → Calls Tryz.prog 72 #[.int .u64 (n : Int)] w0 fun e w' => e = .returned (strV (Lib.decDigits n)) ∧ Ext w0 w' := by
  intro n
  induction n using Nat.strongRecOn with
  | _ n ih => exact fun w0 hn => big_step n w0 hn fun h w => ih (n / 10) (by omega) w (by omega)

set_option maxRecDepth 100000 in
theorem decimal_any (x : Int) (w0 : World) (hx : smallB x = true) : Calls Tryz.prog 41 #[.int .i64 x] w0 fun e w' => e = .returned (strV (Lib.itoa x)) ∧ Ext w0 w' := by
  have hs := small_le hx
  have h1 : (Lib.decDigits x.natAbs).length ≤ 20 := decDigits_len 19 _ (by omega)
  refine enterA 15 Tryz.func41 rfl Tryz.ntmps41 rfl (Hp w0 [] [] []) (Hp.init _) ?_
  refine H.seq ?_
  refine H.region ?_
  refine H.q (yl_assign rfl) rfl rfl (by decide) ?_
  refine HN.done ?_
  refine HN.keep [(0, _)] ⟨rfl, trivial⟩ ?_
  refine HN.then ?_
  refine H.seq ?_
  refine H.seq ?_
  refine H.region ?_
  refine H.q (yl_move rfl) rfl rfl (by decide) ?_
  refine H.q (yl_lss rfl rfl) rfl rfl (by decide) ?_
  refine HN.done ?_
  refine HN.keep [(0, _), (4, _)] ⟨rfl, rfl, trivial⟩ ?_
  refine HN.then ?_
  refine H.cond _ rfl (fun t0 => ?_) (fun t0 => ?_)
  · simp only [decide_eq_true_eq] at t0
    refine H.keep [(0, _)] ⟨rfl, trivial⟩ ?_
    refine H.seq ?_
    refine H.region ?_
    refine H.q (yl_move rfl) rfl rfl (by decide) ?_
    refine H.q (yl_add rfl rfl _ rfl (by omega)) rfl rfl (by decide) ?_
    refine H.q (yl_neg rfl (by omega)) rfl rfl (by decide) ?_
    refine H.q (yl_convert (-(x + 1)) Tryz.underlying2 Tryz.underlying121 rfl (IntWalk.u64_in _ (by omega))) rfl rfl (by decide) ?_
    refine H.q (yl_addK ((x.natAbs : Nat) : Int) rfl rfl ((IntWalk.u64_in _ (by omega)).trans (by omega))) rfl rfl (by decide) ?_
    refine H.q (yl_call (xs := [.tmp 9]) Tryz.call72 (stab_hp _ _ _ _) rfl (fun w hw => big_any x.natAbs w (by omega))) rfl rfl (by decide) ?_
    refine H.q (yl_catL (l1 := [45]) rfl rfl (by simp only [List.length_cons, List.length_nil]; omega)) rfl rfl (by decide) ?_
    refine H.q (yl_assign rfl) rfl rfl (by decide) ?_
    refine HN.done ?_
    refine HN.keep [(2, _)] ⟨rfl, trivial⟩ ?_
    refine HN.then ?_
    refine HR.ret ?_
    refine HR.then ?_
    refine HR.ret1 _ Tryz.results41 rfl (fun w hw => ?_)
    exact ⟨by rw [Lib.itoa, if_pos t0]; rfl, hw.ext⟩
  · simp only [decide_eq_false_iff_not] at t0
    refine H.keep [(0, _)] ⟨rfl, trivial⟩ ?_
    refine HN.skip ?_
    refine HN.then ?_
    refine H.seq ?_
    refine H.region ?_
    refine H.q (yl_move rfl) rfl rfl (by decide) ?_
    refine H.q (yl_convert ((x.toNat : Nat) : Int) Tryz.underlying2 Tryz.underlying121 rfl ((IntWalk.u64_in _ (by omega)).trans (by omega))) rfl rfl (by decide) ?_
    refine H.q (yl_call (xs := [.tmp 13]) Tryz.call72 (stab_hp _ _ _ _) rfl (fun w hw => big_any x.toNat w (by omega))) rfl rfl (by decide) ?_
    refine H.q (yl_assign rfl) rfl rfl (by decide) ?_
    refine HN.done ?_
    refine HN.keep [(2, _)] ⟨rfl, trivial⟩ ?_
    refine HN.then ?_
    refine HR.ret ?_
    refine HR.ret1 _ Tryz.results41 rfl (fun w hw => ?_)
    exact ⟨by rw [Lib.itoa, if_neg t0], hw.ext⟩

set_option maxRecDepth 100000 in
theorem write1_any (x : Int) (w0 : World) (hx : smallB x = true) (hv : Vars w0) : Calls Tryz.prog 37 #[.int .i64 x] w0 fun e w' => e = .returned (strV (Lib.itoa x)) ∧ Ext w0 w' := by
  refine enterA 5 Tryz.func37 rfl Tryz.ntmps37 rfl (Hp w0 [] [] []) (Hp.init _) ?_
  refine H.seq ?_
  refine H.region ?_
  refine H.q (yl_assign rfl) rfl rfl (by decide) ?_
  refine HN.done ?_
  refine HN.keep [(0, _)] ⟨rfl, trivial⟩ ?_
  refine HN.then ?_
  refine H.seq ?_
  refine H.region ?_
  refine H.q (yl_move rfl) rfl rfl (by decide) ?_
  refine H.q (yl_call (xs := [.tmp 3, .const (.int .i64 10)]) Tryz.call38 (stab_hp _ _ _ _) rfl (fun w hw => formatInt_any x w (small_wide hx) (hv.ext hw.ext))) rfl rfl (by decide) ?_
  refine H.q (yl_assign rfl) rfl rfl (by decide) ?_
  refine HN.done ?_
  refine HN.keep [(2, _)] ⟨rfl, trivial⟩ ?_
  refine HN.then ?_
  refine HR.ret ?_
  refine HR.ret1 _ Tryz.results37 rfl (fun w hw => ?_)
  exact ⟨rfl, hw.ext⟩


theorem claimT_71 {k : Int} (h : claimT k = 71) : k = 1 := by unfold claimT at h; repeat (first | omega | split at h)
theorem claimT_73 {k : Int} (h : claimT k = 73) : k = 2 := by unfold claimT at h; repeat (first | omega | split at h)
theorem claimT_74 {k : Int} (h : claimT k = 74) : k = 3 := by unfold claimT at h; repeat (first | omega | split at h)
theorem claimT_75 {k : Int} (h : claimT k = 75) : k = 4 := by unfold claimT at h; repeat (first | omega | split at h)
theorem claimT_77 {k : Int} (h : claimT k = 77) : k = 5 := by unfold claimT at h; repeat (first | omega | split at h)
theorem claimT_79 {k : Int} (h : claimT k = 79) : k = 6 := by unfold claimT at h; repeat (first | omega | split at h)
theorem claimT_80 {k : Int} (h : claimT k = 80) : k = 7 := by unfold claimT at h; repeat (first | omega | split at h)
theorem claimT_81 {k : Int} (h : claimT k = 81) : k = 8 := by unfold claimT at h; repeat (first | omega | split at h)
theorem claimT_82 {k : Int} (h : claimT k = 82) : k = 9 := by unfold claimT at h; repeat (first | omega | split at h)
theorem claimT_83 {k : Int} (h : claimT k = 83) : k = 10 := by unfold claimT at h; repeat (first | omega | split at h)

set_option maxRecDepth 100000 in
theorem refWrite_any (x : Inv) (sv : Value) (names : List (List UInt8)) (nv : Value) (w0 : World) (hl : x.set.length ≤ 1000) (hv : IsInts w0 sv x.set) (hnl : names.length ≤ 1000) (hns : ∀ s ∈ names, s.length ≤ 1000) (hnv : IsStrs w0 nv names) : Calls Tryz.prog 13 #[(.agg [.int .u8 x.kind, .int .i64 x.a, .int .i64 x.b, .int .i64 x.k, .int .i64 x.m, sv].toArray), nv] w0 fun e w' => e = .returned (.tuple #[strV (writeE x names).1, .int .i64 (writeE x names).2]) ∧ Ext w0 w' := by
  obtain ⟨ad, cap, b, o, rfl, hcap, hs⟩ := ints_open hv
  obtain ⟨ad1, cap1, b1, o1, rfl, hcap1, hs1⟩ := sl_open strV hnv
  refine enterA 129 Tryz.func13 rfl Tryz.ntmps13 rfl (Hp w0 [] [] []) (Hp.init _) ?_
  refine H.seq ?_
  refine H.region ?_
  refine H.boxA rfl (by decide) (fun b2 hb2 => ?_)
  refine H.q (yl_assign rfl) rfl rfl (by decide) ?_
  refine H.q (yl_assign rfl) rfl rfl (by decide) ?_
  refine HN.done ?_
  refine HN.keep [(1, _), (2, _)] ⟨rfl, rfl, trivial⟩ ?_
  refine HN.then ?_
  refine H.seq ?_
  refine H.region ?_
  refine H.q (yl_move rfl) rfl rfl (by decide) ?_
  refine H.q (yl_call (xs := [.tmp 13]) Tryz.call40 (stab_hp _ _ _ _) rfl (fun w hw => refNamed_any names (.slice ad1 names.length cap1) w (by omega) hns (hnv.ext hw.ext))) rfl rfl (by decide) ?_
  refine H.q (yl_assign rfl) rfl rfl (by decide) ?_
  refine HN.done ?_
  refine HN.keep [(1, _), (2, _), (6, _)] ⟨rfl, rfl, rfl, trivial⟩ ?_
  refine HN.then ?_
  refine H.seq ?_
  refine H.seq ?_
  refine H.region ?_
  refine H.q (yl_move rfl) rfl rfl (by decide) ?_
  refine H.q (yl_neq rfl rfl) rfl rfl (by decide) ?_
  refine HN.done ?_
  refine HN.keep [(1, _), (2, _), (6, _), (16, _)] ⟨rfl, rfl, rfl, rfl, trivial⟩ ?_
  refine HN.then ?_
  refine H.cond _ rfl (fun t0 => ?_) (fun t0 => ?_)
  · simp only [ne_eq, decide_not, Bool.not_eq_true', decide_eq_false_iff_not] at t0
    refine H.keep [(6, _)] ⟨rfl, trivial⟩ ?_
    refine H.seq ?_
    refine H.region ?_
    refine H.q (yl_move rfl) rfl rfl (by decide) ?_
    refine H.q (yl_assign rfl) rfl rfl (by decide) ?_
    refine H.q (yl_assign rfl) rfl rfl (by decide) ?_
    refine HN.done ?_
    refine HN.keep [(4, _), (5, _)] ⟨rfl, rfl, trivial⟩ ?_
    refine HN.then ?_
    refine HR.ret ?_
    refine HR.then ?_
    refine HR.ret2 _ _ Tryz.results13 rfl rfl (fun w hw => ?_)
    exact ⟨by rw [writeE_named t0], hw.ext⟩
  · simp only [ne_eq, decide_not, Bool.not_eq_false', decide_eq_true_eq] at t0
    refine H.keep [(1, _), (2, _)] ⟨rfl, rfl, trivial⟩ ?_
    refine HN.skip ?_
    refine HN.then ?_
    refine H.seq ?_
    refine H.region ?_
    refine H.q (yl_loadAgg _ Tryz.isAgg25 Tryz.sizeOf25 rfl (fun w hw => cells_of_blk (hw.blk 0 rfl)) rfl) rfl rfl (by decide) ?_
    refine H.q (yl_move rfl) rfl rfl (by decide) ?_
    refine H.q (yl_len rfl Tryz.underlying26 rfl) rfl rfl (by decide) ?_
    refine H.q (yl_call (xs := [.tmp 18, .tmp 20]) Tryz.call30 (stab_hp _ _ _ _) rfl (fun w hw => refCheck_any (names.length : Int) x (.slice ad x.set.length cap) w (by omega) (hv.ext hw.ext))) rfl rfl (by decide) ?_
    refine H.q (yl_assign rfl) rfl rfl (by decide) ?_
    refine HN.done ?_
    refine HN.keep [(1, _), (2, _), (6, _)] ⟨rfl, rfl, rfl, trivial⟩ ?_
    refine HN.then ?_
    refine H.seq ?_
    refine H.seq ?_
    refine H.region ?_
    refine H.q (yl_move rfl) rfl rfl (by decide) ?_
    refine H.q (yl_neq rfl rfl) rfl rfl (by decide) ?_
    refine HN.done ?_
    refine HN.keep [(1, _), (2, _), (6, _), (23, _)] ⟨rfl, rfl, rfl, rfl, trivial⟩ ?_
    refine HN.then ?_
    refine H.cond _ rfl (fun t1 => ?_) (fun t1 => ?_)
    · simp only [ne_eq, decide_not, Bool.not_eq_true', decide_eq_false_iff_not] at t1
      refine H.keep [(6, _)] ⟨rfl, trivial⟩ ?_
      refine H.seq ?_
      refine H.region ?_
      refine H.q (yl_move rfl) rfl rfl (by decide) ?_
      refine H.q (yl_assign rfl) rfl rfl (by decide) ?_
      refine H.q (yl_assign rfl) rfl rfl (by decide) ?_
      refine HN.done ?_
      refine HN.keep [(4, _), (5, _)] ⟨rfl, rfl, trivial⟩ ?_
      refine HN.then ?_
      refine HR.ret ?_
      refine HR.then ?_
      refine HR.ret2 _ _ Tryz.results13 rfl rfl (fun w hw => ?_)
      exact ⟨by rw [writeE_chk t0 t1], hw.ext⟩
    · simp only [ne_eq, decide_not, Bool.not_eq_false', decide_eq_true_eq] at t1
      obtain ⟨ha0, ha1, hb0, hb1⟩ := chk_in t1
      have hk := (chk_zero t1).2.2.1
      obtain ⟨hsk, hsm, hset, _, _⟩ := numE_zero (chk_zero t1).2.2.2.2.1
      have hla : x.a.toNat < names.length := by omega
      have hlb : x.b.toNat < names.length := by omega
      have hga : names.getD x.a.toNat [] = names[x.a.toNat] := by simp [List.getD, hla]
      have hgb : names.getD x.b.toNat [] = names[x.b.toNat] := by simp [List.getD, hlb]
      have hA := hns _ (List.getElem_mem hla)
      have hB := hns _ (List.getElem_mem hlb)
      have hK := itoa_len (small_wide hsk)
      have hM := itoa_len (small_wide hsm)
      have hall : ∀ y ∈ x.set, smallB y = true := by simpa [allSmallB] using hset
      have hnum : ∀ k, (numsT (x.set.take k)).length ≤ 22000 := fun k => by
        have h1 := numsT_len (l := x.set.take k) fun y hy => small_wide (hall y (List.mem_of_mem_take hy))
        have h2 : (x.set.take k).length ≤ 1000 := by rw [List.length_take]; omega
        omega
      rw [writeE_ok t0 t1, hga, hgb]
      refine H.keep [(1, _), (2, _)] ⟨rfl, rfl, trivial⟩ ?_
      refine HN.skip ?_
      refine HN.then ?_
      refine H.seq ?_
      refine H.regionQ Tryz.mixed (by kernel_rfl) (stab_hp _ _ _ _) ?_
      refine G.q (yl_move rfl) rfl rfl (by decide) ?_
      refine G.q (yl_fieldAddr _ fa25_1 rfl) rfl rfl (by decide) ?_
      refine G.q (yl_load Tryz.isAgg3 rfl (fun w hw => hw.cell 0 rfl rfl)) rfl rfl (by decide) ?_
      refine G.q (yl_ix x.a.toNat Tryz.underlying26 Tryz.sizeOf9 (hs1 x.a.toNat hla).1 rfl rfl (by omega) hla) rfl rfl (by decide) ?_
      refine G.q (yl_load Tryz.isAgg9 rfl (fun w hw => cell_ext hw.ext (hs1 x.a.toNat hla).2)) rfl rfl (by decide) ?_
      refine G.q (yl_move rfl) rfl rfl (by decide) ?_
      refine G.q (yl_fieldAddr _ fa25_2 rfl) rfl rfl (by decide) ?_
      refine G.q (yl_load Tryz.isAgg3 rfl (fun w hw => hw.cell 0 rfl rfl)) rfl rfl (by decide) ?_
      refine G.q (yl_ix x.b.toNat Tryz.underlying26 Tryz.sizeOf9 (hs1 x.b.toNat hlb).1 rfl rfl (by omega) hlb) rfl rfl (by decide) ?_
      refine G.q (yl_load Tryz.isAgg9 rfl (fun w hw => cell_ext hw.ext (hs1 x.b.toNat hlb).2)) rfl rfl (by decide) ?_
      refine G.q (yl_assign rfl) rfl rfl (by decide) ?_
      refine G.q (yl_assign rfl) rfl rfl (by decide) ?_
      refine HN.doneG ?_
      refine HN.keep [(2, _), (7, _), (8, _)] ⟨rfl, rfl, rfl, trivial⟩ ?_
      refine HN.then ?_
      refine H.seq ?_
      refine H.regionQ Tryz.mixed (by kernel_rfl) (stab_hp _ _ _ _) ?_
      refine G.q (yl_fieldAddr _ fa25_3 rfl) rfl rfl (by decide) ?_
      refine G.q (yl_load Tryz.isAgg2 rfl (fun w hw => hw.cell 0 rfl rfl)) rfl rfl (by decide) ?_
      refine G.q (yl_call (xs := [.tmp 36]) Tryz.call41 (stab_hp _ _ _ _) rfl (fun w hw => decimal_any x.k w hsk)) rfl rfl (by decide) ?_
      refine G.q (yl_fieldAddr _ fa25_4 rfl) rfl rfl (by decide) ?_
      refine G.q (yl_load Tryz.isAgg2 rfl (fun w hw => hw.cell 0 rfl rfl)) rfl rfl (by decide) ?_
      refine G.q (yl_call (xs := [.tmp 39]) Tryz.call41 (stab_hp _ _ _ _) rfl (fun w hw => decimal_any x.m w hsm)) rfl rfl (by decide) ?_
      refine G.q (yl_assign rfl) rfl rfl (by decide) ?_
      refine G.q (yl_assign rfl) rfl rfl (by decide) ?_
      refine HN.doneG ?_
      refine HN.keep [(2, _), (7, _), (8, _), (9, _), (10, _)] ⟨rfl, rfl, rfl, rfl, rfl, trivial⟩ ?_
      refine HN.then ?_
      refine H.seq ?_
      refine H.seq ?_
      refine H.region ?_
      refine H.q (yl_fieldAddr _ fa25_0 rfl) rfl rfl (by decide) ?_
      refine H.q (yl_load Tryz.isAgg22 rfl (fun w hw => hw.cell 0 rfl rfl)) rfl rfl (by decide) ?_
      refine HN.done ?_
      refine HN.keep [(2, _), (7, _), (8, _), (9, _), (10, _), (42, _)] ⟨rfl, rfl, rfl, rfl, rfl, rfl, trivial⟩ ?_
      refine HN.then ?_
      refine H.block ?_
      refine H.seq ?_
      refine H.region ?_
      refine H.q (yl_eql rfl rfl) rfl rfl (by decide) ?_
      refine H.q (yl_assign rfl) rfl rfl (by decide) ?_
      refine HN.done ?_
      refine HN.keep [(2, _), (7, _), (8, _), (9, _), (10, _), (42, _), (43, _)] ⟨rfl, rfl, rfl, rfl, rfl, rfl, rfl, trivial⟩ ?_
      refine HN.then ?_
      refine H.cond _ rfl (fun t2 => ?_) (fun t2 => ?_)
      · have hkd : x.kind = 1 := of_decide_eq_true t2
        refine H.keep [(7, _), (9, _)] ⟨rfl, rfl, trivial⟩ ?_
        refine H.seq ?_
        refine H.region ?_
        refine H.q (yl_move rfl) rfl rfl (by decide) ?_
        refine H.q (yl_catL rfl rfl (by simp only [List.length_append, List.length_cons, List.length_nil]; omega)) rfl rfl (by decide) ?_
        refine H.q (yl_move rfl) rfl rfl (by decide) ?_
        refine H.q (yl_catL rfl rfl (by simp only [List.length_append, List.length_cons, List.length_nil]; omega)) rfl rfl (by decide) ?_
        refine H.q (yl_assign rfl) rfl rfl (by decide) ?_
        refine H.q (yl_assign rfl) rfl rfl (by decide) ?_
        refine HN.done ?_
        refine HN.keep [(4, _), (5, _)] ⟨rfl, rfl, trivial⟩ ?_
        refine HN.then ?_
        refine HR.ret ?_
        refine HR.block ?_
        refine HR.then ?_
        refine HR.ret2 _ _ Tryz.results13 rfl rfl (fun w hw => ?_)
        exact ⟨by simp [textE, hkd], hw.ext⟩
      · have hk2 : ¬ x.kind = 1 := of_decide_eq_false t2
        refine H.keep [(2, _), (7, _), (8, _), (9, _), (10, _), (42, _)] ⟨rfl, rfl, rfl, rfl, rfl, rfl, trivial⟩ ?_
        refine H.seq ?_
        refine H.region ?_
        refine H.q (yl_eql rfl rfl) rfl rfl (by decide) ?_
        refine H.q (yl_assign rfl) rfl rfl (by decide) ?_
        refine HN.done ?_
        refine HN.keep [(2, _), (7, _), (8, _), (9, _), (10, _), (42, _), (49, _)] ⟨rfl, rfl, rfl, rfl, rfl, rfl, rfl, trivial⟩ ?_
        refine HN.then ?_
        refine H.cond _ rfl (fun t3 => ?_) (fun t3 => ?_)
        · have hkd : x.kind = 2 := of_decide_eq_true t3
          refine H.keep [(2, _), (7, _)] ⟨rfl, rfl, trivial⟩ ?_
          refine H.seq ?_
          refine H.region ?_
          refine H.q (yl_move rfl) rfl rfl (by decide) ?_
          refine H.q (yl_catL rfl rfl (by simp only [List.length_append, List.length_cons, List.length_nil]; omega)) rfl rfl (by decide) ?_
          refine H.q (yl_assign rfl) rfl rfl (by decide) ?_
          refine HN.done ?_
          refine HN.keep [(2, _), (11, _)] ⟨rfl, rfl, trivial⟩ ?_
          refine HN.then ?_
          refine H.seq ?_
          refine H.seq ?_
          refine H.region ?_
          refine H.q (yl_assign rfl) rfl rfl (by decide) ?_
          refine HN.done ?_
          refine HN.keep [(2, _), (11, _), (12, _)] ⟨rfl, rfl, rfl, trivial⟩ ?_
          refine HN.then ?_
          refine H.block ?_
          refine H.loop (fun k : Nat => [(2, .pointer (some ⟨b2, 0, none⟩)), (11, strV (names[x.a.toNat] ++ [32, 105, 110] ++ numsT (x.set.take k))), (12, .int .i64 (k : Int))]) (fun k => k ≤ x.set.length) (fun _ => Hp w0 [(b2, ex (.cells [.int .u8 x.kind, .int .i64 x.a, .int .i64 x.b, .int .i64 x.k, .int .i64 x.m, .slice ad x.set.length cap].toArray 25))] [] []) (fun k => x.set.length - k) 0 (Nat.zero_le _) ⟨rfl, by show some (strV _) = some (strV _); simp [numsT], rfl, trivial⟩ (fun w hw => hw) (fun k hk0 => ?_)
          have hnk := hnum k
          refine H.seq ?_
          refine H.seq ?_
          refine H.region ?_
          refine H.q (yl_move rfl) rfl rfl (by decide) ?_
          refine H.q (yl_fieldAddr _ fa25_5 rfl) rfl rfl (by decide) ?_
          refine H.q (yl_load Tryz.isAgg23 rfl (fun w hw => hw.cell 0 rfl rfl)) rfl rfl (by decide) ?_
          refine H.q (yl_len rfl Tryz.underlying23 rfl) rfl rfl (by decide) ?_
          refine H.q (yl_lss rfl rfl) rfl rfl (by decide) ?_
          refine HN.done ?_
          refine HN.keep [(2, _), (11, _), (12, _), (57, _)] ⟨rfl, rfl, rfl, rfl, trivial⟩ ?_
          refine HN.then ?_
          refine H.cond _ rfl (fun t4 => ?_) (fun t4 => ?_)
          · simp only [decide_eq_true_eq] at t4; have hj : k < x.set.length := by omega
            have hgd : x.set.getD k 0 = x.set[k] := by simp [List.getD, hj]
            have hy := itoa_len (small_wide (hall _ (List.getElem_mem hj)))
            refine H.keep [(2, _), (11, _), (12, _)] ⟨rfl, rfl, rfl, trivial⟩ ?_
            refine HN.skip ?_
            refine HN.then ?_
            refine H.seq ?_
            refine H.block ?_
            refine H.region ?_
            refine H.q (yl_move rfl) rfl rfl (by decide) ?_
            refine H.q (yl_catL rfl rfl (by simp only [List.length_append, List.length_cons, List.length_nil]; omega)) rfl rfl (by decide) ?_
            refine H.q (yl_fieldAddr _ fa25_5 rfl) rfl rfl (by decide) ?_
            refine H.q (yl_load Tryz.isAgg23 rfl (fun w hw => hw.cell 0 rfl rfl)) rfl rfl (by decide) ?_
            refine H.q (yl_move rfl) rfl rfl (by decide) ?_
            refine H.q (yl_ix k Tryz.underlying23 Tryz.sizeOf2 (hs k hj).1 rfl rfl rfl hj) rfl rfl (by decide) ?_
            refine H.q (yl_load (v := .int .i64 x.set[k]) Tryz.isAgg2 rfl (fun w hw => by rw [← hgd]; exact cell_ext hw.ext (hs k hj).2)) rfl rfl (by decide) ?_
            refine H.q (yl_call (xs := [.tmp 66]) Tryz.call41 (stab_hp _ _ _ _) rfl (fun w hw => decimal_any x.set[k] w (hall _ (List.getElem_mem hj)))) rfl rfl (by decide) ?_
            refine H.q (yl_catL rfl rfl (by simp only [List.length_append, List.length_cons, List.length_nil]; omega)) rfl rfl (by decide) ?_
            refine H.q (yl_assign rfl) rfl rfl (by decide) ?_
            refine HN.done ?_
            refine HN.keep [(2, _), (11, _), (12, _)] ⟨rfl, rfl, rfl, trivial⟩ ?_
            refine HN.block ?_
            refine HN.then ?_
            refine H.region ?_
            refine H.q (yl_move rfl) rfl rfl (by decide) ?_
            refine H.q (yl_add rfl rfl _ rfl (by omega)) rfl rfl (by decide) ?_
            refine H.q (yl_assign rfl) rfl rfl (by decide) ?_
            refine HN.done ?_
            refine HN.keep [(2, _), (11, _), (12, _)] ⟨rfl, rfl, rfl, trivial⟩ ?_
            refine HN.then ?_
            refine H.at (k + 1) ⟨by omega, by omega⟩ ⟨rfl, ?_, rfl, trivial⟩ (fun w hw => hw)
            rw [take_len hj, numsT_snoc]
            show some (strV _) = some (strV _)
            simp
          · simp only [decide_eq_false_iff_not] at t4; obtain rfl : k = x.set.length := by omega
            rw [List.take_length]
            refine H.keep [(11, _)] ⟨rfl, trivial⟩ ?_
            refine HX.exit ?_
            refine HX.then ?_
            refine HX.then ?_
            refine HX.hit ?_
            refine HN.then ?_
            refine H.seq ?_
            refine H.region ?_
            refine H.q (yl_move rfl) rfl rfl (by decide) ?_
            refine H.q (yl_assign rfl) rfl rfl (by decide) ?_
            refine H.q (yl_assign rfl) rfl rfl (by decide) ?_
            refine HN.done ?_
            refine HN.keep [(4, _), (5, _)] ⟨rfl, rfl, trivial⟩ ?_
            refine HN.then ?_
            refine HR.ret ?_
            refine HR.block ?_
            refine HR.then ?_
            refine HR.ret2 _ _ Tryz.results13 rfl rfl (fun w hw => ?_)
            exact ⟨by simp [textE, hkd], hw.ext⟩
        · have hk3 : ¬ x.kind = 2 := of_decide_eq_false t3
          refine H.keep [(7, _), (8, _), (9, _), (10, _), (42, _)] ⟨rfl, rfl, rfl, rfl, rfl, trivial⟩ ?_
          refine H.seq ?_
          refine H.region ?_
          refine H.q (yl_eql rfl rfl) rfl rfl (by decide) ?_
          refine H.q (yl_assign rfl) rfl rfl (by decide) ?_
          refine HN.done ?_
          refine HN.keep [(7, _), (8, _), (9, _), (10, _), (42, _), (70, _)] ⟨rfl, rfl, rfl, rfl, rfl, rfl, trivial⟩ ?_
          refine HN.then ?_
          refine H.cond _ rfl (fun t5 => ?_) (fun t5 => ?_)
          · have hkd : x.kind = 3 := of_decide_eq_true t5
            refine H.keep [(7, _), (9, _)] ⟨rfl, rfl, trivial⟩ ?_
            refine H.seq ?_
            refine H.region ?_
            refine H.q (yl_move rfl) rfl rfl (by decide) ?_
            refine H.q (yl_catL rfl rfl (by simp only [List.length_append, List.length_cons, List.length_nil]; omega)) rfl rfl (by decide) ?_
            refine H.q (yl_move rfl) rfl rfl (by decide) ?_
            refine H.q (yl_catL rfl rfl (by simp only [List.length_append, List.length_cons, List.length_nil]; omega)) rfl rfl (by decide) ?_
            refine H.q (yl_assign rfl) rfl rfl (by decide) ?_
            refine H.q (yl_assign rfl) rfl rfl (by decide) ?_
            refine HN.done ?_
            refine HN.keep [(4, _), (5, _)] ⟨rfl, rfl, trivial⟩ ?_
            refine HN.then ?_
            refine HR.ret ?_
            refine HR.block ?_
            refine HR.then ?_
            refine HR.ret2 _ _ Tryz.results13 rfl rfl (fun w hw => ?_)
            exact ⟨by simp [textE, hkd], hw.ext⟩
          · have hk5 : ¬ x.kind = 3 := of_decide_eq_false t5
            refine H.keep [(7, _), (8, _), (9, _), (10, _), (42, _)] ⟨rfl, rfl, rfl, rfl, rfl, trivial⟩ ?_
            refine H.seq ?_
            refine H.region ?_
            refine H.q (yl_eql rfl rfl) rfl rfl (by decide) ?_
            refine H.q (yl_assign rfl) rfl rfl (by decide) ?_
            refine HN.done ?_
            refine HN.keep [(7, _), (8, _), (9, _), (10, _), (42, _), (76, _)] ⟨rfl, rfl, rfl, rfl, rfl, rfl, trivial⟩ ?_
            refine HN.then ?_
            refine H.cond _ rfl (fun t6 => ?_) (fun t6 => ?_)
            · have hkd : x.kind = 4 := of_decide_eq_true t6
              refine H.keep [(7, _), (9, _)] ⟨rfl, rfl, trivial⟩ ?_
              refine H.seq ?_
              refine H.region ?_
              refine H.q (yl_move rfl) rfl rfl (by decide) ?_
              refine H.q (yl_catL rfl rfl (by simp only [List.length_append, List.length_cons, List.length_nil]; omega)) rfl rfl (by decide) ?_
              refine H.q (yl_move rfl) rfl rfl (by decide) ?_
              refine H.q (yl_catL rfl rfl (by simp only [List.length_append, List.length_cons, List.length_nil]; omega)) rfl rfl (by decide) ?_
              refine H.q (yl_assign rfl) rfl rfl (by decide) ?_
              refine H.q (yl_assign rfl) rfl rfl (by decide) ?_
              refine HN.done ?_
              refine HN.keep [(4, _), (5, _)] ⟨rfl, rfl, trivial⟩ ?_
              refine HN.then ?_
              refine HR.ret ?_
              refine HR.block ?_
              refine HR.then ?_
              refine HR.ret2 _ _ Tryz.results13 rfl rfl (fun w hw => ?_)
              exact ⟨by simp [textE, hkd], hw.ext⟩
            · have hk6 : ¬ x.kind = 4 := of_decide_eq_false t6
              refine H.keep [(7, _), (8, _), (9, _), (10, _), (42, _)] ⟨rfl, rfl, rfl, rfl, rfl, trivial⟩ ?_
              refine H.seq ?_
              refine H.region ?_
              refine H.q (yl_eql rfl rfl) rfl rfl (by decide) ?_
              refine H.q (yl_assign rfl) rfl rfl (by decide) ?_
              refine HN.done ?_
              refine HN.keep [(7, _), (8, _), (9, _), (10, _), (42, _), (82, _)] ⟨rfl, rfl, rfl, rfl, rfl, rfl, trivial⟩ ?_
              refine HN.then ?_
              refine H.cond _ rfl (fun t7 => ?_) (fun t7 => ?_)
              · have hkd : x.kind = 5 := of_decide_eq_true t7
                refine H.keep [(7, _)] ⟨rfl, trivial⟩ ?_
                refine H.seq ?_
                refine H.region ?_
                refine H.q (yl_move rfl) rfl rfl (by decide) ?_
                refine H.q (yl_catL rfl rfl (by simp only [List.length_append, List.length_cons, List.length_nil]; omega)) rfl rfl (by decide) ?_
                refine H.q (yl_assign rfl) rfl rfl (by decide) ?_
                refine H.q (yl_assign rfl) rfl rfl (by decide) ?_
                refine HN.done ?_
                refine HN.keep [(4, _), (5, _)] ⟨rfl, rfl, trivial⟩ ?_
                refine HN.then ?_
                refine HR.ret ?_
                refine HR.block ?_
                refine HR.then ?_
                refine HR.ret2 _ _ Tryz.results13 rfl rfl (fun w hw => ?_)
                exact ⟨by simp [textE, hkd], hw.ext⟩
              · have hk7 : ¬ x.kind = 5 := of_decide_eq_false t7
                refine H.keep [(7, _), (8, _), (9, _), (10, _), (42, _)] ⟨rfl, rfl, rfl, rfl, rfl, trivial⟩ ?_
                refine H.seq ?_
                refine H.region ?_
                refine H.q (yl_eql rfl rfl) rfl rfl (by decide) ?_
                refine H.q (yl_assign rfl) rfl rfl (by decide) ?_
                refine HN.done ?_
                refine HN.keep [(7, _), (8, _), (9, _), (10, _), (42, _), (86, _)] ⟨rfl, rfl, rfl, rfl, rfl, rfl, trivial⟩ ?_
                refine HN.then ?_
                refine H.cond _ rfl (fun t8 => ?_) (fun t8 => ?_)
                · have hkd : x.kind = 6 := of_decide_eq_true t8
                  refine H.keep [(7, _), (9, _), (10, _)] ⟨rfl, rfl, rfl, trivial⟩ ?_
                  refine H.seq ?_
                  refine H.region ?_
                  refine H.q (yl_move rfl) rfl rfl (by decide) ?_
                  refine H.q (yl_catL rfl rfl (by simp only [List.length_append, List.length_cons, List.length_nil]; omega)) rfl rfl (by decide) ?_
                  refine H.q (yl_move rfl) rfl rfl (by decide) ?_
                  refine H.q (yl_catL rfl rfl (by simp only [List.length_append, List.length_cons, List.length_nil]; omega)) rfl rfl (by decide) ?_
                  refine H.q (yl_catL rfl rfl (by simp only [List.length_append, List.length_cons, List.length_nil]; omega)) rfl rfl (by decide) ?_
                  refine H.q (yl_move rfl) rfl rfl (by decide) ?_
                  refine H.q (yl_catL rfl rfl (by simp only [List.length_append, List.length_cons, List.length_nil]; omega)) rfl rfl (by decide) ?_
                  refine H.q (yl_assign rfl) rfl rfl (by decide) ?_
                  refine H.q (yl_assign rfl) rfl rfl (by decide) ?_
                  refine HN.done ?_
                  refine HN.keep [(4, _), (5, _)] ⟨rfl, rfl, trivial⟩ ?_
                  refine HN.then ?_
                  refine HR.ret ?_
                  refine HR.block ?_
                  refine HR.then ?_
                  refine HR.ret2 _ _ Tryz.results13 rfl rfl (fun w hw => ?_)
                  exact ⟨by simp [textE, hkd], hw.ext⟩
                · have hk8 : ¬ x.kind = 6 := of_decide_eq_false t8
                  refine H.keep [(7, _), (8, _), (9, _), (10, _), (42, _)] ⟨rfl, rfl, rfl, rfl, rfl, trivial⟩ ?_
                  refine H.seq ?_
                  refine H.region ?_
                  refine H.q (yl_eql rfl rfl) rfl rfl (by decide) ?_
                  refine H.q (yl_assign rfl) rfl rfl (by decide) ?_
                  refine HN.done ?_
                  refine HN.keep [(7, _), (8, _), (9, _), (10, _), (42, _), (95, _)] ⟨rfl, rfl, rfl, rfl, rfl, rfl, trivial⟩ ?_
                  refine HN.then ?_
                  refine H.cond _ rfl (fun t9 => ?_) (fun t9 => ?_)
                  · have hkd : x.kind = 7 := of_decide_eq_true t9
                    refine H.keep [(7, _), (8, _)] ⟨rfl, rfl, trivial⟩ ?_
                    refine H.seq ?_
                    refine H.region ?_
                    refine H.q (yl_move rfl) rfl rfl (by decide) ?_
                    refine H.q (yl_catL rfl rfl (by simp only [List.length_append, List.length_cons, List.length_nil]; omega)) rfl rfl (by decide) ?_
                    refine H.q (yl_move rfl) rfl rfl (by decide) ?_
                    refine H.q (yl_catL rfl rfl (by simp only [List.length_append, List.length_cons, List.length_nil]; omega)) rfl rfl (by decide) ?_
                    refine H.q (yl_assign rfl) rfl rfl (by decide) ?_
                    refine H.q (yl_assign rfl) rfl rfl (by decide) ?_
                    refine HN.done ?_
                    refine HN.keep [(4, _), (5, _)] ⟨rfl, rfl, trivial⟩ ?_
                    refine HN.then ?_
                    refine HR.ret ?_
                    refine HR.block ?_
                    refine HR.then ?_
                    refine HR.ret2 _ _ Tryz.results13 rfl rfl (fun w hw => ?_)
                    exact ⟨by simp [textE, hkd], hw.ext⟩
                  · have hk9 : ¬ x.kind = 7 := of_decide_eq_false t9
                    refine H.keep [(7, _), (8, _), (9, _), (10, _), (42, _)] ⟨rfl, rfl, rfl, rfl, rfl, trivial⟩ ?_
                    refine H.seq ?_
                    refine H.region ?_
                    refine H.q (yl_eql rfl rfl) rfl rfl (by decide) ?_
                    refine H.q (yl_assign rfl) rfl rfl (by decide) ?_
                    refine HN.done ?_
                    refine HN.keep [(7, _), (8, _), (9, _), (10, _), (42, _), (101, _)] ⟨rfl, rfl, rfl, rfl, rfl, rfl, trivial⟩ ?_
                    refine HN.then ?_
                    refine H.cond _ rfl (fun t10 => ?_) (fun t10 => ?_)
                    · have hkd : x.kind = 8 := of_decide_eq_true t10
                      refine H.keep [(7, _), (8, _)] ⟨rfl, rfl, trivial⟩ ?_
                      refine H.seq ?_
                      refine H.region ?_
                      refine H.q (yl_move rfl) rfl rfl (by decide) ?_
                      refine H.q (yl_catL rfl rfl (by simp only [List.length_append, List.length_cons, List.length_nil]; omega)) rfl rfl (by decide) ?_
                      refine H.q (yl_move rfl) rfl rfl (by decide) ?_
                      refine H.q (yl_catL rfl rfl (by simp only [List.length_append, List.length_cons, List.length_nil]; omega)) rfl rfl (by decide) ?_
                      refine H.q (yl_assign rfl) rfl rfl (by decide) ?_
                      refine H.q (yl_assign rfl) rfl rfl (by decide) ?_
                      refine HN.done ?_
                      refine HN.keep [(4, _), (5, _)] ⟨rfl, rfl, trivial⟩ ?_
                      refine HN.then ?_
                      refine HR.ret ?_
                      refine HR.block ?_
                      refine HR.then ?_
                      refine HR.ret2 _ _ Tryz.results13 rfl rfl (fun w hw => ?_)
                      exact ⟨by simp [textE, hkd], hw.ext⟩
                    · have hk10 : ¬ x.kind = 8 := of_decide_eq_false t10
                      refine H.keep [(7, _), (8, _), (9, _), (10, _), (42, _)] ⟨rfl, rfl, rfl, rfl, rfl, trivial⟩ ?_
                      refine H.seq ?_
                      refine H.region ?_
                      refine H.q (yl_eql rfl rfl) rfl rfl (by decide) ?_
                      refine H.q (yl_assign rfl) rfl rfl (by decide) ?_
                      refine HN.done ?_
                      refine HN.keep [(7, _), (8, _), (9, _), (10, _), (42, _), (107, _)] ⟨rfl, rfl, rfl, rfl, rfl, rfl, trivial⟩ ?_
                      refine HN.then ?_
                      refine H.cond _ rfl (fun t11 => ?_) (fun t11 => ?_)
                      · have hkd : x.kind = 9 := of_decide_eq_true t11
                        refine H.keep [(7, _), (8, _)] ⟨rfl, rfl, trivial⟩ ?_
                        refine H.seq ?_
                        refine H.region ?_
                        refine H.q (yl_move rfl) rfl rfl (by decide) ?_
                        refine H.q (yl_catL rfl rfl (by simp only [List.length_append, List.length_cons, List.length_nil]; omega)) rfl rfl (by decide) ?_
                        refine H.q (yl_move rfl) rfl rfl (by decide) ?_
                        refine H.q (yl_catL rfl rfl (by simp only [List.length_append, List.length_cons, List.length_nil]; omega)) rfl rfl (by decide) ?_
                        refine H.q (yl_assign rfl) rfl rfl (by decide) ?_
                        refine H.q (yl_assign rfl) rfl rfl (by decide) ?_
                        refine HN.done ?_
                        refine HN.keep [(4, _), (5, _)] ⟨rfl, rfl, trivial⟩ ?_
                        refine HN.then ?_
                        refine HR.ret ?_
                        refine HR.block ?_
                        refine HR.then ?_
                        refine HR.ret2 _ _ Tryz.results13 rfl rfl (fun w hw => ?_)
                        exact ⟨by simp [textE, hkd], hw.ext⟩
                      · have hk11 : ¬ x.kind = 9 := of_decide_eq_false t11
                        refine H.keep [(7, _), (8, _), (9, _), (10, _), (42, _)] ⟨rfl, rfl, rfl, rfl, rfl, trivial⟩ ?_
                        refine H.seq ?_
                        refine H.region ?_
                        refine H.q (yl_eql rfl rfl) rfl rfl (by decide) ?_
                        refine H.q (yl_assign rfl) rfl rfl (by decide) ?_
                        refine HN.done ?_
                        refine HN.keep [(7, _), (8, _), (9, _), (10, _), (113, _)] ⟨rfl, rfl, rfl, rfl, rfl, trivial⟩ ?_
                        refine HN.then ?_
                        refine H.cond _ rfl (fun t12 => ?_) (fun t12 => ?_)
                        · have hkd : x.kind = 10 := of_decide_eq_true t12
                          refine H.keep [(7, _), (8, _)] ⟨rfl, rfl, trivial⟩ ?_
                          refine H.seq ?_
                          refine H.region ?_
                          refine H.q (yl_move rfl) rfl rfl (by decide) ?_
                          refine H.q (yl_catL rfl rfl (by simp only [List.length_append, List.length_cons, List.length_nil]; omega)) rfl rfl (by decide) ?_
                          refine H.q (yl_move rfl) rfl rfl (by decide) ?_
                          refine H.q (yl_catL rfl rfl (by simp only [List.length_append, List.length_cons, List.length_nil]; omega)) rfl rfl (by decide) ?_
                          refine H.q (yl_assign rfl) rfl rfl (by decide) ?_
                          refine H.q (yl_assign rfl) rfl rfl (by decide) ?_
                          refine HN.done ?_
                          refine HN.keep [(4, _), (5, _)] ⟨rfl, rfl, trivial⟩ ?_
                          refine HN.then ?_
                          refine HR.ret ?_
                          refine HR.block ?_
                          refine HR.then ?_
                          refine HR.ret2 _ _ Tryz.results13 rfl rfl (fun w hw => ?_)
                          exact ⟨by simp [textE, hkd], hw.ext⟩
                        · have hk12 : ¬ x.kind = 10 := of_decide_eq_false t12
                          have hkd : x.kind = 11 := by
                            have := kind_cases hk
                            omega
                          refine H.keep [(7, _), (8, _), (9, _), (10, _)] ⟨rfl, rfl, rfl, rfl, trivial⟩ ?_
                          refine HN.skip ?_
                          refine HN.block ?_
                          refine HN.then ?_
                          refine H.seq ?_
                          refine H.region ?_
                          refine H.q (yl_move rfl) rfl rfl (by decide) ?_
                          refine H.q (yl_catL rfl rfl (by simp only [List.length_append, List.length_cons, List.length_nil]; omega)) rfl rfl (by decide) ?_
                          refine H.q (yl_move rfl) rfl rfl (by decide) ?_
                          refine H.q (yl_catL rfl rfl (by simp only [List.length_append, List.length_cons, List.length_nil]; omega)) rfl rfl (by decide) ?_
                          refine H.q (yl_catL rfl rfl (by simp only [List.length_append, List.length_cons, List.length_nil]; omega)) rfl rfl (by decide) ?_
                          refine H.q (yl_move rfl) rfl rfl (by decide) ?_
                          refine H.q (yl_catL rfl rfl (by simp only [List.length_append, List.length_cons, List.length_nil]; omega)) rfl rfl (by decide) ?_
                          refine H.q (yl_catL rfl rfl (by simp only [List.length_append, List.length_cons, List.length_nil]; omega)) rfl rfl (by decide) ?_
                          refine H.q (yl_move rfl) rfl rfl (by decide) ?_
                          refine H.q (yl_catL rfl rfl (by simp only [List.length_append, List.length_cons, List.length_nil]; omega)) rfl rfl (by decide) ?_
                          refine H.q (yl_assign rfl) rfl rfl (by decide) ?_
                          refine H.q (yl_assign rfl) rfl rfl (by decide) ?_
                          refine HN.done ?_
                          refine HN.keep [(4, _), (5, _)] ⟨rfl, rfl, trivial⟩ ?_
                          refine HN.then ?_
                          refine HR.ret ?_
                          refine HR.ret2 _ _ Tryz.results13 rfl rfl (fun w hw => ?_)
                          exact ⟨by simp [textE, hkd], hw.ext⟩

end Go.Proofs.YtgbgddmbooaddaaGreatDoor

namespace Go.Proofs.YtgbgddmbooaddaaGreatDoor
open Go.RowKit


theorem write1_v (x : Int) (w0 : World) (hx : smallB x = true) (hv : Vars w0) : Calls Tryz.prog 37 ([Value.int .i64 x] ++ []).toArray w0 fun e w' => e = .returned (strV (Lib.itoa x)) ∧ Ext w0 w' := write1_any x w0 hx hv

set_option maxRecDepth 100000 in
theorem write_any (x : Inv) (sv : Value) (names : List (List UInt8)) (nv : Value) (w0 : World) (hl : x.set.length ≤ 1000) (hv : IsInts w0 sv x.set) (hnl : names.length ≤ 1000) (hns : ∀ s ∈ names, s.length ≤ 1000) (hnv : IsStrs w0 nv names) (hvars : Vars w0) : Calls Tryz.prog 12 #[(.agg [.int .u8 x.kind, .int .i64 x.a, .int .i64 x.b, .int .i64 x.k, .int .i64 x.m, sv].toArray), nv] w0 fun e w' => e = .returned (.tuple #[strV (writeE x names).1, .int .i64 (writeE x names).2]) ∧ Ext w0 w' := by
  obtain ⟨ad, cap, b, o, rfl, hcap, hs⟩ := ints_open hv
  obtain ⟨ad1, cap1, b1, o1, rfl, hcap1, hs1⟩ := sl_open strV hnv
  refine enterA 163 Tryz.func12 rfl Tryz.ntmps12 rfl (Hp w0 [] [] []) (Hp.init _) ?_
  refine H.seq ?_
  refine H.region ?_
  refine H.boxA rfl (by decide) (fun b2 hb2 => ?_)
  refine H.q (yl_assign rfl) rfl rfl (by decide) ?_
  refine H.q (yl_assign rfl) rfl rfl (by decide) ?_
  refine HN.done ?_
  refine HN.keep [(1, _), (2, _)] ⟨rfl, rfl, trivial⟩ ?_
  refine HN.then ?_
  refine H.seq ?_
  refine H.seq ?_
  refine H.region ?_
  refine H.q (yl_move rfl) rfl rfl (by decide) ?_
  refine H.q (yl_call (xs := [.tmp 24]) Tryz.call36 (stab_hp _ _ _ _) rfl (fun w hw => named_any names (.slice ad1 names.length cap1) w (by omega) hns (hnv.ext hw.ext))) rfl rfl (by decide) ?_
  refine H.q (yl_assign rfl) rfl rfl (by decide) ?_
  refine HN.done ?_
  refine HN.keep [(1, _), (2, _), (6, _)] ⟨rfl, rfl, rfl, trivial⟩ ?_
  refine HN.then ?_
  refine H.seq ?_
  refine H.region ?_
  refine H.q (yl_move rfl) rfl rfl (by decide) ?_
  refine H.q (yl_neq rfl rfl) rfl rfl (by decide) ?_
  refine HN.done ?_
  refine HN.keep [(1, _), (2, _), (6, _), (27, _)] ⟨rfl, rfl, rfl, rfl, trivial⟩ ?_
  refine HN.then ?_
  refine H.cond _ rfl (fun t0 => ?_) (fun t0 => ?_)
  · simp only [ne_eq, decide_not, Bool.not_eq_true', decide_eq_false_iff_not] at t0
    refine H.keep [(6, _)] ⟨rfl, trivial⟩ ?_
    refine H.seq ?_
    refine H.region ?_
    refine H.q (yl_move rfl) rfl rfl (by decide) ?_
    refine H.q (yl_assign rfl) rfl rfl (by decide) ?_
    refine H.q (yl_assign rfl) rfl rfl (by decide) ?_
    refine HN.done ?_
    refine HN.keep [(4, _), (5, _)] ⟨rfl, rfl, trivial⟩ ?_
    refine HN.then ?_
    refine HR.ret ?_
    refine HR.then ?_
    refine HR.ret2 _ _ Tryz.results12 rfl rfl (fun w hw => ?_)
    exact ⟨by rw [writeE_named t0], hw.ext⟩
  · simp only [ne_eq, decide_not, Bool.not_eq_false', decide_eq_true_eq] at t0
    refine H.keep [(1, _), (2, _)] ⟨rfl, rfl, trivial⟩ ?_
    refine HN.skip ?_
    refine HN.then ?_
    refine H.seq ?_
    refine H.seq ?_
    refine H.region ?_
    refine H.q (yl_loadAgg _ Tryz.isAgg25 Tryz.sizeOf25 rfl (fun w hw => cells_of_blk (hw.blk 0 rfl)) rfl) rfl rfl (by decide) ?_
    refine H.q (yl_move rfl) rfl rfl (by decide) ?_
    refine H.q (yl_len rfl Tryz.underlying26 rfl) rfl rfl (by decide) ?_
    refine H.q (yl_call (xs := [.tmp 29, .tmp 31]) Tryz.call28 (stab_hp _ _ _ _) rfl (fun w hw => check_any (names.length : Int) x (.slice ad x.set.length cap) w (by omega) (hv.ext hw.ext))) rfl rfl (by decide) ?_
    refine H.q (yl_assign rfl) rfl rfl (by decide) ?_
    refine HN.done ?_
    refine HN.keep [(1, _), (2, _), (7, _)] ⟨rfl, rfl, rfl, trivial⟩ ?_
    refine HN.then ?_
    refine H.seq ?_
    refine H.region ?_
    refine H.q (yl_move rfl) rfl rfl (by decide) ?_
    refine H.q (yl_neq rfl rfl) rfl rfl (by decide) ?_
    refine HN.done ?_
    refine HN.keep [(1, _), (2, _), (7, _), (34, _)] ⟨rfl, rfl, rfl, rfl, trivial⟩ ?_
    refine HN.then ?_
    refine H.cond _ rfl (fun t1 => ?_) (fun t1 => ?_)
    · simp only [ne_eq, decide_not, Bool.not_eq_true', decide_eq_false_iff_not] at t1
      refine H.keep [(7, _)] ⟨rfl, trivial⟩ ?_
      refine H.seq ?_
      refine H.region ?_
      refine H.q (yl_move rfl) rfl rfl (by decide) ?_
      refine H.q (yl_assign rfl) rfl rfl (by decide) ?_
      refine H.q (yl_assign rfl) rfl rfl (by decide) ?_
      refine HN.done ?_
      refine HN.keep [(4, _), (5, _)] ⟨rfl, rfl, trivial⟩ ?_
      refine HN.then ?_
      refine HR.ret ?_
      refine HR.then ?_
      refine HR.ret2 _ _ Tryz.results12 rfl rfl (fun w hw => ?_)
      exact ⟨by rw [writeE_chk t0 t1], hw.ext⟩
    · simp only [ne_eq, decide_not, Bool.not_eq_false', decide_eq_true_eq] at t1
      obtain ⟨ha0, ha1, hb0, hb1⟩ := chk_in t1
      have hk := (chk_zero t1).2.2.1
      obtain ⟨hsk, hsm, hset, _, _⟩ := numE_zero (chk_zero t1).2.2.2.2.1
      have hla : x.a.toNat < names.length := by omega
      have hlb : x.b.toNat < names.length := by omega
      have hga : names.getD x.a.toNat [] = names[x.a.toNat] := by simp [List.getD, hla]
      have hgb : names.getD x.b.toNat [] = names[x.b.toNat] := by simp [List.getD, hlb]
      have hA := hns _ (List.getElem_mem hla)
      have hB := hns _ (List.getElem_mem hlb)
      have hK := itoa_len (small_wide hsk)
      have hM := itoa_len (small_wide hsm)
      have hall : ∀ y ∈ x.set, smallB y = true := by simpa [allSmallB] using hset
      have hnum : ∀ k, (numsT (x.set.take k)).length ≤ 22000 := fun k => by
        have h1 := numsT_len (l := x.set.take k) fun y hy => small_wide (hall y (List.mem_of_mem_take hy))
        have h2 : (x.set.take k).length ≤ 1000 := by rw [List.length_take]; omega
        omega
      rw [writeE_ok t0 t1, hga, hgb]
      refine H.keep [(1, _), (2, _)] ⟨rfl, rfl, trivial⟩ ?_
      refine HN.skip ?_
      refine HN.then ?_
      refine H.seq ?_
      refine H.region ?_
      refine H.q (yl_assign rfl) rfl rfl (by decide) ?_
      refine HN.done ?_
      refine HN.keep [(1, _), (2, _), (8, _)] ⟨rfl, rfl, rfl, trivial⟩ ?_
      refine HN.then ?_
      refine H.seq ?_
      refine H.regionQ Tryz.mixed (by kernel_rfl) (stab_hp _ _ _ _) ?_
      refine G.q (yl_move rfl) rfl rfl (by decide) ?_
      refine G.q (yl_fieldAddr _ fa25_1 rfl) rfl rfl (by decide) ?_
      refine G.q (yl_load Tryz.isAgg3 rfl (fun w hw => hw.cell 0 rfl rfl)) rfl rfl (by decide) ?_
      refine G.q (yl_ix x.a.toNat Tryz.underlying26 Tryz.sizeOf9 (hs1 x.a.toNat hla).1 rfl rfl (by omega) hla) rfl rfl (by decide) ?_
      refine G.q (yl_load Tryz.isAgg9 rfl (fun w hw => cell_ext hw.ext (hs1 x.a.toNat hla).2)) rfl rfl (by decide) ?_
      refine G.q (yl_move rfl) rfl rfl (by decide) ?_
      refine G.q (yl_fieldAddr _ fa25_2 rfl) rfl rfl (by decide) ?_
      refine G.q (yl_load Tryz.isAgg3 rfl (fun w hw => hw.cell 0 rfl rfl)) rfl rfl (by decide) ?_
      refine G.q (yl_ix x.b.toNat Tryz.underlying26 Tryz.sizeOf9 (hs1 x.b.toNat hlb).1 rfl rfl (by omega) hlb) rfl rfl (by decide) ?_
      refine G.q (yl_load Tryz.isAgg9 rfl (fun w hw => cell_ext hw.ext (hs1 x.b.toNat hlb).2)) rfl rfl (by decide) ?_
      refine G.q (yl_assign rfl) rfl rfl (by decide) ?_
      refine G.q (yl_assign rfl) rfl rfl (by decide) ?_
      refine HN.doneG ?_
      refine HN.keep [(2, _), (8, _), (9, _), (10, _)] ⟨rfl, rfl, rfl, rfl, trivial⟩ ?_
      refine HN.then ?_
      refine H.seq ?_
      refine H.seq ?_
      refine H.region ?_
      refine H.q (yl_loadAgg _ Tryz.isAgg25 Tryz.sizeOf25 rfl (fun w hw => cells_of_blk (hw.blk 0 rfl)) rfl) rfl rfl (by decide) ?_
      refine H.q (yl_call (xs := [.tmp 46]) Tryz.call39 (stab_hp _ _ _ _) rfl (fun w hw => claimOf_some x ad x.set.length cap w hk)) rfl rfl (by decide) ?_
      refine HN.done ?_
      refine HN.keep [(2, _), (8, _), (9, _), (10, _), (47, _)] ⟨rfl, rfl, rfl, rfl, rfl, trivial⟩ ?_
      refine HN.then ?_
      refine H.block ?_
      refine H.seq ?_
      refine H.region ?_
      refine H.q (yl_typeAssert Tryz.underlying71 rfl Tryz.zeroValue71 rfl) rfl rfl (by decide) ?_
      refine H.q (yl_extract _ rfl rfl) rfl rfl (by decide) ?_
      refine H.q (yl_extract _ rfl rfl) rfl rfl (by decide) ?_
      refine HN.done ?_
      refine HN.keep [(2, _), (8, _), (9, _), (10, _), (47, _), (49, _), (50, _)] ⟨rfl, rfl, rfl, rfl, rfl, rfl, rfl, trivial⟩ ?_
      refine HN.then ?_
      refine H.cond _ rfl (fun t2 => ?_) (fun t2 => ?_)
      · simp only [decide_eq_true_eq] at t2
        have hkd : x.kind = 1 := claimT_71 t2
        refine H.keep [(2, _), (8, _), (9, _), (10, _), (50, .agg [.int .i64 x.k].toArray)] ⟨rfl, rfl, rfl, rfl, congrArg some ((if_pos t2).trans (by simp [claimA, hkd])), trivial⟩ ?_
        refine H.keep [(8, _), (9, _), (50, _)] ⟨rfl, rfl, rfl, trivial⟩ ?_
        refine H.seq ?_
        refine H.region ?_
        refine H.allocA Tryz.zeroValue71 (by decide) (fun b11 hb11 => ?_)
        refine H.storeA 0 rfl rfl rfl Tryz.sizeOf71 rfl rfl ?_
        refine HN.done ?_
        refine HN.keep [(8, _), (9, _), (11, _)] ⟨rfl, rfl, rfl, trivial⟩ ?_
        refine HN.then ?_
        refine H.seq ?_
        refine H.region ?_
        refine H.q (yl_move rfl) rfl rfl (by decide) ?_
        refine H.q (yl_catL rfl rfl (by simp only [List.length_append, List.length_cons, List.length_nil]; omega)) rfl rfl (by decide) ?_
        refine H.q (yl_move rfl) rfl rfl (by decide) ?_
        refine H.q (yl_fieldAddr _ fa71_0 rfl) rfl rfl (by decide) ?_
        refine H.q (yl_load Tryz.isAgg2 rfl (fun w hw => hw.cell 0 rfl rfl)) rfl rfl (by decide) ?_
        refine H.q (yl_callv (xs := [.tmp 55]) Tryz.call37 (stab_hp _ _ _ _) rfl rfl (fun w hw => write1_v x.k w hsk (hvars.ext hw.ext))) rfl rfl (by decide) ?_
        refine H.q (yl_catL rfl rfl (by simp only [List.length_append, List.length_cons, List.length_nil]; omega)) rfl rfl (by decide) ?_
        refine H.q (yl_assign rfl) rfl rfl (by decide) ?_
        refine H.q (yl_assign rfl) rfl rfl (by decide) ?_
        refine HN.done ?_
        refine HN.keep [(4, _), (5, _)] ⟨rfl, rfl, trivial⟩ ?_
        refine HN.then ?_
        refine HR.ret ?_
        refine HR.block ?_
        refine HR.then ?_
        refine HR.ret2 _ _ Tryz.results12 rfl rfl (fun w hw => ?_)
        exact ⟨by simp [textE, hkd], hw.ext⟩
      · simp only [decide_eq_false_iff_not] at t2
        refine H.keep [(2, _), (8, _), (9, _), (10, _), (47, _)] ⟨rfl, rfl, rfl, rfl, rfl, trivial⟩ ?_
        refine H.seq ?_
        refine H.region ?_
        refine H.q (yl_typeAssert Tryz.underlying73 rfl Tryz.zeroValue73 rfl) rfl rfl (by decide) ?_
        refine H.q (yl_extract _ rfl rfl) rfl rfl (by decide) ?_
        refine H.q (yl_extract _ rfl rfl) rfl rfl (by decide) ?_
        refine HN.done ?_
        refine HN.keep [(2, _), (8, _), (9, _), (10, _), (47, _), (59, _), (60, _)] ⟨rfl, rfl, rfl, rfl, rfl, rfl, rfl, trivial⟩ ?_
        refine HN.then ?_
        refine H.cond _ rfl (fun t3 => ?_) (fun t3 => ?_)
        · simp only [decide_eq_true_eq] at t3
          have hkd : x.kind = 2 := claimT_73 t3
          refine H.keep [(2, _), (8, _), (9, _), (10, _), (60, .agg [.slice ad x.set.length cap].toArray)] ⟨rfl, rfl, rfl, rfl, congrArg some ((if_pos t3).trans (by simp [claimA, hkd])), trivial⟩ ?_
          refine H.keep [(8, _), (9, _), (60, _)] ⟨rfl, rfl, rfl, trivial⟩ ?_
          refine H.seq ?_
          refine H.region ?_
          refine H.allocA Tryz.zeroValue73 (by decide) (fun b12 hb12 => ?_)
          refine H.storeA 0 rfl rfl rfl Tryz.sizeOf73 rfl rfl ?_
          refine HN.done ?_
          refine HN.keep [(8, _), (9, _), (12, _)] ⟨rfl, rfl, rfl, trivial⟩ ?_
          refine HN.then ?_
          refine H.seq ?_
          refine H.region ?_
          refine H.q (yl_move rfl) rfl rfl (by decide) ?_
          refine H.q (yl_catL rfl rfl (by simp only [List.length_append, List.length_cons, List.length_nil]; omega)) rfl rfl (by decide) ?_
          refine H.q (yl_assign rfl) rfl rfl (by decide) ?_
          refine HN.done ?_
          refine HN.keep [(8, _), (12, _), (13, _)] ⟨rfl, rfl, rfl, trivial⟩ ?_
          refine HN.then ?_
          refine H.seq ?_
          refine H.seq ?_
          refine H.region ?_
          refine H.q (yl_fieldAddr _ fa73_0 rfl) rfl rfl (by decide) ?_
          refine H.q (yl_load Tryz.isAgg23 rfl (fun w hw => hw.cell 0 rfl rfl)) rfl rfl (by decide) ?_
          refine H.q (yl_len rfl Tryz.underlying23 rfl) rfl rfl (by decide) ?_
          refine H.q (yl_move rfl) rfl rfl (by decide) ?_
          refine HN.done ?_
          refine HN.keep [(8, _), (13, _), (64, _), (65, _), (66, _)] ⟨rfl, rfl, rfl, rfl, rfl, trivial⟩ ?_
          refine HN.then ?_
          refine H.block ?_
          refine H.loop (fun k : Nat => [(8, .func (.func 37) #[] #[]), (13, strV (names[x.a.toNat] ++ [32, 105, 110] ++ numsT (x.set.take k))), (64, .slice ad x.set.length cap), (65, .int .i64 (x.set.length : Int)), (66, .int .i64 (k : Int))]) (fun k => k ≤ x.set.length) (fun _ => Hp w0 [] [] []) (fun k => x.set.length - k) 0 (Nat.zero_le _) ⟨rfl, by show some (strV _) = some (strV _); simp [numsT], rfl, rfl, rfl, trivial⟩ (fun w hw => hw.drop.drop) (fun k hk0 => ?_)
          have hnk := hnum k
          refine H.seq ?_
          refine H.region ?_
          refine H.q (yl_lss rfl rfl) rfl rfl (by decide) ?_
          refine HN.done ?_
          refine HN.keep [(8, _), (13, _), (64, _), (65, _), (66, _), (67, _)] ⟨rfl, rfl, rfl, rfl, rfl, rfl, trivial⟩ ?_
          refine HN.then ?_
          refine H.seq ?_
          refine H.cond _ rfl (fun t4 => ?_) (fun t4 => ?_)
          · simp only [decide_eq_true_eq] at t4; have hj : k < x.set.length := by omega
            have hgd : x.set.getD k 0 = x.set[k] := by simp [List.getD, hj]
            have hy := itoa_len (small_wide (hall _ (List.getElem_mem hj)))
            refine H.keep [(8, _), (13, _), (64, _), (65, _), (66, _)] ⟨rfl, rfl, rfl, rfl, rfl, trivial⟩ ?_
            refine HN.skip ?_
            refine HN.then ?_
            refine H.seq ?_
            refine H.block ?_
            refine H.seq ?_
            refine H.region ?_
            refine H.q (yl_ix k Tryz.underlying23 Tryz.sizeOf2 (hs k hj).1 rfl rfl rfl hj) rfl rfl (by decide) ?_
            refine H.q (yl_load (v := .int .i64 x.set[k]) Tryz.isAgg2 rfl (fun w hw => by rw [← hgd]; exact cell_ext hw.ext (hs k hj).2)) rfl rfl (by decide) ?_
            refine H.q (yl_assign rfl) rfl rfl (by decide) ?_
            refine HN.done ?_
            refine HN.keep [(8, _), (13, _), (15, _), (64, _), (65, _), (66, _)] ⟨rfl, rfl, rfl, rfl, rfl, rfl, trivial⟩ ?_
            refine HN.then ?_
            refine H.region ?_
            refine H.q (yl_move rfl) rfl rfl (by decide) ?_
            refine H.q (yl_move rfl) rfl rfl (by decide) ?_
            refine H.q (yl_move rfl) rfl rfl (by decide) ?_
            refine H.q (yl_callv (xs := [.tmp 72]) Tryz.call37 (stab_hp _ _ _ _) rfl rfl (fun w hw => write1_v x.set[k] w (hall _ (List.getElem_mem hj)) (hvars.ext hw.ext))) rfl rfl (by decide) ?_
            refine H.q (yl_catL (l1 := [32]) rfl rfl (by simp only [List.length_append, List.length_cons, List.length_nil]; omega)) rfl rfl (by decide) ?_
            refine H.q (yl_catL rfl rfl (by simp only [List.length_append, List.length_cons, List.length_nil]; omega)) rfl rfl (by decide) ?_
            refine H.q (yl_assign rfl) rfl rfl (by decide) ?_
            refine HN.done ?_
            refine HN.keep [(8, _), (13, _), (64, _), (65, _), (66, _)] ⟨rfl, rfl, rfl, rfl, rfl, trivial⟩ ?_
            refine HN.block ?_
            refine HN.then ?_
            refine H.region ?_
            refine H.q (yl_add rfl rfl _ rfl (by omega)) rfl rfl (by decide) ?_
            refine H.q (yl_move rfl) rfl rfl (by decide) ?_
            refine HN.done ?_
            refine HN.keep [(8, _), (13, _), (64, _), (65, _), (66, _)] ⟨rfl, rfl, rfl, rfl, rfl, trivial⟩ ?_
            refine HN.then ?_
            refine H.at (k + 1) ⟨by omega, by omega⟩ ⟨rfl, ?_, rfl, rfl, rfl, trivial⟩ (fun w hw => hw)
            rw [take_len hj, numsT_snoc]
            show some (strV _) = some (strV _)
            simp
          · simp only [decide_eq_false_iff_not] at t4; obtain rfl : k = x.set.length := by omega
            rw [List.take_length]
            refine H.keep [(13, _)] ⟨rfl, trivial⟩ ?_
            refine HX.exit ?_
            refine HX.then ?_
            refine HX.then ?_
            refine HX.hit ?_
            refine HN.then ?_
            refine H.seq ?_
            refine H.region ?_
            refine H.q (yl_move rfl) rfl rfl (by decide) ?_
            refine H.q (yl_assign rfl) rfl rfl (by decide) ?_
            refine H.q (yl_assign rfl) rfl rfl (by decide) ?_
            refine HN.done ?_
            refine HN.keep [(4, _), (5, _)] ⟨rfl, rfl, trivial⟩ ?_
            refine HN.then ?_
            refine HR.ret ?_
            refine HR.block ?_
            refine HR.then ?_
            refine HR.ret2 _ _ Tryz.results12 rfl rfl (fun w hw => ?_)
            exact ⟨by simp [textE, hkd], hw.ext⟩
        · simp only [decide_eq_false_iff_not] at t3
          refine H.keep [(2, _), (8, _), (9, _), (10, _), (47, _)] ⟨rfl, rfl, rfl, rfl, rfl, trivial⟩ ?_
          refine H.seq ?_
          refine H.region ?_
          refine H.q (yl_typeAssert Tryz.underlying74 rfl Tryz.zeroValue74 rfl) rfl rfl (by decide) ?_
          refine H.q (yl_extract _ rfl rfl) rfl rfl (by decide) ?_
          refine H.q (yl_extract _ rfl rfl) rfl rfl (by decide) ?_
          refine HN.done ?_
          refine HN.keep [(2, _), (8, _), (9, _), (10, _), (47, _), (79, _), (80, _)] ⟨rfl, rfl, rfl, rfl, rfl, rfl, rfl, trivial⟩ ?_
          refine HN.then ?_
          refine H.cond _ rfl (fun t5 => ?_) (fun t5 => ?_)
          · simp only [decide_eq_true_eq] at t5
            have hkd : x.kind = 3 := claimT_74 t5
            refine H.keep [(2, _), (8, _), (9, _), (10, _), (80, .agg [.int .i64 x.k].toArray)] ⟨rfl, rfl, rfl, rfl, congrArg some ((if_pos t5).trans (by simp [claimA, hkd])), trivial⟩ ?_
            refine H.keep [(8, _), (9, _), (80, _)] ⟨rfl, rfl, rfl, trivial⟩ ?_
            refine H.seq ?_
            refine H.region ?_
            refine H.allocA Tryz.zeroValue74 (by decide) (fun b16 hb16 => ?_)
            refine H.storeA 0 rfl rfl rfl Tryz.sizeOf74 rfl rfl ?_
            refine HN.done ?_
            refine HN.keep [(8, _), (9, _), (16, _)] ⟨rfl, rfl, rfl, trivial⟩ ?_
            refine HN.then ?_
            refine H.seq ?_
            refine H.region ?_
            refine H.q (yl_move rfl) rfl rfl (by decide) ?_
            refine H.q (yl_catL rfl rfl (by simp only [List.length_append, List.length_cons, List.length_nil]; omega)) rfl rfl (by decide) ?_
            refine H.q (yl_move rfl) rfl rfl (by decide) ?_
            refine H.q (yl_fieldAddr _ fa74_0 rfl) rfl rfl (by decide) ?_
            refine H.q (yl_load Tryz.isAgg2 rfl (fun w hw => hw.cell 0 rfl rfl)) rfl rfl (by decide) ?_
            refine H.q (yl_callv (xs := [.tmp 85]) Tryz.call37 (stab_hp _ _ _ _) rfl rfl (fun w hw => write1_v x.k w hsk (hvars.ext hw.ext))) rfl rfl (by decide) ?_
            refine H.q (yl_catL rfl rfl (by simp only [List.length_append, List.length_cons, List.length_nil]; omega)) rfl rfl (by decide) ?_
            refine H.q (yl_assign rfl) rfl rfl (by decide) ?_
            refine H.q (yl_assign rfl) rfl rfl (by decide) ?_
            refine HN.done ?_
            refine HN.keep [(4, _), (5, _)] ⟨rfl, rfl, trivial⟩ ?_
            refine HN.then ?_
            refine HR.ret ?_
            refine HR.block ?_
            refine HR.then ?_
            refine HR.ret2 _ _ Tryz.results12 rfl rfl (fun w hw => ?_)
            exact ⟨by simp [textE, hkd], hw.ext⟩
          · simp only [decide_eq_false_iff_not] at t5
            refine H.keep [(2, _), (8, _), (9, _), (10, _), (47, _)] ⟨rfl, rfl, rfl, rfl, rfl, trivial⟩ ?_
            refine H.seq ?_
            refine H.region ?_
            refine H.q (yl_typeAssert Tryz.underlying75 rfl Tryz.zeroValue75 rfl) rfl rfl (by decide) ?_
            refine H.q (yl_extract _ rfl rfl) rfl rfl (by decide) ?_
            refine H.q (yl_extract _ rfl rfl) rfl rfl (by decide) ?_
            refine HN.done ?_
            refine HN.keep [(2, _), (8, _), (9, _), (10, _), (47, _), (89, _), (90, _)] ⟨rfl, rfl, rfl, rfl, rfl, rfl, rfl, trivial⟩ ?_
            refine HN.then ?_
            refine H.cond _ rfl (fun t6 => ?_) (fun t6 => ?_)
            · simp only [decide_eq_true_eq] at t6
              have hkd : x.kind = 4 := claimT_75 t6
              refine H.keep [(2, _), (8, _), (9, _), (10, _), (90, .agg [.int .i64 x.k].toArray)] ⟨rfl, rfl, rfl, rfl, congrArg some ((if_pos t6).trans (by simp [claimA, hkd])), trivial⟩ ?_
              refine H.keep [(8, _), (9, _), (90, _)] ⟨rfl, rfl, rfl, trivial⟩ ?_
              refine H.seq ?_
              refine H.region ?_
              refine H.allocA Tryz.zeroValue75 (by decide) (fun b17 hb17 => ?_)
              refine H.storeA 0 rfl rfl rfl Tryz.sizeOf75 rfl rfl ?_
              refine HN.done ?_
              refine HN.keep [(8, _), (9, _), (17, _)] ⟨rfl, rfl, rfl, trivial⟩ ?_
              refine HN.then ?_
              refine H.seq ?_
              refine H.region ?_
              refine H.q (yl_move rfl) rfl rfl (by decide) ?_
              refine H.q (yl_catL rfl rfl (by simp only [List.length_append, List.length_cons, List.length_nil]; omega)) rfl rfl (by decide) ?_
              refine H.q (yl_move rfl) rfl rfl (by decide) ?_
              refine H.q (yl_fieldAddr _ fa75_0 rfl) rfl rfl (by decide) ?_
              refine H.q (yl_load Tryz.isAgg2 rfl (fun w hw => hw.cell 0 rfl rfl)) rfl rfl (by decide) ?_
              refine H.q (yl_callv (xs := [.tmp 95]) Tryz.call37 (stab_hp _ _ _ _) rfl rfl (fun w hw => write1_v x.k w hsk (hvars.ext hw.ext))) rfl rfl (by decide) ?_
              refine H.q (yl_catL rfl rfl (by simp only [List.length_append, List.length_cons, List.length_nil]; omega)) rfl rfl (by decide) ?_
              refine H.q (yl_assign rfl) rfl rfl (by decide) ?_
              refine H.q (yl_assign rfl) rfl rfl (by decide) ?_
              refine HN.done ?_
              refine HN.keep [(4, _), (5, _)] ⟨rfl, rfl, trivial⟩ ?_
              refine HN.then ?_
              refine HR.ret ?_
              refine HR.block ?_
              refine HR.then ?_
              refine HR.ret2 _ _ Tryz.results12 rfl rfl (fun w hw => ?_)
              exact ⟨by simp [textE, hkd], hw.ext⟩
            · simp only [decide_eq_false_iff_not] at t6
              refine H.keep [(2, _), (8, _), (9, _), (10, _), (47, _)] ⟨rfl, rfl, rfl, rfl, rfl, trivial⟩ ?_
              refine H.seq ?_
              refine H.region ?_
              refine H.q (yl_typeAssert Tryz.underlying77 rfl Tryz.zeroValue77 rfl) rfl rfl (by decide) ?_
              refine H.q (yl_extract _ rfl rfl) rfl rfl (by decide) ?_
              refine H.q (yl_extract _ rfl rfl) rfl rfl (by decide) ?_
              refine HN.done ?_
              refine HN.keep [(2, _), (8, _), (9, _), (10, _), (47, _), (99, _), (100, _)] ⟨rfl, rfl, rfl, rfl, rfl, rfl, rfl, trivial⟩ ?_
              refine HN.then ?_
              refine H.cond _ rfl (fun t7 => ?_) (fun t7 => ?_)
              · simp only [decide_eq_true_eq] at t7
                have hkd : x.kind = 5 := claimT_77 t7
                refine H.keep [(2, _), (8, _), (9, _), (10, _), (100, .agg [].toArray)] ⟨rfl, rfl, rfl, rfl, congrArg some ((if_pos t7).trans (by simp [claimA, hkd])), trivial⟩ ?_
                refine H.keep [(9, _), (100, _)] ⟨rfl, rfl, trivial⟩ ?_
                refine H.seq ?_
                refine H.region ?_
                refine H.allocA Tryz.zeroValue77 (by decide) (fun b18 hb18 => ?_)
                refine H.storeA 0 rfl rfl rfl Tryz.sizeOf77 rfl rfl ?_
                refine HN.done ?_
                refine HN.keep [(9, _)] ⟨rfl, trivial⟩ ?_
                refine HN.then ?_
                refine H.seq ?_
                refine H.region ?_
                refine H.q (yl_move rfl) rfl rfl (by decide) ?_
                refine H.q (yl_catL rfl rfl (by simp only [List.length_append, List.length_cons, List.length_nil]; omega)) rfl rfl (by decide) ?_
                refine H.q (yl_assign rfl) rfl rfl (by decide) ?_
                refine H.q (yl_assign rfl) rfl rfl (by decide) ?_
                refine HN.done ?_
                refine HN.keep [(4, _), (5, _)] ⟨rfl, rfl, trivial⟩ ?_
                refine HN.then ?_
                refine HR.ret ?_
                refine HR.block ?_
                refine HR.then ?_
                refine HR.ret2 _ _ Tryz.results12 rfl rfl (fun w hw => ?_)
                exact ⟨by simp [textE, hkd], hw.ext⟩
              · simp only [decide_eq_false_iff_not] at t7
                refine H.keep [(2, _), (8, _), (9, _), (10, _), (47, _)] ⟨rfl, rfl, rfl, rfl, rfl, trivial⟩ ?_
                refine H.seq ?_
                refine H.region ?_
                refine H.q (yl_typeAssert Tryz.underlying79 rfl Tryz.zeroValue79 rfl) rfl rfl (by decide) ?_
                refine H.q (yl_extract _ rfl rfl) rfl rfl (by decide) ?_
                refine H.q (yl_extract _ rfl rfl) rfl rfl (by decide) ?_
                refine HN.done ?_
                refine HN.keep [(2, _), (8, _), (9, _), (10, _), (47, _), (104, _), (105, _)] ⟨rfl, rfl, rfl, rfl, rfl, rfl, rfl, trivial⟩ ?_
                refine HN.then ?_
                refine H.cond _ rfl (fun t8 => ?_) (fun t8 => ?_)
                · simp only [decide_eq_true_eq] at t8
                  have hkd : x.kind = 6 := claimT_79 t8
                  refine H.keep [(2, _), (8, _), (9, _), (10, _), (105, .agg [.int .i64 x.k, .int .i64 x.m].toArray)] ⟨rfl, rfl, rfl, rfl, congrArg some ((if_pos t8).trans (by simp [claimA, hkd])), trivial⟩ ?_
                  refine H.keep [(8, _), (9, _), (105, _)] ⟨rfl, rfl, rfl, trivial⟩ ?_
                  refine H.seq ?_
                  refine H.region ?_
                  refine H.allocA Tryz.zeroValue79 (by decide) (fun b19 hb19 => ?_)
                  refine H.storeA 0 rfl rfl rfl Tryz.sizeOf79 rfl rfl ?_
                  refine HN.done ?_
                  refine HN.keep [(8, _), (9, _), (19, _)] ⟨rfl, rfl, rfl, trivial⟩ ?_
                  refine HN.then ?_
                  refine H.seq ?_
                  refine H.regionQ Tryz.mixed (by kernel_rfl) (stab_hp _ _ _ _) ?_
                  refine G.q (yl_move rfl) rfl rfl (by decide) ?_
                  refine G.q (yl_catL rfl rfl (by simp only [List.length_append, List.length_cons, List.length_nil]; omega)) rfl rfl (by decide) ?_
                  refine G.q (yl_move rfl) rfl rfl (by decide) ?_
                  refine G.q (yl_fieldAddr _ fa79_1 rfl) rfl rfl (by decide) ?_
                  refine G.q (yl_load Tryz.isAgg2 rfl (fun w hw => hw.cell 0 rfl rfl)) rfl rfl (by decide) ?_
                  refine G.q (yl_callv (xs := [.tmp 110]) Tryz.call37 (stab_hp _ _ _ _) rfl rfl (fun w hw => write1_v x.m w hsm (hvars.ext hw.ext))) rfl rfl (by decide) ?_
                  refine G.q (yl_catL rfl rfl (by simp only [List.length_append, List.length_cons, List.length_nil]; omega)) rfl rfl (by decide) ?_
                  refine G.q (yl_catL rfl rfl (by simp only [List.length_append, List.length_cons, List.length_nil]; omega)) rfl rfl (by decide) ?_
                  refine G.q (yl_move rfl) rfl rfl (by decide) ?_
                  refine G.q (yl_fieldAddr _ fa79_0 rfl) rfl rfl (by decide) ?_
                  refine G.q (yl_load Tryz.isAgg2 rfl (fun w hw => hw.cell 0 rfl rfl)) rfl rfl (by decide) ?_
                  refine G.q (yl_callv (xs := [.tmp 116]) Tryz.call37 (stab_hp _ _ _ _) rfl rfl (fun w hw => write1_v x.k w hsk (hvars.ext hw.ext))) rfl rfl (by decide) ?_
                  refine G.q (yl_catL rfl rfl (by simp only [List.length_append, List.length_cons, List.length_nil]; omega)) rfl rfl (by decide) ?_
                  refine G.q (yl_assign rfl) rfl rfl (by decide) ?_
                  refine G.q (yl_assign rfl) rfl rfl (by decide) ?_
                  refine HN.doneG ?_
                  refine HN.keep [(4, _), (5, _)] ⟨rfl, rfl, trivial⟩ ?_
                  refine HN.then ?_
                  refine HR.ret ?_
                  refine HR.block ?_
                  refine HR.then ?_
                  refine HR.ret2 _ _ Tryz.results12 rfl rfl (fun w hw => ?_)
                  exact ⟨by simp [textE, hkd], hw.ext⟩
                · simp only [decide_eq_false_iff_not] at t8
                  refine H.keep [(2, _), (8, _), (9, _), (10, _), (47, _)] ⟨rfl, rfl, rfl, rfl, rfl, trivial⟩ ?_
                  refine H.seq ?_
                  refine H.region ?_
                  refine H.q (yl_typeAssert Tryz.underlying80 rfl Tryz.zeroValue80 rfl) rfl rfl (by decide) ?_
                  refine H.q (yl_extract _ rfl rfl) rfl rfl (by decide) ?_
                  refine H.q (yl_extract _ rfl rfl) rfl rfl (by decide) ?_
                  refine HN.done ?_
                  refine HN.keep [(2, _), (8, _), (9, _), (10, _), (47, _), (120, _), (121, _)] ⟨rfl, rfl, rfl, rfl, rfl, rfl, rfl, trivial⟩ ?_
                  refine HN.then ?_
                  refine H.cond _ rfl (fun t9 => ?_) (fun t9 => ?_)
                  · simp only [decide_eq_true_eq] at t9
                    have hkd : x.kind = 7 := claimT_80 t9
                    refine H.keep [(2, _), (8, _), (9, _), (10, _), (121, .agg [].toArray)] ⟨rfl, rfl, rfl, rfl, congrArg some ((if_pos t9).trans (by simp [claimA, hkd])), trivial⟩ ?_
                    refine H.keep [(9, _), (10, _), (121, _)] ⟨rfl, rfl, rfl, trivial⟩ ?_
                    refine H.seq ?_
                    refine H.region ?_
                    refine H.allocA Tryz.zeroValue80 (by decide) (fun b20 hb20 => ?_)
                    refine H.storeA 0 rfl rfl rfl Tryz.sizeOf80 rfl rfl ?_
                    refine HN.done ?_
                    refine HN.keep [(9, _), (10, _)] ⟨rfl, rfl, trivial⟩ ?_
                    refine HN.then ?_
                    refine H.seq ?_
                    refine H.region ?_
                    refine H.q (yl_move rfl) rfl rfl (by decide) ?_
                    refine H.q (yl_catL rfl rfl (by simp only [List.length_append, List.length_cons, List.length_nil]; omega)) rfl rfl (by decide) ?_
                    refine H.q (yl_move rfl) rfl rfl (by decide) ?_
                    refine H.q (yl_catL rfl rfl (by simp only [List.length_append, List.length_cons, List.length_nil]; omega)) rfl rfl (by decide) ?_
                    refine H.q (yl_assign rfl) rfl rfl (by decide) ?_
                    refine H.q (yl_assign rfl) rfl rfl (by decide) ?_
                    refine HN.done ?_
                    refine HN.keep [(4, _), (5, _)] ⟨rfl, rfl, trivial⟩ ?_
                    refine HN.then ?_
                    refine HR.ret ?_
                    refine HR.block ?_
                    refine HR.then ?_
                    refine HR.ret2 _ _ Tryz.results12 rfl rfl (fun w hw => ?_)
                    exact ⟨by simp [textE, hkd], hw.ext⟩
                  · simp only [decide_eq_false_iff_not] at t9
                    refine H.keep [(2, _), (8, _), (9, _), (10, _), (47, _)] ⟨rfl, rfl, rfl, rfl, rfl, trivial⟩ ?_
                    refine H.seq ?_
                    refine H.region ?_
                    refine H.q (yl_typeAssert Tryz.underlying81 rfl Tryz.zeroValue81 rfl) rfl rfl (by decide) ?_
                    refine H.q (yl_extract _ rfl rfl) rfl rfl (by decide) ?_
                    refine H.q (yl_extract _ rfl rfl) rfl rfl (by decide) ?_
                    refine HN.done ?_
                    refine HN.keep [(2, _), (8, _), (9, _), (10, _), (47, _), (127, _), (128, _)] ⟨rfl, rfl, rfl, rfl, rfl, rfl, rfl, trivial⟩ ?_
                    refine HN.then ?_
                    refine H.cond _ rfl (fun t10 => ?_) (fun t10 => ?_)
                    · simp only [decide_eq_true_eq] at t10
                      have hkd : x.kind = 8 := claimT_81 t10
                      refine H.keep [(2, _), (8, _), (9, _), (10, _), (128, .agg [].toArray)] ⟨rfl, rfl, rfl, rfl, congrArg some ((if_pos t10).trans (by simp [claimA, hkd])), trivial⟩ ?_
                      refine H.keep [(9, _), (10, _), (128, _)] ⟨rfl, rfl, rfl, trivial⟩ ?_
                      refine H.seq ?_
                      refine H.region ?_
                      refine H.allocA Tryz.zeroValue81 (by decide) (fun b21 hb21 => ?_)
                      refine H.storeA 0 rfl rfl rfl Tryz.sizeOf81 rfl rfl ?_
                      refine HN.done ?_
                      refine HN.keep [(9, _), (10, _)] ⟨rfl, rfl, trivial⟩ ?_
                      refine HN.then ?_
                      refine H.seq ?_
                      refine H.region ?_
                      refine H.q (yl_move rfl) rfl rfl (by decide) ?_
                      refine H.q (yl_catL rfl rfl (by simp only [List.length_append, List.length_cons, List.length_nil]; omega)) rfl rfl (by decide) ?_
                      refine H.q (yl_move rfl) rfl rfl (by decide) ?_
                      refine H.q (yl_catL rfl rfl (by simp only [List.length_append, List.length_cons, List.length_nil]; omega)) rfl rfl (by decide) ?_
                      refine H.q (yl_assign rfl) rfl rfl (by decide) ?_
                      refine H.q (yl_assign rfl) rfl rfl (by decide) ?_
                      refine HN.done ?_
                      refine HN.keep [(4, _), (5, _)] ⟨rfl, rfl, trivial⟩ ?_
                      refine HN.then ?_
                      refine HR.ret ?_
                      refine HR.block ?_
                      refine HR.then ?_
                      refine HR.ret2 _ _ Tryz.results12 rfl rfl (fun w hw => ?_)
                      exact ⟨by simp [textE, hkd], hw.ext⟩
                    · simp only [decide_eq_false_iff_not] at t10
                      refine H.keep [(2, _), (8, _), (9, _), (10, _), (47, _)] ⟨rfl, rfl, rfl, rfl, rfl, trivial⟩ ?_
                      refine H.seq ?_
                      refine H.region ?_
                      refine H.q (yl_typeAssert Tryz.underlying82 rfl Tryz.zeroValue82 rfl) rfl rfl (by decide) ?_
                      refine H.q (yl_extract _ rfl rfl) rfl rfl (by decide) ?_
                      refine H.q (yl_extract _ rfl rfl) rfl rfl (by decide) ?_
                      refine HN.done ?_
                      refine HN.keep [(2, _), (8, _), (9, _), (10, _), (47, _), (134, _), (135, _)] ⟨rfl, rfl, rfl, rfl, rfl, rfl, rfl, trivial⟩ ?_
                      refine HN.then ?_
                      refine H.cond _ rfl (fun t11 => ?_) (fun t11 => ?_)
                      · simp only [decide_eq_true_eq] at t11
                        have hkd : x.kind = 9 := claimT_82 t11
                        refine H.keep [(2, _), (8, _), (9, _), (10, _), (135, .agg [].toArray)] ⟨rfl, rfl, rfl, rfl, congrArg some ((if_pos t11).trans (by simp [claimA, hkd])), trivial⟩ ?_
                        refine H.keep [(9, _), (10, _), (135, _)] ⟨rfl, rfl, rfl, trivial⟩ ?_
                        refine H.seq ?_
                        refine H.region ?_
                        refine H.allocA Tryz.zeroValue82 (by decide) (fun b22 hb22 => ?_)
                        refine H.storeA 0 rfl rfl rfl Tryz.sizeOf82 rfl rfl ?_
                        refine HN.done ?_
                        refine HN.keep [(9, _), (10, _)] ⟨rfl, rfl, trivial⟩ ?_
                        refine HN.then ?_
                        refine H.seq ?_
                        refine H.region ?_
                        refine H.q (yl_move rfl) rfl rfl (by decide) ?_
                        refine H.q (yl_catL rfl rfl (by simp only [List.length_append, List.length_cons, List.length_nil]; omega)) rfl rfl (by decide) ?_
                        refine H.q (yl_move rfl) rfl rfl (by decide) ?_
                        refine H.q (yl_catL rfl rfl (by simp only [List.length_append, List.length_cons, List.length_nil]; omega)) rfl rfl (by decide) ?_
                        refine H.q (yl_assign rfl) rfl rfl (by decide) ?_
                        refine H.q (yl_assign rfl) rfl rfl (by decide) ?_
                        refine HN.done ?_
                        refine HN.keep [(4, _), (5, _)] ⟨rfl, rfl, trivial⟩ ?_
                        refine HN.then ?_
                        refine HR.ret ?_
                        refine HR.block ?_
                        refine HR.then ?_
                        refine HR.ret2 _ _ Tryz.results12 rfl rfl (fun w hw => ?_)
                        exact ⟨by simp [textE, hkd], hw.ext⟩
                      · simp only [decide_eq_false_iff_not] at t11
                        refine H.keep [(2, _), (8, _), (9, _), (10, _), (47, _)] ⟨rfl, rfl, rfl, rfl, rfl, trivial⟩ ?_
                        refine H.seq ?_
                        refine H.region ?_
                        refine H.q (yl_typeAssert Tryz.underlying83 rfl Tryz.zeroValue83 rfl) rfl rfl (by decide) ?_
                        refine H.q (yl_extract _ rfl rfl) rfl rfl (by decide) ?_
                        refine H.q (yl_extract _ rfl rfl) rfl rfl (by decide) ?_
                        refine HN.done ?_
                        refine HN.keep [(2, _), (8, _), (9, _), (10, _), (141, _), (142, _)] ⟨rfl, rfl, rfl, rfl, rfl, rfl, trivial⟩ ?_
                        refine HN.then ?_
                        refine H.cond _ rfl (fun t12 => ?_) (fun t12 => ?_)
                        · simp only [decide_eq_true_eq] at t12
                          have hkd : x.kind = 10 := claimT_83 t12
                          refine H.keep [(2, _), (8, _), (9, _), (10, _), (142, .agg [].toArray)] ⟨rfl, rfl, rfl, rfl, congrArg some ((if_pos t12).trans (by simp [claimA, hkd])), trivial⟩ ?_
                          refine H.keep [(9, _), (10, _), (142, _)] ⟨rfl, rfl, rfl, trivial⟩ ?_
                          refine H.seq ?_
                          refine H.region ?_
                          refine H.allocA Tryz.zeroValue83 (by decide) (fun b23 hb23 => ?_)
                          refine H.storeA 0 rfl rfl rfl Tryz.sizeOf83 rfl rfl ?_
                          refine HN.done ?_
                          refine HN.keep [(9, _), (10, _)] ⟨rfl, rfl, trivial⟩ ?_
                          refine HN.then ?_
                          refine H.seq ?_
                          refine H.region ?_
                          refine H.q (yl_move rfl) rfl rfl (by decide) ?_
                          refine H.q (yl_catL rfl rfl (by simp only [List.length_append, List.length_cons, List.length_nil]; omega)) rfl rfl (by decide) ?_
                          refine H.q (yl_move rfl) rfl rfl (by decide) ?_
                          refine H.q (yl_catL rfl rfl (by simp only [List.length_append, List.length_cons, List.length_nil]; omega)) rfl rfl (by decide) ?_
                          refine H.q (yl_assign rfl) rfl rfl (by decide) ?_
                          refine H.q (yl_assign rfl) rfl rfl (by decide) ?_
                          refine HN.done ?_
                          refine HN.keep [(4, _), (5, _)] ⟨rfl, rfl, trivial⟩ ?_
                          refine HN.then ?_
                          refine HR.ret ?_
                          refine HR.block ?_
                          refine HR.then ?_
                          refine HR.ret2 _ _ Tryz.results12 rfl rfl (fun w hw => ?_)
                          exact ⟨by simp [textE, hkd], hw.ext⟩
                        · simp only [decide_eq_false_iff_not] at t12
                          have hkd : x.kind = 11 := by
                            rcases kind_cases hk with h | h | h | h | h | h | h | h | h | h | h
                            · exact absurd (show claimT x.kind = 71 by rw [h]; rfl) t2
                            · exact absurd (show claimT x.kind = 73 by rw [h]; rfl) t3
                            · exact absurd (show claimT x.kind = 74 by rw [h]; rfl) t5
                            · exact absurd (show claimT x.kind = 75 by rw [h]; rfl) t6
                            · exact absurd (show claimT x.kind = 77 by rw [h]; rfl) t7
                            · exact absurd (show claimT x.kind = 79 by rw [h]; rfl) t8
                            · exact absurd (show claimT x.kind = 80 by rw [h]; rfl) t9
                            · exact absurd (show claimT x.kind = 81 by rw [h]; rfl) t10
                            · exact absurd (show claimT x.kind = 82 by rw [h]; rfl) t11
                            · exact absurd (show claimT x.kind = 83 by rw [h]; rfl) t12
                            · exact h
                          refine H.keep [(2, _), (8, _), (9, _), (10, _)] ⟨rfl, rfl, rfl, rfl, trivial⟩ ?_
                          refine HN.skip ?_
                          refine HN.block ?_
                          refine HN.then ?_
                          refine H.seq ?_
                          refine H.regionQ Tryz.mixed (by kernel_rfl) (stab_hp _ _ _ _) ?_
                          refine G.q (yl_move rfl) rfl rfl (by decide) ?_
                          refine G.q (yl_catL rfl rfl (by simp only [List.length_append, List.length_cons, List.length_nil]; omega)) rfl rfl (by decide) ?_
                          refine G.q (yl_move rfl) rfl rfl (by decide) ?_
                          refine G.q (yl_fieldAddr _ fa25_3 rfl) rfl rfl (by decide) ?_
                          refine G.q (yl_load Tryz.isAgg2 rfl (fun w hw => hw.cell 0 rfl rfl)) rfl rfl (by decide) ?_
                          refine G.q (yl_callv (xs := [.tmp 151]) Tryz.call37 (stab_hp _ _ _ _) rfl rfl (fun w hw => write1_v x.k w hsk (hvars.ext hw.ext))) rfl rfl (by decide) ?_
                          refine G.q (yl_catL rfl rfl (by simp only [List.length_append, List.length_cons, List.length_nil]; omega)) rfl rfl (by decide) ?_
                          refine G.q (yl_catL rfl rfl (by simp only [List.length_append, List.length_cons, List.length_nil]; omega)) rfl rfl (by decide) ?_
                          refine G.q (yl_move rfl) rfl rfl (by decide) ?_
                          refine G.q (yl_catL rfl rfl (by simp only [List.length_append, List.length_cons, List.length_nil]; omega)) rfl rfl (by decide) ?_
                          refine G.q (yl_catL rfl rfl (by simp only [List.length_append, List.length_cons, List.length_nil]; omega)) rfl rfl (by decide) ?_
                          refine G.q (yl_move rfl) rfl rfl (by decide) ?_
                          refine G.q (yl_fieldAddr _ fa25_4 rfl) rfl rfl (by decide) ?_
                          refine G.q (yl_load Tryz.isAgg2 rfl (fun w hw => hw.cell 0 rfl rfl)) rfl rfl (by decide) ?_
                          refine G.q (yl_callv (xs := [.tmp 160]) Tryz.call37 (stab_hp _ _ _ _) rfl rfl (fun w hw => write1_v x.m w hsm (hvars.ext hw.ext))) rfl rfl (by decide) ?_
                          refine G.q (yl_catL rfl rfl (by simp only [List.length_append, List.length_cons, List.length_nil]; omega)) rfl rfl (by decide) ?_
                          refine G.q (yl_assign rfl) rfl rfl (by decide) ?_
                          refine G.q (yl_assign rfl) rfl rfl (by decide) ?_
                          refine HN.doneG ?_
                          refine HN.keep [(4, _), (5, _)] ⟨rfl, rfl, trivial⟩ ?_
                          refine HN.then ?_
                          refine HR.ret ?_
                          refine HR.ret2 _ _ Tryz.results12 rfl rfl (fun w hw => ?_)
                          exact ⟨by simp [textE, hkd], hw.ext⟩

end Go.Proofs.YtgbgddmbooaddaaGreatDoor

namespace Go.Proofs.YtgbgddmbooaddaaGreatDoor
open Go.RowKit


theorem i64_u8 (a : Nat) : (IntKind.i64).wrap ((a : Int)) = a ∨ 9223372036854775807 < a := by
  by_cases h : a ≤ 9223372036854775807
  · exact .inl (IntWalk.i64_in _ (by omega))
  · exact .inr (by omega)
theorem u8_lt (c : UInt8) : c.toNat ≤ 255 := by have := c.toNat_lt; omega
theorem dropD {s : List UInt8} {k : Nat} (h : k < s.length) : s.drop k = s.getD k 0 :: s.drop (k + 1) := by
  rw [drop_cons h]
  simp [List.getD, h]

set_option maxRecDepth 100000 in
theorem numL_any (s : List UInt8) (w0 : World) (hs : s.length ≤ 1000) (hvars : Vars w0) : Calls Tryz.prog 76 #[strV s] w0 fun e w' => e = .returned (.tuple #[.int .i64 (numL s).1, .bool (numL s).2]) ∧ Ext w0 w' := by
  refine enterA 20 Tryz.func76 rfl Tryz.ntmps76 rfl (Hp w0 [] [] []) (Hp.init _) ?_
  refine H.seq ?_
  refine H.region ?_
  refine H.q (yl_assign rfl) rfl rfl (by decide) ?_
  refine H.q (yl_assign rfl) rfl rfl (by decide) ?_
  refine HN.done ?_
  refine HN.keep [(0, _)] ⟨rfl, trivial⟩ ?_
  refine HN.then ?_
  refine H.seq ?_
  refine H.region ?_
  refine H.q (yl_move rfl) rfl rfl (by decide) ?_
  refine H.call (xs := [.tmp 7, .const (.int .i64 10), .const (.int .i64 64)]) (fun z : Bool × Nat => .tuple #[.int .i64 (numL s).1, if z.1 = true then .nilIface else .iface 187 (.pointer (some ⟨z.2, 0, none⟩))]) (fun z => (z.1 = true → Lib.parseIntB 64 s = .ok (numL s).1) ∧ (z.1 = false → (numL s).2 = false)) (fun _ => []) (fun _ => []) Tryz.call108 rfl (by decide) (fun w hw => (parseInt_any s w hs (hvars.ext hw.ext)).mono fun e w' h => ?_) (fun z hz => ?_)
  · obtain ⟨z, h1, h2, h3, h4⟩ := h
    exact ⟨z, h1, ⟨h2, h3⟩, Hp.ofExt h4, fun p hp => by cases hp⟩
  obtain ⟨b, N⟩ := z
  obtain ⟨hz1, hz2⟩ := hz
  simp only at hz1 hz2
  refine H.q (yl_move rfl) rfl rfl (by decide) ?_
  refine H.q (yl_extract _ rfl rfl) rfl rfl (by decide) ?_
  refine H.q (yl_extract _ rfl rfl) rfl rfl (by decide) ?_
  refine H.q (yl_assign rfl) rfl rfl (by decide) ?_
  refine H.q (yl_assign rfl) rfl rfl (by decide) ?_
  refine HN.done ?_
  refine HN.keep [(0, _), (4, _), (5, _)] ⟨rfl, rfl, rfl, trivial⟩ ?_
  refine HN.then ?_
  refine H.seq ?_
  refine H.region ?_
  refine H.q (yl_move rfl) rfl rfl (by decide) ?_
  refine H.q (yl_move rfl) rfl rfl (by decide) ?_
  refine H.q (yl_ifaceNil (c := b = true) (T := 187) (v := .pointer (some ⟨N, 0, none⟩)) Tryz.underlying157 rfl) rfl rfl (by decide) ?_
  refine H.q (yl_move rfl) rfl rfl (by decide) ?_
  refine H.qg (wn_t rfl rfl (by decide) rfl) (fun hg => yl_sub [(4, _)] ⟨rfl, trivial⟩ (yl_move rfl)) rfl (by decide) ?_
  refine H.qg (wn_t rfl rfl (by decide) rfl) (fun hg => yl_sub [(15, _)] ⟨slT rfl hg, trivial⟩ (yl_call (xs := [.tmp 15, .const (.int .i64 10)]) Tryz.call38 (stab_hp _ _ _ _) rfl (fun w hw => formatInt_any (numL s).1 w (parse_wide (hz1 (by simpa using hg))) (hvars.ext hw.ext)))) rfl (by decide) ?_
  refine H.qg (wn_t rfl rfl (by decide) rfl) (fun hg => yl_sub [(0, _)] ⟨rfl, trivial⟩ (yl_move rfl)) rfl (by decide) ?_
  refine H.qg (wn_t rfl rfl (by decide) rfl) (fun hg => yl_sub [(16, _), (17, _)] ⟨slT rfl hg, slT rfl hg, trivial⟩ (yl_seqlL rfl rfl)) rfl (by decide) ?_
  refine H.q (yl_and rfl rfl) rfl rfl (by decide) ?_
  refine H.q (yl_assign rfl) rfl rfl (by decide) ?_
  refine H.q (yl_assign rfl) rfl rfl (by decide) ?_
  refine HN.done ?_
  refine HN.keep [(2, _), (3, _)] ⟨rfl, rfl, trivial⟩ ?_
  refine HN.then ?_
  refine HR.ret ?_
  refine HR.ret2 _ _ Tryz.results76 rfl rfl (fun w hw => ?_)
  refine ⟨?_, hw.ext⟩
  cases b with
  | true =>
    have := numL_ok (hz1 rfl)
    have h2 : (numL s).2 = decide (Lib.itoa (numL s).1 = s) := by rw [this]
    rw [h2]
    rfl
  | false => rw [hz2 rfl]; rfl

set_option maxRecDepth 100000 in
theorem numR_any (s : List UInt8) (w0 : World) (hs : s.length ≤ 1000) : Calls Tryz.prog 77 #[strV s] w0 fun e w' => e = .returned (.tuple #[.int .i64 (numR s).1, .bool (numR s).2]) ∧ Ext w0 w' := by
  refine enterA 57 Tryz.func77 rfl Tryz.ntmps77 rfl (Hp w0 [] [] []) (Hp.init _) ?_
  refine H.seq ?_
  refine H.region ?_
  refine H.q (yl_assign rfl) rfl rfl (by decide) ?_
  refine H.q (yl_assign rfl) rfl rfl (by decide) ?_
  refine HN.done ?_
  refine HN.keep [(0, _)] ⟨rfl, trivial⟩ ?_
  refine HN.then ?_
  refine H.seq ?_
  refine H.region ?_
  refine H.q (yl_assign rfl) rfl rfl (by decide) ?_
  refine H.q (yl_assign rfl) rfl rfl (by decide) ?_
  refine HN.done ?_
  refine HN.keep [(0, _), (4, _), (5, _)] ⟨rfl, rfl, rfl, trivial⟩ ?_
  refine HN.then ?_
  refine H.seqCut (α := Unit) (fun _ => [(0, strV s), (4, .int .i64 0), (5, .int .i64 (if negB s then 1 else 0))]) (fun _ => Hp w0 [] [] []) ?_ (fun _ => ?_)
  · refine H.seq ?_
    refine H.region ?_
    refine H.q (yl_move rfl) rfl rfl (by decide) ?_
    refine H.q (yl_slenL rfl Tryz.underlying9 rfl) rfl rfl (by decide) ?_
    refine H.q (yl_gtr rfl rfl) rfl rfl (by decide) ?_
    refine H.q (yl_move rfl) rfl rfl (by decide) ?_
    refine H.qg (wn_t rfl rfl (by decide) rfl) (fun hg => yl_sub [(0, _)] ⟨rfl, trivial⟩ (yl_move rfl)) rfl (by decide) ?_
    refine H.qg (wn_t rfl rfl (by decide) rfl) (fun hg => yl_sub [(11, _)] ⟨slT rfl hg, trivial⟩ (yl_six 0 Tryz.underlying9 rfl rfl rfl (by simp only [decide_eq_true_eq] at hg; omega))) rfl (by decide) ?_
    refine H.qg (wn_t rfl rfl (by decide) rfl) (fun hg => yl_sub [(12, _)] ⟨slT rfl hg, trivial⟩ (yl_eql rfl rfl)) rfl (by decide) ?_
    refine H.q (yl_and rfl rfl) rfl rfl (by decide) ?_
    refine HN.done ?_
    refine HN.keep [(0, _), (4, _), (5, _), (14, _)] ⟨rfl, rfl, rfl, rfl, trivial⟩ ?_
    refine HN.then ?_
    refine H.cond _ rfl (fun t0 => ?_) (fun t0 => ?_)
    · refine H.keep [(0, _), (4, _)] ⟨rfl, rfl, trivial⟩ ?_
      refine H.region ?_
      refine H.q (yl_assign rfl) rfl rfl (by decide) ?_
      refine HN.done ?_
      refine HN.keep [(0, _), (4, _), (5, _)] ⟨rfl, rfl, rfl, trivial⟩ ?_
      refine HN.then ?_
      exact H.at' () ⟨rfl, rfl, by rw [if_pos (show negB s = true from t0)]; rfl, trivial⟩ (fun w hw => hw)
    · refine H.keep [(0, _), (4, _), (5, _)] ⟨rfl, rfl, rfl, trivial⟩ ?_
      refine HN.skip ?_
      refine HN.then ?_
      exact H.at' () ⟨rfl, rfl, by rw [if_neg (show ¬ negB s = true by rw [show negB s = false from t0]; decide)]; rfl, trivial⟩ (fun w hw => hw)
  · refine H.seq ?_
    refine H.seq ?_
    refine H.region ?_
    refine H.q (yl_move rfl) rfl rfl (by decide) ?_
    refine H.q (yl_assign rfl) rfl rfl (by decide) ?_
    refine HN.done ?_
    refine HN.keep [(0, _), (4, _), (5, _), (6, _)] ⟨rfl, rfl, rfl, rfl, trivial⟩ ?_
    refine HN.then ?_
    refine H.block ?_
    have hi : (if negB s then 1 else 0) ≤ s.length := by
      by_cases hn : negB s = true
      · rw [if_pos hn]
        simp only [negB, Bool.and_eq_true, decide_eq_true_eq] at hn
        omega
      · rw [if_neg hn]; omega
    refine H.loop (fun z : Nat × Int => [(0, strV s), (4, .int .i64 z.2), (5, .int .i64 (if negB s then 1 else 0)), (6, .int .i64 (z.1 : Int))]) (fun z => z.1 ≤ s.length ∧ 0 ≤ z.2 ∧ z.2 ≤ 21474836479 ∧ digsR (s.drop z.1) z.2 = digsR (s.drop (if negB s then 1 else 0)) 0) (fun _ => Hp w0 [] [] []) (fun z => s.length - z.1) (if negB s then 1 else 0, 0) ⟨hi, by simp, by simp, rfl⟩ ⟨rfl, rfl, rfl, by by_cases hn : negB s = true <;> simp only [hn, if_true, if_false, Bool.false_eq_true] <;> rfl, trivial⟩ (fun w hw => hw) (fun z hI => ?_)
    obtain ⟨k, m⟩ := z
    obtain ⟨hk0, hm0, hm1, hk1⟩ := hI
    simp only at hk0 hm0 hm1 hk1
    refine H.seq ?_
    refine H.seq ?_
    refine H.region ?_
    refine H.q (yl_move rfl) rfl rfl (by decide) ?_
    refine H.q (yl_move rfl) rfl rfl (by decide) ?_
    refine H.q (yl_slenL rfl Tryz.underlying9 rfl) rfl rfl (by decide) ?_
    refine H.q (yl_lss rfl rfl) rfl rfl (by decide) ?_
    refine HN.done ?_
    refine HN.keep [(0, _), (4, _), (5, _), (6, _), (19, _)] ⟨rfl, rfl, rfl, rfl, rfl, trivial⟩ ?_
    refine HN.then ?_
    refine H.cond _ rfl (fun t1 => ?_) (fun t1 => ?_)
    · simp only [decide_eq_true_eq] at t1; have hk : k < s.length := by omega
      rw [dropD hk, digsR] at hk1
      have hc8 := u8_lt (s.getD k 0)
      refine H.keep [(0, _), (4, _), (5, _), (6, _)] ⟨rfl, rfl, rfl, rfl, trivial⟩ ?_
      refine HN.skip ?_
      refine HN.then ?_
      refine H.seq ?_
      refine H.block ?_
      refine H.seq ?_
      refine H.seq ?_
      refine H.region ?_
      refine H.q (yl_move rfl) rfl rfl (by decide) ?_
      refine H.q (yl_move rfl) rfl rfl (by decide) ?_
      refine H.q (yl_six k Tryz.underlying9 rfl rfl rfl hk) rfl rfl (by decide) ?_
      refine H.q (yl_lss rfl rfl) rfl rfl (by decide) ?_
      refine H.q (yl_move rfl) rfl rfl (by decide) ?_
      refine H.qg (wn_f rfl rfl (by decide) rfl) (fun hg => yl_sub [(0, _)] ⟨rfl, trivial⟩ (yl_move rfl)) rfl (by decide) ?_
      refine H.qg (wn_f rfl rfl (by decide) rfl) (fun hg => yl_sub [(6, _)] ⟨rfl, trivial⟩ (yl_move rfl)) rfl (by decide) ?_
      refine H.qg (wn_f rfl rfl (by decide) rfl) (fun hg => yl_sub [(27, _), (28, _)] ⟨slT rfl hg, slT rfl hg, trivial⟩ (yl_six k Tryz.underlying9 rfl rfl rfl hk)) rfl (by decide) ?_
      refine H.qg (wn_f rfl rfl (by decide) rfl) (fun hg => yl_sub [(29, _)] ⟨slT rfl hg, trivial⟩ (yl_gtr rfl rfl)) rfl (by decide) ?_
      refine H.q (yl_or rfl rfl) rfl rfl (by decide) ?_
      refine H.q (yl_move rfl) rfl rfl (by decide) ?_
      refine H.qg (wn_f rfl rfl (by decide) rfl) (fun hg => yl_sub [(4, _)] ⟨rfl, trivial⟩ (yl_move rfl)) rfl (by decide) ?_
      refine H.qg (wn_f rfl rfl (by decide) rfl) (fun hg => yl_sub [(33, _)] ⟨slT rfl hg, trivial⟩ (yl_gtr rfl rfl)) rfl (by decide) ?_
      refine H.q (yl_or rfl rfl) rfl rfl (by decide) ?_
      refine HN.done ?_
      refine HN.keep [(0, _), (4, _), (5, _), (6, _), (35, _)] ⟨rfl, rfl, rfl, rfl, rfl, trivial⟩ ?_
      refine HN.then ?_
      refine H.cond _ rfl (fun t2 => ?_) (fun t2 => ?_)
      · rw [if_pos t2] at hk1
        refine H.keep [] trivial ?_
        refine H.seq ?_
        refine H.region ?_
        refine H.q (yl_assign rfl) rfl rfl (by decide) ?_
        refine H.q (yl_assign rfl) rfl rfl (by decide) ?_
        refine HN.done ?_
        refine HN.keep [(2, _), (3, _)] ⟨rfl, rfl, trivial⟩ ?_
        refine HN.then ?_
        refine HR.ret ?_
        refine HR.then ?_
        refine HR.block ?_
        refine HR.then ?_
        refine HR.then ?_
        refine HR.block ?_
        refine HR.then ?_
        refine HR.ret2 _ _ Tryz.results77 rfl rfl (fun w hw => ?_)
        exact ⟨by rw [numR, ← hk1], hw.ext⟩
      · rw [if_neg (by rw [t2]; decide)] at hk1
        simp only [Bool.or_eq_false_iff, decide_eq_false_iff_not] at t2
        refine H.keep [(0, _), (4, _), (5, _), (6, _)] ⟨rfl, rfl, rfl, rfl, trivial⟩ ?_
        refine HN.skip ?_
        refine HN.then ?_
        refine H.region ?_
        refine H.q (yl_move rfl) rfl rfl (by decide) ?_
        refine H.q (yl_mul rfl rfl _ rfl (by omega)) rfl rfl (by decide) ?_
        refine H.q (yl_move rfl) rfl rfl (by decide) ?_
        refine H.q (yl_move rfl) rfl rfl (by decide) ?_
        refine H.q (yl_six k Tryz.underlying9 rfl rfl rfl hk) rfl rfl (by decide) ?_
        refine H.q (yl_subK (((s.getD k 0).toNat : Int) - 48) rfl rfl (IntWalk.u8_in _ (by omega))) rfl rfl (by decide) ?_
        refine H.q (yl_convert (((s.getD k 0).toNat : Int) - 48) Tryz.underlying5 Tryz.underlying2 rfl (IntWalk.i64_in _ (by omega))) rfl rfl (by decide) ?_
        refine H.q (yl_add rfl rfl _ rfl (by omega)) rfl rfl (by decide) ?_
        refine H.q (yl_assign rfl) rfl rfl (by decide) ?_
        refine HN.done ?_
        refine HN.keep [(0, _), (4, _), (5, _), (6, _)] ⟨rfl, rfl, rfl, rfl, trivial⟩ ?_
        refine HN.block ?_
        refine HN.then ?_
        refine H.region ?_
        refine H.q (yl_move rfl) rfl rfl (by decide) ?_
        refine H.q (yl_add rfl rfl _ rfl (by omega)) rfl rfl (by decide) ?_
        refine H.q (yl_assign rfl) rfl rfl (by decide) ?_
        refine HN.done ?_
        refine HN.keep [(0, _), (4, _), (5, _), (6, _)] ⟨rfl, rfl, rfl, rfl, trivial⟩ ?_
        refine HN.then ?_
        exact H.at (k + 1, 10 * m + (((s.getD k 0).toNat : Int) - 48)) ⟨⟨by simp only; omega, by simp only; omega, by simp only; omega, hk1⟩, by simp only; omega⟩ ⟨rfl, rfl, rfl, rfl, trivial⟩ (fun w hw => hw)
    · simp only [decide_eq_false_iff_not] at t1
      rw [List.drop_eq_nil_of_le (by omega)] at hk1
      refine H.keep [(0, _), (4, _), (5, _)] ⟨rfl, rfl, rfl, trivial⟩ ?_
      refine HX.exit ?_
      refine HX.then ?_
      refine HX.then ?_
      refine HX.hit ?_
      refine HN.then ?_
      refine H.seqCut (α := Unit) (fun _ => [(0, strV s), (4, .int .i64 (if negB s then -m else m)), (5, .int .i64 (if negB s then 1 else 0))]) (fun _ => Hp w0 [] [] []) ?_ (fun _ => ?_)
      · refine H.seq ?_
        refine H.region ?_
        refine H.q (yl_move rfl) rfl rfl (by decide) ?_
        refine H.q (yl_eql rfl rfl) rfl rfl (by decide) ?_
        refine HN.done ?_
        refine HN.keep [(0, _), (4, _), (5, _), (45, _)] ⟨rfl, rfl, rfl, rfl, trivial⟩ ?_
        refine HN.then ?_
        refine H.cond _ rfl (fun t3 => ?_) (fun t3 => ?_)
        · have hn : negB s = true := by
            by_cases hn : negB s = true
            · exact hn
            · rw [if_neg hn] at t3; simp at t3
          refine H.keep [(0, _), (4, _), (5, _)] ⟨rfl, rfl, rfl, trivial⟩ ?_
          refine H.region ?_
          refine H.q (yl_move rfl) rfl rfl (by decide) ?_
          refine H.q (yl_neg rfl (by omega)) rfl rfl (by decide) ?_
          refine H.q (yl_assign rfl) rfl rfl (by decide) ?_
          refine HN.done ?_
          refine HN.keep [(0, _), (4, _), (5, _)] ⟨rfl, rfl, rfl, trivial⟩ ?_
          refine HN.then ?_
          exact H.at' () ⟨rfl, by simp only [if_pos hn]; rfl, rfl, trivial⟩ (fun w hw => hw)
        · have hn : ¬ negB s = true := fun hn => by rw [if_pos hn] at t3; simp at t3
          refine H.keep [(0, _), (4, _), (5, _)] ⟨rfl, rfl, rfl, trivial⟩ ?_
          refine HN.skip ?_
          refine HN.then ?_
          exact H.at' () ⟨rfl, by simp only [if_neg hn]; rfl, rfl, trivial⟩ (fun w hw => hw)
      · refine H.seq ?_
        refine H.region ?_
        refine H.q (yl_move rfl) rfl rfl (by decide) ?_
        refine H.q (yl_move rfl) rfl rfl (by decide) ?_
        refine H.q (yl_slenL rfl Tryz.underlying9 rfl) rfl rfl (by decide) ?_
        refine H.q (yl_move rfl) rfl rfl (by decide) ?_
        refine H.q (yl_gtr rfl rfl) rfl rfl (by decide) ?_
        refine H.q (yl_move rfl) rfl rfl (by decide) ?_
        refine H.qg (wn_t rfl rfl (by decide) rfl) (fun hg => yl_sub [(4, _)] ⟨rfl, trivial⟩ (yl_move rfl)) rfl (by decide) ?_
        refine H.qg (wn_t rfl rfl (by decide) rfl) (fun hg => yl_sub [(54, _)] ⟨slT rfl hg, trivial⟩ (yl_call (xs := [.tmp 54]) Tryz.call48 (stab_hp _ _ _ _) rfl (fun w hw => plain_any _ w))) rfl (by decide) ?_
        refine H.q (yl_and rfl rfl) rfl rfl (by decide) ?_
        refine H.q (yl_assign rfl) rfl rfl (by decide) ?_
        refine H.q (yl_assign rfl) rfl rfl (by decide) ?_
        refine HN.done ?_
        refine HN.keep [(2, _), (3, _)] ⟨rfl, rfl, trivial⟩ ?_
        refine HN.then ?_
        refine HR.ret ?_
        refine HR.ret2 _ _ Tryz.results77 rfl rfl (fun w hw => ?_)
        exact ⟨by rw [numR, ← hk1]; rfl, hw.ext⟩

end Go.Proofs.YtgbgddmbooaddaaGreatDoor

namespace Go.Proofs.YtgbgddmbooaddaaGreatDoor

/-- The words of a text behind what has been read of the first one. -/
def splitW : List UInt8 → List UInt8 → List (List UInt8)
  | cur, [] => [cur]
  | cur, c :: r => if c = 32 then cur :: splitW [] r else splitW (cur ++ [c]) r
def wordsE (s : List UInt8) : List (List UInt8) := splitW [] s
theorem splitW_blank (cur r : List UInt8) : splitW cur (32 :: r) = cur :: splitW [] r := by rw [splitW, if_pos rfl]
theorem splitW_other {cur r : List UInt8} {c : UInt8} (h : ¬ c = 32) : splitW cur (c :: r) = splitW (cur ++ [c]) r := by rw [splitW, if_neg h]
theorem splitW_ne (cur s : List UInt8) : splitW cur s ≠ [] := by
  induction s generalizing cur with
  | nil => simp [splitW]
  | cons c r ih =>
    by_cases h : c = 32
    · rw [h, splitW_blank]; simp
    · rw [splitW_other h]; exact ih _
theorem splitW_len : ∀ (s cur : List UInt8), (splitW cur s).length ≤ s.length + 1 ∧ ∀ x ∈ splitW cur s, x.length ≤ cur.length + s.length
  | [], cur => by simp [splitW]
  | c :: r, cur => by
    by_cases h : c = 32
    · rw [h, splitW_blank]
      have := splitW_len r []
      refine ⟨by simp only [List.length_cons]; omega, fun x hx => ?_⟩
      rcases List.mem_cons.1 hx with rfl | hx
      · omega
      · have := this.2 x hx
        simp only [List.length_nil, List.length_cons] at this ⊢
        omega
    · rw [splitW_other h]
      have := splitW_len r (cur ++ [c])
      refine ⟨by simp only [List.length_cons]; omega, fun x hx => ?_⟩
      have := this.2 x hx
      simp only [List.length_append, List.length_cons, List.length_nil] at this ⊢
      omega
/-- A word without blanks, and then a blank. -/
theorem splitW_word : ∀ (a cur r : List UInt8), (∀ c ∈ a, ¬ c = 32) → splitW cur (a ++ 32 :: r) = (cur ++ a) :: splitW [] r
  | [], cur, r, _ => by rw [List.nil_append, splitW_blank, List.append_nil]
  | c :: a, cur, r, h => by
    rw [List.cons_append, splitW_other (h c (List.mem_cons_self ..)), splitW_word a _ r fun x hx => h x (List.mem_cons_of_mem _ hx)]
    simp
theorem splitW_last : ∀ (a cur : List UInt8), (∀ c ∈ a, ¬ c = 32) → splitW cur a = [cur ++ a]
  | [], cur, _ => by rw [splitW, List.append_nil]
  | c :: a, cur, h => by
    rw [splitW_other (h c (List.mem_cons_self ..)), splitW_last a _ fun x hx => h x (List.mem_cons_of_mem _ hx)]
    simp

theorem byte_split : ∀ (s : List UInt8), (Lib.index s [32] = -1 ∧ ∀ c ∈ s, ¬ c = 32) ∨ ∃ i : Nat, Lib.index s [32] = i ∧ i < s.length ∧ (∀ c ∈ s.take i, ¬ c = 32) ∧ s = s.take i ++ 32 :: s.drop (i + 1)
  | [] => .inl ⟨by decide, by simp⟩
  | c :: r => by
    rw [Lib.index_one]
    by_cases hc : c = 32
    · subst hc
      refine .inr ⟨0, ?_, by simp, by simp, by simp⟩
      simp [Lib.indexByte]
    · rcases byte_split r with ⟨h1, h2⟩ | ⟨i, h1, h2, h3, h4⟩
      · rw [Lib.index_one] at h1
        refine .inl ⟨?_, fun x hx => ?_⟩
        · simp [Lib.indexByte, hc, h1]
        · rcases List.mem_cons.1 hx with rfl | hx
          · exact hc
          · exact h2 x hx
      · rw [Lib.index_one] at h1
        refine .inr ⟨i + 1, ?_, by simp; omega, fun x hx => ?_, ?_⟩
        · have h5 : ¬ ((i : Int) = -1) := by omega
          simp [Lib.indexByte, hc, h1, h5]
        · rw [List.take_succ_cons] at hx
          rcases List.mem_cons.1 hx with rfl | hx
          · exact hc
          · exact h3 x hx
        · rw [List.take_succ_cons, List.drop_succ_cons, List.cons_append, ← h4]

theorem split_words : ∀ (n : Nat) (s : List UInt8), s.length ≤ n → Lib.splitK [32] 0 (Lib.count s [32]) s = wordsE s ∧ Lib.count s [32] + 1 = (wordsE s).length
  | n, s, hn => by
    rcases byte_split s with ⟨h1, h2⟩ | ⟨i, h1, h2, h3, h4⟩
    · rw [Lib.count_miss h1, wordsE, splitW_last s [] h2]
      simp [Lib.splitK]
    · have hd : (s.drop (i + 1)).length < s.length := by rw [List.length_drop]; omega
      cases n with
      | zero => omega
      | succ n =>
        obtain ⟨ih1, ih2⟩ := split_words n (s.drop (i + 1)) (by omega)
        have hw : wordsE s = s.take i :: wordsE (s.drop (i + 1)) := by
          conv => lhs; rw [h4]
          rw [wordsE, splitW_word _ _ _ h3, List.nil_append]
          rfl
        have hc : Lib.count s [32] = 1 + Lib.count (s.drop (i + 1)) [32] := Lib.count_hit (by simp) h1
        rw [hc, hw, show 1 + Lib.count (s.drop (i + 1)) [32] = Lib.count (s.drop (i + 1)) [32] + 1 by omega, Lib.splitK, h1]
        have hne : ¬ (((i : Int) == -1) = true) := by simp only [beq_iff_eq]; omega
        rw [if_neg hne]
        refine ⟨?_, by rw [List.length_cons, ← ih2]⟩
        simp only [Int.toNat_natCast, Nat.add_zero, List.length_cons, List.length_nil, Nat.zero_add]
        rw [ih1]
end Go.Proofs.YtgbgddmbooaddaaGreatDoor

namespace Go.Proofs.YtgbgddmbooaddaaGreatDoor
open Go.RowKit

theorem el26 : El Tryz.prog 26 9 (.string ⟨#[]⟩) 1 16 := ⟨Tryz.underlying26, by kernel_rfl, rfl, by decide⟩
theorem el23 : El Tryz.prog 23 2 (.int .i64 0) 1 8 := ⟨Tryz.underlying23, by kernel_rfl, rfl, by decide⟩
theorem el37 : El Tryz.prog 37 23 (.slice none 0 0) 1 24 := ⟨Tryz.underlying37, by kernel_rfl, rfl, by decide⟩
theorem el28 : El Tryz.prog 28 25 (.agg #[.int .u8 0, .int .i64 0, .int .i64 0, .int .i64 0, .int .i64 0, .slice none 0 0]) 6 64 := ⟨Tryz.underlying28, by kernel_rfl, rfl, by decide⟩
theorem el138 : El Tryz.prog 138 139 (.agg #[.int .i64 0, .int .i64 0]) 2 16 := ⟨Tryz.underlying138, by kernel_rfl, rfl, by decide⟩
theorem el100 : El Tryz.prog 100 105 (.agg #[.slice none 0 0, .int .i64 0]) 2 32 := ⟨Tryz.underlying100, by kernel_rfl, rfl, by decide⟩
theorem bs26 (s : ByteArray) (w : World) : (Instr.buildSlice 26 1 [(0, .string s)].toArray).run Tryz.prog w = .ok (.slice (some ⟨w.heap.size, 0, none⟩) 1 1) (w.alloc (.cells [.string s].toArray 9)) := by kernel_rfl
theorem bs23 (a : Int) (w : World) : (Instr.buildSlice 23 1 [(0, .int .i64 a)].toArray).run Tryz.prog w = .ok (.slice (some ⟨w.heap.size, 0, none⟩) 1 1) (w.alloc (.cells [.int .i64 a].toArray 2)) := by kernel_rfl
theorem bs23_0 (w : World) : (Instr.buildSlice 23 0 [].toArray).run Tryz.prog w = .ok (.slice (some ⟨w.heap.size, 0, none⟩) 0 0) (w.alloc (.cells [].toArray 2)) := by kernel_rfl
theorem bs37_0 (w : World) : (Instr.buildSlice 37 0 [].toArray).run Tryz.prog w = .ok (.slice (some ⟨w.heap.size, 0, none⟩) 0 0) (w.alloc (.cells [].toArray 23)) := by kernel_rfl
theorem bs37 (a : Option Addr) (n c : Nat) (w : World) : (Instr.buildSlice 37 1 [(0, .slice a n c)].toArray).run Tryz.prog w = .ok (.slice (some ⟨w.heap.size, 0, none⟩) 1 1) (w.alloc (.cells [.slice a n c].toArray 23)) := by kernel_rfl
theorem bs28 (k a b x m : Int) (ad : Option Addr) (n c : Nat) (w : World) : (Instr.buildSlice 28 1 [(0, .agg [.int .u8 k, .int .i64 a, .int .i64 b, .int .i64 x, .int .i64 m, .slice ad n c].toArray)].toArray).run Tryz.prog w = .ok (.slice (some ⟨w.heap.size, 0, none⟩) 1 1) (w.alloc (.cells [.int .u8 k, .int .i64 a, .int .i64 b, .int .i64 x, .int .i64 m, .slice ad n c].toArray 25)) := by kernel_rfl
theorem bs138 (a b : Int) (w : World) : (Instr.buildSlice 138 1 [(0, .agg [.int .i64 a, .int .i64 b].toArray)].toArray).run Tryz.prog w = .ok (.slice (some ⟨w.heap.size, 0, none⟩) 1 1) (w.alloc (.cells [.int .i64 a, .int .i64 b].toArray 139)) := by kernel_rfl

theorem news1 {w : World} {b el : Nat} {x : Value} (h : w.heap[b]? = some (.cells [x].toArray el)) : ∀ j u, [x][j]? = some u → ∃ a, (some ⟨b, 0, none⟩ : Option Addr) = some a ∧ w.cell? (a.add j) = some u := fun j u hj =>
  ⟨_, rfl, by rw [add_at, Nat.zero_add]; exact cell_of_blk h (by simpa using hj)⟩
theorem newsN {w : World} {b el : Nat} {xs : List Value} (h : w.heap[b]? = some (.cells xs.toArray el)) : ∀ j u, xs[j]? = some u → ∃ a, (some ⟨b, 0, none⟩ : Option Addr) = some a ∧ w.cell? (a.add j) = some u := fun j u hj =>
  ⟨_, rfl, by rw [add_at, Nat.zero_add]; exact cell_of_blk h (by simpa using hj)⟩

/-- strings.Split at a blank. -/
theorem split_any (s : List UInt8) (w0 : World) (hs : s.length ≤ 1000) (hw : Vars w0) : Calls Tryz.prog 42 #[strV s, strV [32]] w0 fun e w' => ∃ v, e = .returned v ∧ Hp w0 [] [⟨v, (wordsE s).length, 9, 1, (wordsE s).map strV⟩] [] w' := by
  obtain ⟨m, hm⟩ := hw.max
  refine (Tryz.strings_Split ⟨s.toArray⟩ ⟨[(32 : UInt8)].toArray⟩ m w0 (by show s.length < _; omega) hm (by decide)).mono fun e w' h => ?_
  obtain ⟨h1, rfl⟩ := h
  have hl : (⟨s.toArray⟩ : ByteArray).data.toList = s := by simp
  obtain ⟨k1, k2⟩ := split_words s.length s (Nat.le_refl _)
  have hc : Lib.countB ⟨s.toArray⟩ ⟨[(32 : UInt8)].toArray⟩ = Lib.count s [32] := by show Lib.count _ _ = _; rw [hl]
  have hb := Lib.splitB_data ⟨[(32 : UInt8)].toArray⟩ 0 (Lib.count s [32]) ⟨s.toArray⟩
  rw [hl, show (⟨[(32 : UInt8)].toArray⟩ : ByteArray).data.toList = [32] from rfl, k1] at hb
  have hcells : (Lib.splitB ⟨[(32 : UInt8)].toArray⟩ 0 (Lib.count s [32]) ⟨s.toArray⟩).map Value.string = (wordsE s).map strV := by
    rw [← hb, List.map_map]
    congr 1
  rw [hc, k2] at h1
  rw [hc, hcells]
  refine ⟨_, h1, ?_⟩
  exact (Hp.alloc (Hp.init w0) (.cells ((wordsE s).map strV).toArray 9)).toRow (by simp) (by simp only [maxLen]; have := (splitW_len s []).1; simp only [wordsE]; omega)
end Go.Proofs.YtgbgddmbooaddaaGreatDoor

namespace Go.Proofs.YtgbgddmbooaddaaGreatDoor
open Go.RowKit


/-- Where the loop of words stands. -/
structure WS where
  i : Nat
  a : Nat
  v : Value
  out : List (List UInt8)
def WS.inv (s : List UInt8) (z : WS) : Prop := z.a ≤ z.i ∧ z.out.length ≤ z.i ∧ ((z.i ≤ s.length ∧ z.out ++ splitW ((s.drop z.a).take (z.i - z.a)) (s.drop z.i) = wordsE s) ∨ (z.i = s.length + 1 ∧ z.out = wordsE s))
theorem WS.next {s : List UInt8} {z : WS} (h : z.inv s) (hi : z.i < s.length) (hne : ¬ s.getD z.i 0 = 32) : WS.inv s ⟨z.i + 1, z.a, z.v, z.out⟩ := by
  obtain ⟨h1, h2, ⟨h3, h4⟩ | ⟨h3, h4⟩⟩ := h
  · refine ⟨by simp only; omega, by simp only; omega, .inl ⟨by simp only; omega, ?_⟩⟩
    simp only
    rw [dropD hi, splitW_other hne] at h4
    rw [← h4]
    congr 2
    rw [show z.i + 1 - z.a = (z.i - z.a) + 1 by omega, List.take_succ_eq_append_getElem (by rw [List.length_drop]; omega), List.getElem_drop]
    congr 1
    simp [List.getD, hi, show z.a + (z.i - z.a) = z.i by omega]
  · omega
theorem WS.word {s : List UInt8} {z : WS} (v' : Value) (h : z.inv s) (hi : z.i < s.length) (hne : s.getD z.i 0 = 32) : WS.inv s ⟨z.i + 1, z.i + 1, v', z.out ++ [(s.drop z.a).take (z.i - z.a)]⟩ := by
  obtain ⟨h1, h2, ⟨h3, h4⟩ | ⟨h3, h4⟩⟩ := h
  · refine ⟨Nat.le_refl _, by simp only [List.length_append, List.length_cons, List.length_nil]; omega, .inl ⟨by simp only; omega, ?_⟩⟩
    simp only
    rw [dropD hi, hne, splitW_blank] at h4
    rw [← h4]
    simp
  · omega
theorem WS.last {s : List UInt8} {z : WS} (v' : Value) (h : z.inv s) (hi : z.i = s.length) : WS.inv s ⟨z.i + 1, z.i + 1, v', z.out ++ [(s.drop z.a).take (z.i - z.a)]⟩ := by
  obtain ⟨h1, h2, ⟨h3, h4⟩ | ⟨h3, h4⟩⟩ := h
  · refine ⟨Nat.le_refl _, by simp only [List.length_append, List.length_cons, List.length_nil]; omega, .inr ⟨by simp only; omega, ?_⟩⟩
    simp only
    rw [show s.drop z.i = [] from List.drop_eq_nil_of_le (by omega)] at h4
    simpa only [splitW] using h4
  · omega
theorem c32 {c : UInt8} : decide ((c.toNat : Int) = 32) = decide (c = 32) := by
  refine decide_eq_decide.2 ⟨fun h => ?_, fun h => by rw [h]; rfl⟩
  apply UInt8.toNat_inj.1
  show c.toNat = 32
  omega

set_option maxRecDepth 100000 in
theorem words_any (s : List UInt8) (w0 : World) (hs : s.length ≤ 1000) : Calls Tryz.prog 45 #[strV s] w0 fun e w' => ∃ v, e = .returned v ∧ Hp w0 [] [⟨v, (wordsE s).length, 9, 1, (wordsE s).map strV⟩] [] w' := by
  refine enterA 32 Tryz.func45 rfl Tryz.ntmps45 rfl (Hp w0 [] [] []) (Hp.init _) ?_
  refine H.seq ?_
  refine H.region ?_
  refine H.q (yl_assign rfl) rfl rfl (by decide) ?_
  refine HN.done ?_
  refine HN.keep [(0, _)] ⟨rfl, trivial⟩ ?_
  refine HN.then ?_
  refine H.seq ?_
  refine H.region ?_
  refine H.q (yl_assign rfl) rfl rfl (by decide) ?_
  refine HN.done ?_
  refine HN.keep [(0, _), (3, _)] ⟨rfl, rfl, trivial⟩ ?_
  refine HN.then ?_
  refine H.seq ?_
  refine H.region ?_
  refine H.q (yl_assign rfl) rfl rfl (by decide) ?_
  refine HN.done ?_
  refine HN.keep [(0, _), (3, _), (4, _)] ⟨rfl, rfl, rfl, trivial⟩ ?_
  refine HN.then ?_
  refine H.seq ?_
  refine H.seq ?_
  refine H.region ?_
  refine H.q (yl_assign rfl) rfl rfl (by decide) ?_
  refine HN.done ?_
  refine HN.keep [(0, _), (3, _), (4, _), (5, _)] ⟨rfl, rfl, rfl, rfl, trivial⟩ ?_
  refine HN.then ?_
  refine H.block ?_
  refine H.loop (fun z : WS => [(0, strV s), (3, z.v), (4, .int .i64 (z.a : Int)), (5, .int .i64 (z.i : Int))]) (WS.inv s) (fun z => Hp w0 [] [⟨z.v, z.out.length, 9, 1, z.out.map strV⟩] []) (fun z => s.length + 1 - z.i) ⟨0, 0, .slice none 0 0, []⟩ ⟨Nat.le_refl _, Nat.le_refl _, .inl ⟨Nat.zero_le _, rfl⟩⟩ ⟨rfl, rfl, rfl, rfl, trivial⟩ (fun w hw => hw.rowNil 9 1) (fun z hI => ?_)
  refine H.seq ?_
  refine H.seq ?_
  refine H.region ?_
  refine H.q (yl_move rfl) rfl rfl (by decide) ?_
  refine H.q (yl_move rfl) rfl rfl (by decide) ?_
  refine H.q (yl_slenL rfl Tryz.underlying9 rfl) rfl rfl (by decide) ?_
  refine H.q (yl_leq rfl rfl) rfl rfl (by decide) ?_
  refine HN.done ?_
  refine HN.keep [(0, _), (3, _), (4, _), (5, _), (9, _)] ⟨rfl, rfl, rfl, rfl, rfl, trivial⟩ ?_
  refine HN.then ?_
  refine H.cond _ rfl (fun t0 => ?_) (fun t0 => ?_)
  · simp only [decide_eq_true_eq] at t0; have hk : z.i ≤ s.length := by omega
    have ha := hI.1
    have ho := hI.2.1
    refine H.keep [(0, _), (3, _), (4, _), (5, _)] ⟨rfl, rfl, rfl, rfl, trivial⟩ ?_
    refine HN.skip ?_
    refine HN.then ?_
    -- branchy seq 0, live: [0, 3, 4, 5]
    refine H.seq ?_
    refine H.block ?_
    refine H.seq ?_
    refine H.region ?_
    refine H.q (yl_move rfl) rfl rfl (by decide) ?_
    refine H.q (yl_move rfl) rfl rfl (by decide) ?_
    refine H.q (yl_slenL rfl Tryz.underlying9 rfl) rfl rfl (by decide) ?_
    refine H.q (yl_eql rfl rfl) rfl rfl (by decide) ?_
    refine H.q (yl_move rfl) rfl rfl (by decide) ?_
    refine H.qg (wn_f rfl rfl (by decide) rfl) (fun hg => yl_sub [(0, _)] ⟨rfl, trivial⟩ (yl_move rfl)) rfl (by decide) ?_
    refine H.qg (wn_f rfl rfl (by decide) rfl) (fun hg => yl_sub [(5, _)] ⟨rfl, trivial⟩ (yl_move rfl)) rfl (by decide) ?_
    refine H.qg (wn_f rfl rfl (by decide) rfl) (fun hg => yl_sub [(17, _), (18, _)] ⟨slT rfl hg, slT rfl hg, trivial⟩ (yl_six z.i Tryz.underlying9 rfl rfl rfl (by simp only [Bool.not_eq_true', decide_eq_false_iff_not] at hg; omega))) rfl (by decide) ?_
    refine H.qg (wn_f rfl rfl (by decide) rfl) (fun hg => yl_sub [(19, _)] ⟨slT rfl hg, trivial⟩ (yl_eql rfl rfl)) rfl (by decide) ?_
    refine H.q (yl_or rfl rfl) rfl rfl (by decide) ?_
    refine HN.done ?_
    refine HN.keep [(0, _), (3, _), (4, _), (5, _), (21, _)] ⟨rfl, rfl, rfl, rfl, rfl, trivial⟩ ?_
    refine HN.then ?_
    refine H.cond _ rfl (fun t1 => ?_) (fun t1 => ?_)
    · refine H.keep [(0, _), (3, _), (4, _), (5, _)] ⟨rfl, rfl, rfl, rfl, trivial⟩ ?_
      refine H.seq ?_
      refine H.region ?_
      refine H.q (yl_move rfl) rfl rfl (by decide) ?_
      refine H.q (yl_move rfl) rfl rfl (by decide) ?_
      refine H.q (yl_move rfl) rfl rfl (by decide) ?_
      refine H.q (yl_move rfl) rfl rfl (by decide) ?_
      refine H.q (yl_sslice z.a z.i Tryz.underlying9 rfl rfl rfl rfl rfl ha hk) rfl rfl (by decide) ?_
      refine H.buildSlice (bs26 _) rfl (by decide) (fun b27 hb27 => ?_)
      refine H.append 0 [strV ((s.drop z.a).take (z.i - z.a))] el26 rfl rfl rfl rfl (fun w hw => news1 (hw.blk 0 rfl)) (by simp [Value.oneCell']) (by simp only; omega) (by decide) (by decide) (fun v28 => ?_)
      refine H.q (yl_assign rfl) rfl rfl (by decide) ?_
      refine HN.done ?_
      refine HN.keep [(0, _), (3, _), (5, _)] ⟨rfl, rfl, rfl, trivial⟩ ?_
      refine HN.then ?_
      refine H.region ?_
      refine H.q (yl_move rfl) rfl rfl (by decide) ?_
      refine H.q (yl_add rfl rfl _ rfl (by omega)) rfl rfl (by decide) ?_
      refine H.q (yl_assign rfl) rfl rfl (by decide) ?_
      refine HN.done ?_
      refine HN.keep [(0, _), (3, _), (4, _), (5, _)] ⟨rfl, rfl, rfl, rfl, trivial⟩ ?_
      refine HN.block ?_
      refine HN.then ?_
      refine H.region ?_
      refine H.q (yl_move rfl) rfl rfl (by decide) ?_
      refine H.q (yl_add rfl rfl _ rfl (by omega)) rfl rfl (by decide) ?_
      refine H.q (yl_assign rfl) rfl rfl (by decide) ?_
      refine HN.done ?_
      refine HN.keep [(0, _), (3, _), (4, _), (5, _)] ⟨rfl, rfl, rfl, rfl, trivial⟩ ?_
      refine HN.then ?_
      rw [c32] at t1
      refine H.at ⟨z.i + 1, z.i + 1, v28, z.out ++ [(s.drop z.a).take (z.i - z.a)]⟩ ⟨?_, by simp only; omega⟩ ⟨rfl, rfl, rfl, rfl, trivial⟩ (fun w hw => by simpa using hw.drop)
      by_cases he : z.i = s.length
      · exact WS.last v28 hI he
      · refine WS.word v28 hI (by omega) ?_
        simp only [Bool.or_eq_true, decide_eq_true_eq] at t1
        rcases t1 with t1 | t1
        · omega
        · exact t1
    · refine H.keep [(0, _), (3, _), (4, _), (5, _)] ⟨rfl, rfl, rfl, rfl, trivial⟩ ?_
      refine HN.skip ?_
      refine HN.block ?_
      refine HN.then ?_
      refine H.region ?_
      refine H.q (yl_move rfl) rfl rfl (by decide) ?_
      refine H.q (yl_add rfl rfl _ rfl (by omega)) rfl rfl (by decide) ?_
      refine H.q (yl_assign rfl) rfl rfl (by decide) ?_
      refine HN.done ?_
      refine HN.keep [(0, _), (3, _), (4, _), (5, _)] ⟨rfl, rfl, rfl, rfl, trivial⟩ ?_
      refine HN.then ?_
      rw [c32] at t1
      simp only [Bool.or_eq_false_iff, decide_eq_false_iff_not] at t1
      exact H.at ⟨z.i + 1, z.a, z.v, z.out⟩ ⟨WS.next hI (by omega) t1.2, by simp only; omega⟩ ⟨rfl, rfl, rfl, rfl, trivial⟩ (fun w hw => hw)
  · simp only [decide_eq_false_iff_not] at t0
    have hout : z.out = wordsE s := by
      obtain ⟨h1, h2, ⟨h3, h4⟩ | ⟨h3, h4⟩⟩ := hI
      · omega
      · exact h4
    refine H.keep [(3, _)] ⟨rfl, trivial⟩ ?_
    refine HX.exit ?_
    refine HX.then ?_
    refine HX.then ?_
    refine HX.hit ?_
    refine HN.then ?_
    refine H.seq ?_
    refine H.region ?_
    refine H.q (yl_move rfl) rfl rfl (by decide) ?_
    refine H.q (yl_assign rfl) rfl rfl (by decide) ?_
    refine HN.done ?_
    refine HN.keep [(2, _)] ⟨rfl, trivial⟩ ?_
    refine HN.then ?_
    refine HR.ret ?_
    refine HR.ret1 _ Tryz.results45 rfl (fun w hw => ?_)
    exact ⟨z.v, rfl, by rw [← hout]; exact hw⟩

set_option maxRecDepth 100000 in
theorem atL_any (s : List UInt8) (names : List (List UInt8)) (nv : Value) (b : Nat) (w0 : World) (hl : names.length ≤ 1000) (hv : IsStrs w0 nv names) (hb : w0.cell? ⟨b, 0, none⟩ = some nv) : Calls Tryz.prog 75 #[strV s, .pointer (some ⟨b, 0, none⟩)] w0 fun e w' => e = .returned (.int .i64 (idxP (fun y => decide (s = y)) names)) ∧ Ext w0 w' := by
  refine enterA 7 Tryz.func75 rfl Tryz.ntmps75 rfl (Hp w0 [] [] []) (Hp.init _) ?_
  refine H.seq ?_
  refine H.region ?_
  refine H.q (yl_assign rfl) rfl rfl (by decide) ?_
  refine HN.done ?_
  refine HN.keep [(0, _), (1, _)] ⟨rfl, rfl, trivial⟩ ?_
  refine HN.then ?_
  refine H.seq ?_
  refine H.region ?_
  refine H.q (yl_load Tryz.isAgg26 rfl (fun w hw => cell_ext hw.ext hb)) rfl rfl (by decide) ?_
  refine H.q (yl_move rfl) rfl rfl (by decide) ?_
  refine H.q (yl_call (xs := [.tmp 4, .tmp 5]) Tryz.call74 (stab_hp _ _ _ _) rfl (fun w hw => sIndex_any names nv s w (by omega) (hv.ext hw.ext))) rfl rfl (by decide) ?_
  refine H.q (yl_assign rfl) rfl rfl (by decide) ?_
  refine HN.done ?_
  refine HN.keep [(3, _)] ⟨rfl, trivial⟩ ?_
  refine HN.then ?_
  refine HR.ret ?_
  refine HR.ret1 _ Tryz.results75 rfl (fun w hw => ?_)
  exact ⟨rfl, hw.ext⟩

end Go.Proofs.YtgbgddmbooaddaaGreatDoor

namespace Go.Proofs.YtgbgddmbooaddaaGreatDoor
open Go.RowKit

theorem Hp.noR {w0 : World} {L : List BP} {R : List Rw} {F : List BP} {w : World} (h : Hp w0 L R F w) : Hp w0 L [] [] w where
  ext := h.ext
  own := h.own
  rows := fun _ hr => by cases hr
  fgn := fun _ hp => by cases hp
  nodup := by
    have := (List.nodup_append.1 h.nodup).1
    simpa [owned] using this
  low := fun b hb => h.low b (List.mem_append.2 (.inl (by simpa [owned] using hb)))
  apart := fun _ _ _ hp => by cases hp
theorem Hp.base {w0 : World} {L : List BP} {R : List Rw} {F : List BP} {w : World} (h : Hp w0 L R F w) : Hp w0 [] [] [] w where
  ext := h.ext
  own := fun _ hp => by cases hp
  rows := fun _ hr => by cases hr
  fgn := fun _ hp => by cases hp
  nodup := List.nodup_nil
  low := fun _ hb => by cases hb
  apart := fun _ hb => by cases hb

section
variable {P : Program} {n : Nat} {e : Env} {C S : World → Prop} {Q : Exit → Act → World → Prop} {K : Act → World → Prop} {ops : Array Oper} {o : Oper} {listed : Array Bool} {m : Nat}

/-- What is left of a region, in whatever order. -/
abbrev An (P : Program) (ops : Array Oper) (Q : Exit → Act → World → Prop) (S : World → Prop) (m : Nat) (listed : Array Bool) : Act → World → Prop := fun a w => wpAnyH P .any ops Q S m listed a w

/-- In every frame that fits 'e' and every world that meets S the operation yields v, and does nothing else. -/
def Ye (P : Program) (S : World → Prop) (n : Nat) (e : Env) (o : Oper) (v : Value) : Prop := ∀ a w, Fr n e a → S w → (execOp a.eval o).run P w = .ok (.value v) w

theorem wpOp_of_list {i : Nat} {a : Act} {w : World} (hi : ops[i]? = some o) (h : wpList P ops (Exit.then K Q) [o] a w) : wpOp P ops Q i K a w := by
  unfold wpOp
  simp only [hi]
  unfold wpList at h
  split
  · rename_i hw
    rw [if_pos hw] at h
    rcases h with h | ⟨h1, h2⟩
    · refine .inl ?_
      unfold Oper.wp at h ⊢
      revert h
      generalize (execOp a.eval o).run P w = r
      intro h
      cases r with
      | ok nx w' =>
        cases nx <;> simp only [Oper.upon] at h ⊢ <;>
          first
            | exact h
            | exact Calls.mono h (fun e w'' he => by cases e <;> exact he)
            | exact Rows.mono h (fun _ _ he => he)
      | halt x w' => cases x <;> simp only [Oper.upon] at h ⊢ <;> exact h
    · exact .inr ⟨h1, h2⟩
  · rename_i hw
    rw [if_neg hw] at h
    exact h

/-- The region begins. -/
theorem H.regionA {id : Nat} {l : List Oper} (S : World → Prop) (hm : P.follows .mixedOrders = true) (hst : Stab C) (h : H n e C (An P l.toArray Q S l.length (Array.replicate l.length false))) : H n e C ((Code.region id l.toArray true).wp P Q) := fun a w hf hc =>
  wp_region_held (S := S) hm (by
    have := h a { w with drawn := w.drawn + 1 } hf (hst w _ hc ⟨rfl, rfl, rfl, Nat.le_refl _, fun _ _ => rfl⟩)
    simpa using this)

/-- An operation that only reads is taken first. -/
theorem H.take {i d : Nat} {v : Value} (hi : ops[i]? = some o) (hs : Region.noSelect ops = true) (hf : Region.free .any ops listed i = true) (hr : (Region.ready .any ops listed).contains i = true) (hQ : ∀ c a w, Q (.panic c) (a.put o.dst v) w → Q (.panic c) a w)
    (hS : ∀ w, C w → S w) (hy : Ye P S n e o v) (hg : o.guard = none) (hd : o.dst = some d) (hn : d < n) (h : H n ((d, v) :: e) C (An P ops Q S m (listed.setIfInBounds i true))) : H n e C (An P ops Q S (m + 1) listed) := fun a w hfr hc =>
  wpAnyH_take hi hs hf hr hQ (.inl ⟨by simp [Region.wanted, hg], fun w' hw' => hy a w' hfr hw'⟩) (hS w hc) (h _ w (hd ▸ hfr.put hn v) hc)
theorem H.takeG {i d : Nat} {v : Value} {g : Bool} (hi : ops[i]? = some o) (hs : Region.noSelect ops = true) (hf : Region.free .any ops listed i = true) (hr : (Region.ready .any ops listed).contains i = true) (hQ : ∀ c a w, Q (.panic c) (a.put o.dst (gv g v)) w → Q (.panic c) a w)
    (hS : ∀ w, C w → S w) (hw : Wn ops n e o g) (hy : g = true → Ye P S n e o v) (hd : o.dst = some d) (hn : d < n) (h : H n ((d, gv g v) :: e) C (An P ops Q S m (listed.setIfInBounds i true))) : H n e C (An P ops Q S (m + 1) listed) := fun a w hfr hc =>
  wpAnyH_take hi hs hf hr hQ (by
    cases g with
    | true => exact .inl ⟨hw a hfr, fun w' hw' => hy rfl a w' hfr hw'⟩
    | false => exact .inr ⟨hw a hfr, rfl⟩) (hS w hc) (h _ w (hd ▸ hfr.put hn (gv g v)) hc)
/-- One alone may come up. -/
theorem H.one {i : Nat} (hi : ops[i]? = some o) (hr : Region.ready .any ops listed = [i]) (h : H n e C (wpList P ops (Exit.then (fun a w => S w ∧ An P ops Q S m (listed.setIfInBounds i true) a w) Q) [o])) : H n e C (An P ops Q S (m + 1) listed) := fun a w hfr hc =>
  wpAnyH_all hr (by simp) fun j hj => by
    rw [List.mem_singleton] at hj
    subst hj
    exact wpOp_of_list hi (h a w hfr hc)
/-- One of two. -/
theorem H.two {i j : Nat} {o2 : Oper} (hi : ops[i]? = some o) (hj : ops[j]? = some o2) (hr : Region.ready .any ops listed = [i, j]) (h : H n e C (wpList P ops (Exit.then (fun a w => S w ∧ An P ops Q S m (listed.setIfInBounds i true) a w) Q) [o]))
    (h2 : H n e C (wpList P ops (Exit.then (fun a w => S w ∧ An P ops Q S m (listed.setIfInBounds j true) a w) Q) [o2])) : H n e C (An P ops Q S (m + 1) listed) := fun a w hfr hc =>
  wpAnyH_all hr (by simp) fun k hk => by
    rcases List.mem_cons.1 hk with rfl | hk
    · exact wpOp_of_list hi (h a w hfr hc)
    · rw [List.mem_singleton] at hk
      subst hk
      exact wpOp_of_list hj (h2 a w hfr hc)
/-- Behind an operation that was not taken first. -/
theorem H.on (hS : ∀ w, C w → S w) (h : H n e C (An P ops Q S m listed)) : H n e C (wpList P ops (Exit.then (fun a w => S w ∧ An P ops Q S m listed a w) Q) []) := fun a w hfr hc => ⟨hS w hc, h a w hfr hc⟩
theorem H.over (hr : Region.ready .any ops listed = []) (h : HN n e C Q) : H n e C (An P ops Q S m listed) := fun a w hfr hc => wpAnyH_done hr (h a w hfr hc) m

theorem ye_sub {v : Value} (e1 : Env) (hs : Sub e e1) (h : Ye P S n e1 o v) : Ye P S n e o v := fun a w hf hc => h a w (hf.sub hs) hc
theorem ye_to {v v' : Value} (h : Ye P S n e o v) (he : v = v') : Ye P S n e o v' := he ▸ h
end
end Go.Proofs.YtgbgddmbooaddaaGreatDoor

namespace Go.Proofs.YtgbgddmbooaddaaGreatDoor
open Go.RowKit Go.Sort Go.MapKept

section
variable {P : Program} {n : Nat} {e : Env} {C : World → Prop} {d : Option Tmp} {t : TypeId} {p : String} {af : Array Edge} {g : Option (Nat × Bool)}
theorem ye_move {x : Operand} {v : Value} (hx : eev e x = some v) : Ye P C n e ⟨d, .move x, t, p, af, g⟩ v :=
  fun a w hf _ => by simp [execOp, hf.ev hx]
theorem ye_assign {x : Operand} {v : Value} (hx : eev e x = some v) : Ye P C n e ⟨d, .assign x, t, p, af, g⟩ v :=
  fun a w hf _ => by simp [execOp, hf.ev hx]
section
variable {k : IntKind} {a b : Int} {x y : Operand} {tx ty : TypeId}
theorem ye_lss (hx : eev e x = some (.int k a)) (hy : eev e y = some (.int k b)) : Ye P C n e ⟨d, .binOp .lss tx x y ty, t, p, af, g⟩ (.bool (decide (a < b))) :=
  fun ac w hf _ => by simp [execOp, hf.ev hx, hf.ev hy, eqGuard, binOp, Op.intCmp]
theorem ye_leq (hx : eev e x = some (.int k a)) (hy : eev e y = some (.int k b)) : Ye P C n e ⟨d, .binOp .leq tx x y ty, t, p, af, g⟩ (.bool (decide (a ≤ b))) :=
  fun ac w hf _ => by simp [execOp, hf.ev hx, hf.ev hy, eqGuard, binOp, Op.intCmp]
theorem ye_gtr (hx : eev e x = some (.int k a)) (hy : eev e y = some (.int k b)) : Ye P C n e ⟨d, .binOp .gtr tx x y ty, t, p, af, g⟩ (.bool (decide (b < a))) :=
  fun ac w hf _ => by simp [execOp, hf.ev hx, hf.ev hy, eqGuard, binOp, Op.intCmp]
theorem ye_geq (hx : eev e x = some (.int k a)) (hy : eev e y = some (.int k b)) : Ye P C n e ⟨d, .binOp .geq tx x y ty, t, p, af, g⟩ (.bool (decide (b ≤ a))) :=
  fun ac w hf _ => by simp [execOp, hf.ev hx, hf.ev hy, eqGuard, binOp, Op.intCmp]
theorem ye_eql (hx : eev e x = some (.int k a)) (hy : eev e y = some (.int k b)) : Ye P C n e ⟨d, .binOp .eql tx x y ty, t, p, af, g⟩ (.bool (decide (a = b))) :=
  fun ac w hf _ => by simp [execOp, hf.ev hx, hf.ev hy, eqGuard, binOp, Op.intCmp]; rfl
theorem ye_neq (hx : eev e x = some (.int k a)) (hy : eev e y = some (.int k b)) : Ye P C n e ⟨d, .binOp .neq tx x y ty, t, p, af, g⟩ (.bool (decide (a ≠ b))) :=
  fun ac w hf _ => by simp [execOp, hf.ev hx, hf.ev hy, eqGuard, binOp, Op.intCmp, bne]; rfl
end
section
variable {a b : Int} {x y : Operand} {tx ty : TypeId}
theorem ye_add (hx : eev e x = some (.int .i64 a)) (hy : eev e y = some (.int .i64 b)) (c : Int) (hc : a + b = c) (h : -9223372036854775808 ≤ c ∧ c ≤ 9223372036854775807) : Ye P C n e ⟨d, .binOp .add tx x y ty, t, p, af, g⟩ (.int .i64 c) :=
  fun ac w hf _ => by simp [execOp, hf.ev hx, hf.ev hy, eqGuard, binOp, Op.intArith, hc, IntWalk.i64_in c h]
theorem ye_sub' (hx : eev e x = some (.int .i64 a)) (hy : eev e y = some (.int .i64 b)) (c : Int) (hc : a - b = c) (h : -9223372036854775808 ≤ c ∧ c ≤ 9223372036854775807) : Ye P C n e ⟨d, .binOp .sub tx x y ty, t, p, af, g⟩ (.int .i64 c) :=
  fun ac w hf _ => by simp [execOp, hf.ev hx, hf.ev hy, eqGuard, binOp, Op.intArith, hc, IntWalk.i64_in c h]
theorem ye_mul (hx : eev e x = some (.int .i64 a)) (hy : eev e y = some (.int .i64 b)) (c : Int) (hc : a * b = c) (h : -9223372036854775808 ≤ c ∧ c ≤ 9223372036854775807) : Ye P C n e ⟨d, .binOp .mul tx x y ty, t, p, af, g⟩ (.int .i64 c) :=
  fun ac w hf _ => by simp [execOp, hf.ev hx, hf.ev hy, eqGuard, binOp, Op.intArith, hc, IntWalk.i64_in c h]
theorem ye_rem (hx : eev e x = some (.int .i64 a)) (hy : eev e y = some (.int .i64 b)) (hb : b ≠ 0) : Ye P C n e ⟨d, .binOp .rem tx x y ty, t, p, af, g⟩ (.int .i64 (a.tmod b)) :=
  fun ac w hf _ => by simp [execOp, hf.ev hx, hf.ev hy, eqGuard, binOp, Op.intDiv, hb]
theorem ye_quo (hx : eev e x = some (.int .i64 a)) (hy : eev e y = some (.int .i64 b)) (hb : b ≠ 0) (h : -9223372036854775808 ≤ a.tdiv b ∧ a.tdiv b ≤ 9223372036854775807) : Ye P C n e ⟨d, .binOp .quo tx x y ty, t, p, af, g⟩ (.int .i64 (a.tdiv b)) :=
  fun ac w hf _ => by simp [execOp, hf.ev hx, hf.ev hy, eqGuard, binOp, Op.intDiv, hb, IntWalk.i64_in _ h]
end
section
variable {s1 s2 : ByteArray} {x y : Operand} {tx ty : TypeId}
theorem ye_cat (hx : eev e x = some (.string s1)) (hy : eev e y = some (.string s2)) (h : s1.size + s2.size ≤ 9223372036854775807) : Ye P C n e ⟨d, .binOp .add tx x y ty, t, p, af, g⟩ (.string (s1 ++ s2)) :=
  fun ac w hf _ => by
    have h3 : ¬ (((s1.size + s2.size : Nat) : Int) > IntKind.i64.max) := by
      rw [show IntKind.i64.max = 9223372036854775807 from rfl]; omega
    simp only [execOp, hf.ev hx, hf.ev hy, eqGuard, binOp, Op.stringOp, if_neg h3]
    simp
theorem ye_seql (hx : eev e x = some (.string s1)) (hy : eev e y = some (.string s2)) : Ye P C n e ⟨d, .binOp .eql tx x y ty, t, p, af, g⟩ (.bool (s1.toList == s2.toList)) :=
  fun ac w hf _ => by simp [execOp, hf.ev hx, hf.ev hy, eqGuard, binOp, Op.stringOp]
theorem ye_sneq (hx : eev e x = some (.string s1)) (hy : eev e y = some (.string s2)) : Ye P C n e ⟨d, .binOp .neq tx x y ty, t, p, af, g⟩ (.bool (!(s1.toList == s2.toList))) :=
  fun ac w hf _ => by simp [execOp, hf.ev hx, hf.ev hy, eqGuard, binOp, Op.stringOp]
end
theorem ye_not {x : Operand} {b : Bool} {tx : TypeId} (hx : eev e x = some (.bool b)) : Ye P C n e ⟨d, .unOp .not tx x, t, p, af, g⟩ (.bool (!b)) :=
  fun ac w hf _ => by simp [execOp, hf.ev hx, Op.unary]
theorem ye_neg {x : Operand} {a : Int} {tx : TypeId} (hx : eev e x = some (.int .i64 a)) (h : -9223372036854775807 ≤ a ∧ a ≤ 9223372036854775807) : Ye P C n e ⟨d, .unOp .neg tx x, t, p, af, g⟩ (.int .i64 (-a)) :=
  fun ac w hf _ => by simp [execOp, hf.ev hx, Op.unary, Op.intArith, IntWalk.i64_in (-a) (by omega)]
theorem ye_or {c y : Operand} {b x : Bool} (hc : eev e c = some (.bool b)) (hy : eev e y = some (gv (!b) (.bool x))) : Ye P C n e ⟨d, .pick c (.const (.bool true)) y, t, p, af, g⟩ (.bool (b || x)) :=
  fun ac w hf _ => by
    have h1 := hf.ev hc
    have h2 := hf.ev hy
    have h3 : ac.eval (.const (.bool true)) = .bool true := rfl
    simp only [execOp, h1, h2, h3]
    cases b <;> simp [asBool, gv]
theorem ye_and {c y : Operand} {b x : Bool} (hc : eev e c = some (.bool b)) (hy : eev e y = some (gv b (.bool x))) : Ye P C n e ⟨d, .pick c y (.const (.bool false)), t, p, af, g⟩ (.bool (b && x)) :=
  fun ac w hf _ => by
    have h1 := hf.ev hc
    have h2 := hf.ev hy
    have h3 : ac.eval (.const (.bool false)) = .bool false := rfl
    simp only [execOp, h1, h2, h3]
    cases b <;> simp [asBool, gv]
theorem ye_or' {c y : Operand} {b x : Bool} (hc : eev e c = some (.bool b)) (hy : eev e y = some (.bool x)) : Ye P C n e ⟨d, .pick c (.const (.bool true)) y, t, p, af, g⟩ (.bool (b || x)) :=
  fun ac w hf _ => by
    have h1 := hf.ev hc
    have h2 := hf.ev hy
    have h3 : ac.eval (.const (.bool true)) = .bool true := rfl
    simp only [execOp, h1, h2, h3]
    cases b <;> simp [asBool]
theorem ye_and' {c y : Operand} {b x : Bool} (hc : eev e c = some (.bool b)) (hy : eev e y = some (.bool x)) : Ye P C n e ⟨d, .pick c y (.const (.bool false)), t, p, af, g⟩ (.bool (b && x)) :=
  fun ac w hf _ => by
    have h1 := hf.ev hc
    have h2 := hf.ev hy
    have h3 : ac.eval (.const (.bool false)) = .bool false := rfl
    simp only [execOp, h1, h2, h3]
    cases b <;> simp [asBool]
theorem ye_build {ty : TypeId} {parts : List (Nat × Operand)} {ps : List (Nat × Value)} {v : Value} (hr : ∀ w, (Instr.build ty ps.toArray).run P w = .ok v w) (hx : eevps e parts = some ps) : Ye P C n e ⟨d, .build ty parts.toArray, t, p, af, g⟩ v :=
  fun ac w hf _ => by
    have h1 := hf.evps hx
    have h2 : List.map (fun x : Nat × Operand => match x with | (i, x) => (i, ac.eval x)) parts = ps := h1
    simp [execOp, h2, hr w]
theorem ye_mkIface {ty : TypeId} {x : Operand} {v : Value} {ds : TypeDesc} (hu : P.underlying ty = some ds) (hd : (match ds with | .interface _ => true | _ => false) = false) (hx : eev e x = some v) : Ye P C n e ⟨d, .makeInterface ty x, t, p, af, g⟩ (.iface ty v) :=
  fun ac w hf _ => by
    cases ds <;> simp_all [execOp, hf.ev hx, Instr.makeInterface, run_underlying hu]
theorem ye_typeAssert {xt ty T : TypeId} {x : Operand} {v z : Value} {ds : TypeDesc} (hu : P.underlying ty = some ds) (hd : (match ds with | .interface _ => true | _ => false) = false) (hz : ∀ w, (zeroValue ty).run P w = .ok z w) (hx : eev e x = some (.iface T v)) :
    Ye P C n e ⟨d, .typeAssert x xt ty true, t, p, af, g⟩ (.tuple #[if T = ty then v else z, .bool (decide (T = ty))]) :=
  fun ac w hf _ => by
    by_cases h : T = ty
    · cases ds <;> simp_all [execOp, hf.ev hx, Instr.typeAssert, run_underlying hu]
    · cases ds <;> simp_all [execOp, hf.ev hx, Instr.typeAssert, run_underlying hu, hz w]
theorem ye_ifaceNil {ty ty' T : TypeId} {x : Operand} {v : Value} {c : Prop} [Decidable c] {ms : Array (String × TypeId)} (hu : P.underlying ty = some (.interface ms)) (hx : eev e x = some (if c then .nilIface else .iface T v)) :
    Ye P C n e ⟨d, .binOp .eql ty x (.const .nilIface) ty', t, p, af, g⟩ (.bool (decide c)) :=
  fun ac w hf _ => by
    have h3 : ac.eval (.const .nilIface) = .nilIface := rfl
    have e1 : ∀ k : Nat, (Op.equalIn (k + 1) ty (.iface T v) .nilIface).run P w = .ok false w := fun k => by simp [Op.equalIn, run_underlying hu]
    have e2 : ∀ k : Nat, (Op.equalIn (k + 1) ty .nilIface .nilIface).run P w = .ok true w := fun k => by simp [Op.equalIn, run_underlying hu]
    have f1 : (binOp .eql ty (.iface T v) .nilIface).run P w = .ok (.bool false) w := by
      simp only [binOp]
      simp [Op.equal, Op.maxDepth, e1 9999]
    have f2 : (binOp .eql ty .nilIface .nilIface).run P w = .ok (.bool true) w := by
      simp only [binOp]
      simp [Op.equal, Op.maxDepth, e2 9999]
    simp only [execOp, hf.ev hx, h3]
    by_cases h : c
    · simp only [h, decide_true]
      simp [eqGuard, f2]
    · simp only [h, decide_false]
      simp [eqGuard, f1]
theorem ye_extract {x : Operand} {vs : Array Value} {i : Nat} (v : Value) (hx : eev e x = some (.tuple vs)) (hv : vs[i]? = some v) : Ye P C n e ⟨d, .extract x i, t, p, af, g⟩ v :=
  fun ac w hf _ => by simp [execOp, hf.ev hx, Instr.extract, hv]
theorem ye_nilCheck {x : Operand} {a : Addr} (hx : eev e x = some (.pointer (some a))) : Ye P C n e ⟨d, .nilCheck x, t, p, af, g⟩ (.pointer (some a)) :=
  fun ac w hf _ => by simp [execOp, hf.ev hx]
theorem ye_fieldAddr {x : Operand} {b o s f : Nat} (k : Nat) (hk : FieldAt P s f k) (hx : eev e x = some (.pointer (some ⟨b, o, none⟩))) : Ye P C n e ⟨d, .fieldAddr s x f, t, p, af, g⟩ (.pointer (some ⟨b, o + k, none⟩)) :=
  fun ac w hf _ => by simp [execOp, hf.ev hx, hk _ w, add_at]
theorem ye_load {x : Operand} {ad : Addr} {ty : TypeId} {v : Value} (hag : ∀ w, (isAgg ty).run P w = .ok false w) (hx : eev e x = some (.pointer (some ad))) (hc : ∀ w, C w → w.cell? ad = some v) : Ye P C n e ⟨d, .load ty x, t, p, af, g⟩ v :=
  fun ac w hf hw => by
    simp [execOp, hf.ev hx, Instr.loadAt, Instr.sureAddr, loadVar, hag w, hc w hw]
theorem ye_loadAgg {x : Operand} {ad : Addr} {ty : TypeId} {m : Nat} (cs : List Value) (hag : ∀ w, (isAgg ty).run P w = .ok true w) (hsz' : ∀ w, (sizeOf ty).run P w = .ok m w) (hx : eev e x = some (.pointer (some ad)))
    (hc : ∀ w, C w → ∀ j v, cs[j]? = some v → w.cell? (ad.add j) = some v) (hm : cs.length = m) : Ye P C n e ⟨d, .load ty x, t, p, af, g⟩ (.agg cs.toArray) :=
  fun ac w hf hw => by
    have hsz : ∀ w, (sizeOf ty).run P w = .ok cs.length w := by rw [hm]; exact hsz'
    simp [execOp, hf.ev hx, Instr.loadAt, Instr.sureAddr, loadVar, hag w, hsz w, run_loadCells_list w ad cs (hc w hw)]
theorem ye_index {x ix : Operand} {b o len cap ty el : Nat} {k : IntKind} {i : Int} (j sz : Nat) (hu : P.underlying ty = some (.slice el)) (hsz : ∀ w, (sizeOf el).run P w = .ok sz w)
    (hx : eev e x = some (.slice (some ⟨b, o, none⟩) len cap)) (hi : eev e ix = some (.int k i)) (hj : i = (j : Int)) (hl : j < len) : Ye P C n e ⟨d, .indexAddr ty x ix, t, p, af, g⟩ (.pointer (some ⟨b, o + j * sz, none⟩)) :=
  fun ac w hf hw => by
    subst hj
    simp [execOp, hf.ev hx, hf.ev hi, Instr.indexAt, run_underlying hu, asIntOf, hl, hsz w, add_at]
theorem ye_sindex {x ix : Operand} {ty : Nat} {s : ByteArray} {k : IntKind} {i : Int} (j : Nat) (c : UInt8) (hu : P.underlying ty = some .string)
    (hx : eev e x = some (.string s)) (hi : eev e ix = some (.int k i)) (hj : i = (j : Int)) (hl : s.data[j]? = some c) : Ye P C n e ⟨d, .index ty x ix, t, p, af, g⟩ (.int .u8 (c.toNat : Int)) :=
  fun ac w hf hw => by
    subst hj
    have h2 : s[j]? = some c := by
      rw [← hl]; rfl
    simp [execOp, hf.ev hx, hf.ev hi, Instr.index, run_underlying hu, asIntOf, h2]
theorem ye_len {x : Operand} {ad : Option Addr} {len cap el : Nat} {ty : TypeId} {ats : Array TypeId} (hat : ats[0]? = some ty) (hu : P.underlying ty = some (.slice el)) (hx : eev e x = some (.slice ad len cap)) :
    Ye P C n e ⟨d, .call { callee := .builtin .len, args := #[x], argTypes := ats }, t, p, af, g⟩ (.int .i64 (len : Int)) :=
  fun ac w hf hw => by
    simp [execOp, resolve, hf.ev hx, invoke, builtin, Builtin.len_, hat, run_underlying hu, goInt]
theorem ye_slen {x : Operand} {s : ByteArray} {ty : TypeId} {ats : Array TypeId} (hat : ats[0]? = some ty) (hu : P.underlying ty = some .string) (hx : eev e x = some (.string s)) :
    Ye P C n e ⟨d, .call { callee := .builtin .len, args := #[x], argTypes := ats }, t, p, af, g⟩ (.int .i64 (s.size : Int)) :=
  fun ac w hf hw => by
    simp [execOp, resolve, hf.ev hx, invoke, builtin, Builtin.len_, hat, run_underlying hu, goInt]
end
section
variable {P : Program} {n : Nat} {e : Env} {C : World → Prop} {d : Option Tmp} {t : TypeId} {p : String} {af : Array Edge} {g : Option (Nat × Bool)}
theorem ye_seqlL {x y : Operand} {tx ty : TypeId} {l1 l2 : List UInt8} (hx : eev e x = some (.string ⟨l1.toArray⟩)) (hy : eev e y = some (.string ⟨l2.toArray⟩)) : Ye P C n e ⟨d, .binOp .eql tx x y ty, t, p, af, g⟩ (.bool (decide (l1 = l2))) := by
  have h := ye_seql (P := P) (n := n) (C := C) (d := d) (t := t) (p := p) (af := af) (g := g) (tx := tx) (ty := ty) hx hy
  rw [str_toList, str_toList, beqL] at h
  exact h
theorem ye_sneqL {x y : Operand} {tx ty : TypeId} {l1 l2 : List UInt8} (hx : eev e x = some (.string ⟨l1.toArray⟩)) (hy : eev e y = some (.string ⟨l2.toArray⟩)) : Ye P C n e ⟨d, .binOp .neq tx x y ty, t, p, af, g⟩ (.bool (!decide (l1 = l2))) := by
  have h := ye_sneq (P := P) (n := n) (C := C) (d := d) (t := t) (p := p) (af := af) (g := g) (tx := tx) (ty := ty) hx hy
  rw [str_toList, str_toList, beqL] at h
  exact h
theorem ye_catL {x y : Operand} {tx ty : TypeId} {l1 l2 : List UInt8} (hx : eev e x = some (.string ⟨l1.toArray⟩)) (hy : eev e y = some (.string ⟨l2.toArray⟩)) (h : l1.length + l2.length ≤ 9223372036854775807) : Ye P C n e ⟨d, .binOp .add tx x y ty, t, p, af, g⟩ (.string ⟨(l1 ++ l2).toArray⟩) := by
  have h := ye_cat (P := P) (n := n) (C := C) (d := d) (t := t) (p := p) (af := af) (g := g) (tx := tx) (ty := ty) hx hy (by simpa [ByteArray.size] using h)
  have e1 : (⟨l1.toArray⟩ : ByteArray) ++ ⟨l2.toArray⟩ = ⟨(l1 ++ l2).toArray⟩ := by
    apply ByteArray.ext
    simp [ByteArray.data_append]
  rw [e1] at h
  exact h
theorem ye_makeMethod {nm : String} {x : Operand} {v : Value} (hx : eev e x = some v) : Ye P C n e ⟨d, .makeFunc (.method nm) #[x] #[], t, p, af, g⟩ (.func (.method nm) #[v] #[]) :=
  fun ac w hf _ => by simp [execOp, Instr.makeFunc, hf.ev hx]
theorem ye_nilCheckM {nm : String} {x : Operand} {T : TypeId} {v : Value} (hx : eev e x = some (.func (.method nm) #[.iface T v] #[])) (hna : ∀ w, (nilAhead (P.types.size + Made.depth) T v nm).run P w = .ok (some false) w) :
    Ye P C n e ⟨d, .nilCheck x, t, p, af, g⟩ (.func (.method nm) #[.iface T v] #[]) :=
  fun ac w hf _ => by simp [execOp, hf.ev hx, hna w]
theorem ye_makeFunc {f : FuncId} {xs : List Operand} {vs : List Value} (hx : eevs e xs = some vs) : Ye P C n e ⟨d, .makeFunc (.func f) #[] xs.toArray, t, p, af, g⟩ (.func (.func f) #[] vs.toArray) :=
  fun ac w hf _ => by
    have h1 : (List.map ac.eval xs) = vs := hf.evs hx
    simp [execOp, Instr.makeFunc, h1]
end

theorem ye_index' {P : Program} {n : Nat} {e : Env} {C : World → Prop} {d : Option Tmp} {t : TypeId} {p : String} {af : Array Edge} {g : Option (Nat × Bool)} {x ix : Operand} {ad : Option Addr} {b o len cap ty el : Nat} {k : IntKind} {i : Int} (j sz : Nat) (hu : P.underlying ty = some (.slice el)) (hsz : ∀ w, (sizeOf el).run P w = .ok sz w)
    (had : ad = some ⟨b, o, none⟩) (hx : eev e x = some (.slice ad len cap)) (hi : eev e ix = some (.int k i)) (hj : i = (j : Int)) (hl : j < len) : Ye P C n e ⟨d, .indexAddr ty x ix, t, p, af, g⟩ (.pointer (some ⟨b, o + j * sz, none⟩)) := by
  subst had
  exact ye_index j sz hu hsz hx hi hj hl
theorem ye_ix {P : Program} {n : Nat} {e : Env} {C : World → Prop} {d : Option Tmp} {t : TypeId} {p : String} {af : Array Edge} {g : Option (Nat × Bool)} {x ix : Operand} {ad : Option Addr} {b o len cap ty el : Nat} {k : IntKind} {i : Int} (j : Nat) (hu : P.underlying ty = some (.slice el)) (hsz : ∀ w, (sizeOf el).run P w = .ok 1 w)
    (had : ad = some ⟨b, o, none⟩) (hx : eev e x = some (.slice ad len cap)) (hi : eev e ix = some (.int k i)) (hj : i = (j : Int)) (hl : j < len) : Ye P C n e ⟨d, .indexAddr ty x ix, t, p, af, g⟩ (.pointer (some ⟨b, o + j, none⟩)) := by
  have := ye_index' (P := P) (n := n) (e := e) (C := C) (d := d) (t := t) (p := p) (af := af) (g := g) j 1 hu hsz had hx hi hj hl
  rwa [Nat.mul_one] at this
section
variable {P : Program} {n : Nat} {e : Env} {w0 : World} {L : List BP} {R : List Rw} {F : List BP} {Q : Exit → Act → World → Prop} {ops : Array Oper} {rest : List Oper}
variable {κ β : Type} [DecidableEq κ]
theorem ye_lookup {ke : κ → Value} {ve : β → Value} {l : List (κ × β)} {mty kt et : TypeId} {D : Value → Prop} {d : Option Tmp} {t : TypeId} {p : String} {af : Array Edge} {g : Option (Nat × Bool)} {x y : Operand} {b : Nat} {zero : Value} (i : Nat) (k : κ) (K : KL P kt D) (hm : P.underlying mty = some (.map kt et))
    (hz : ∀ w, (zeroValue et).run P w = .ok zero w) (hinj : ∀ a b, ke a = ke b → a = b) (hD : ∀ p ∈ l, D (ke p.1)) (hk : D (ke k)) (hL : L[i]? = some (b, IsMap ke ve l)) (hx : eev e x = some (.map (some b))) (hy : eev e y = some (ke k)) :
    Ye P (Hp w0 L R F) n e ⟨d, .lookup mty x y false, t, p, af, g⟩ ((mget l k).elim zero ve) :=
  fun a w hf hc => by
    obtain ⟨o, ho, es, clock, rfl, hst, hes⟩ := hc.own _ (List.mem_of_getElem? hL)
    replace ho : w.heap[b]? = some (.map es clock) := ho
    have hkeys : ∀ e ∈ es.toList, D e.key := fun e he => by
      obtain ⟨p, hp, h1, _⟩ := map_mem hes he
      rw [h1]; exact hD p hp
    simp only [execOp, hf.ev hx, hf.ev hy]
    rcases K.find w hk es.toList hkeys with ⟨h1, h2⟩ | ⟨j, e0, h1, h2, h3⟩
    · have : mget l k = none := by
        simp only [mget, Option.map_eq_none_iff, List.find?_eq_none, decide_eq_true_eq]
        intro q hq he
        obtain ⟨x, hx, hx1, _⟩ := map_mem' hes hq
        exact h2 x hx (by rw [hx1, he])
      simp [Instr.lookup, run_underlying hm, MapKept.run_getObj_map ho, K.check w _ hk, h1, hz w, this, Result.andThen]
    · obtain ⟨q, hq, hq1, hq2⟩ := map_at hes h2
      have hqk : q.1 = k := hinj _ _ (by rw [← hq1, h3])
      have : mget l k = some q.2 := by
        unfold mget
        cases hf : l.find? (fun p => decide (p.1 = k)) with
        | none =>
          rw [List.find?_eq_none] at hf
          exact absurd (by simpa using hqk) (hf q (List.mem_of_getElem? hq))
        | some q' =>
          have hq'k : q'.1 = k := by simpa using List.find?_some hf
          have hmem := List.mem_of_find?_eq_some hf
          obtain ⟨j', hj'⟩ := List.getElem?_of_mem hmem
          have hlt : j < es.toList.length := (List.getElem?_eq_some_iff.1 h2).1
          have hll : es.toList.length = l.length := by simpa using congrArg List.length hes
          have hlt' : j' < es.toList.length := by rw [hll]; exact (List.getElem?_eq_some_iff.1 hj').1
          have hnd := hst.2.2
          have e1 : (es.toList.map (·.key))[j]? = some (ke k) := by simp only [List.getElem?_map, h2, Option.map_some, h3]
          have e2 : (es.toList.map (·.key))[j']? = some (ke k) := by
            obtain ⟨q2, hq2', hq21, _⟩ := map_at hes (List.getElem?_eq_getElem hlt')
            rw [hj'] at hq2'
            cases hq2'
            simp only [List.getElem?_map, List.getElem?_eq_getElem hlt', Option.map_some, hq21, hq'k]
          have : j = j' := (List.getElem?_inj (by simpa using hlt) hnd).1 (by rw [e1, e2])
          subst this
          rw [hq] at hj'
          cases hj'
          rfl
      simp [Instr.lookup, run_underlying hm, MapKept.run_getObj_map ho, K.check w _ hk, h1, this, hq2, Result.andThen]
end
section
variable {P : Program} {n : Nat} {e : Env} {C : World → Prop} {d : Option Tmp} {t : TypeId} {p : String} {af : Array Edge} {g : Option (Nat × Bool)}
theorem ye_sslice {x lo hi : Operand} {ty : TypeId} {l : List UInt8} {k1 k2 : IntKind} {a b : Int} (i j : Nat) (hu : P.underlying ty = some .string) (hx : eev e x = some (strV l)) (hlo : eev e lo = some (.int k1 a)) (hhi : eev e hi = some (.int k2 b)) (ha : a = (i : Int)) (hb : b = (j : Int)) (hij : i ≤ j) (hj : j ≤ l.length) :
    Ye P C n e ⟨d, .slice ty x (some lo) (some hi) none, t, p, af, g⟩ (strV ((l.drop i).take (j - i))) :=
  fun ac w hf _ => by
    subst ha
    subst hb
    have hsz : (⟨l.toArray⟩ : ByteArray).size = l.length := rfl
    simp [execOp, hf.ev hx, hf.ev hlo, hf.ev hhi, Instr.sliceAt, strV, Instr.slice, run_underlying hu, Instr.sliceBounds, Instr.sliceBound, asIntOf, hsz, hij, hj, Result.andThen, extract_list]
theorem ye_slenL {x : Operand} {l : List UInt8} {ty : TypeId} {ats : Array TypeId} (hat : ats[0]? = some ty) (hu : P.underlying ty = some .string) (hx : eev e x = some (strV l)) :
    Ye P C n e ⟨d, .call { callee := .builtin .len, args := #[x], argTypes := ats }, t, p, af, g⟩ (.int .i64 (l.length : Int)) := ye_slen hat hu hx
theorem ye_six {x ix : Operand} {ty : Nat} {l : List UInt8} {k : IntKind} {i : Int} (j : Nat) (hu : P.underlying ty = some .string) (hx : eev e x = some (strV l)) (hi : eev e ix = some (.int k i)) (hj : i = (j : Int)) (hl : j < l.length) :
    Ye P C n e ⟨d, .index ty x ix, t, p, af, g⟩ (.int .u8 ((l.getD j 0).toNat : Int)) := ye_sindex j (l.getD j 0) hu hx hi hj (by simp [List.getD, hl])
end
section
variable {P : Program} {n : Nat} {e : Env} {C : World → Prop} {d : Option Tmp} {t : TypeId} {p : String} {af : Array Edge} {g : Option (Nat × Bool)}
variable {k : IntKind} {a b : Int} {x y : Operand} {tx ty : TypeId}
theorem ye_addK (c : Int) (hx : eev e x = some (.int k a)) (hy : eev e y = some (.int k b)) (hc : k.wrap (a + b) = c) : Ye P C n e ⟨d, .binOp .add tx x y ty, t, p, af, g⟩ (.int k c) :=
  fun ac w hf _ => by simp [execOp, hf.ev hx, hf.ev hy, eqGuard, binOp, Op.intArith, hc]
theorem ye_subK (c : Int) (hx : eev e x = some (.int k a)) (hy : eev e y = some (.int k b)) (hc : k.wrap (a - b) = c) : Ye P C n e ⟨d, .binOp .sub tx x y ty, t, p, af, g⟩ (.int k c) :=
  fun ac w hf _ => by simp [execOp, hf.ev hx, hf.ev hy, eqGuard, binOp, Op.intArith, hc]
theorem ye_remK (c : Int) (hx : eev e x = some (.int k a)) (hy : eev e y = some (.int k b)) (hb : b ≠ 0) (hc : a.tmod b = c) : Ye P C n e ⟨d, .binOp .rem tx x y ty, t, p, af, g⟩ (.int k c) :=
  fun ac w hf _ => by simp [execOp, hf.ev hx, hf.ev hy, eqGuard, binOp, Op.intDiv, hb, hc]
theorem ye_quoK (c : Int) (hx : eev e x = some (.int k a)) (hy : eev e y = some (.int k b)) (hb : b ≠ 0) (hc : k.wrap (a.tdiv b) = c) : Ye P C n e ⟨d, .binOp .quo tx x y ty, t, p, af, g⟩ (.int k c) :=
  fun ac w hf _ => by simp [execOp, hf.ev hx, hf.ev hy, eqGuard, binOp, Op.intDiv, hb, hc]
theorem ye_convert {src dst : TypeId} {k2 : IntKind} (c : Int) {ds : TypeDesc} (h1 : P.underlying src = some ds) (h2 : P.underlying dst = some (.int k2)) (hx : eev e x = some (.int k a)) (hc : k2.wrap a = c) : Ye P C n e ⟨d, .convert src dst x, t, p, af, g⟩ (.int k2 c) :=
  fun ac w hf _ => by simp [execOp, hf.ev hx, convert, run_underlying h1, run_underlying h2, Conv.intToInt, hc]
end
end Go.Proofs.YtgbgddmbooaddaaGreatDoor

namespace Go.Proofs.YtgbgddmbooaddaaGreatDoor

def zI : Inv := ⟨0, 0, 0, 0, 0, []⟩
def atI (names : List (List UInt8)) (s : List UInt8) : Int := idxP (fun y => decide (y = s)) names
theorem atL_eq (names : List (List UInt8)) (s : List UInt8) : idxP (fun y => decide (s = y)) names = atI names s := by
  unfold atI
  congr 1
  funext y
  exact decide_eq_decide.2 ⟨Eq.symm, Eq.symm⟩

/-- The numbers of words, as far as they are some. -/
def setR : List (List UInt8) → List Int → List Int × Bool
  | [], acc => (acc, true)
  | s :: r, acc => if (numR s).2 then setR r (acc ++ [(numR s).1]) else (acc, false)
/-- guess. -/
def guessE (w names : List (List UInt8)) : Inv × Bool :=
  if (w.length : Int) < 3 then (zI, false)
  else if (w.length : Int) = 7 then (⟨11, atI names (w.getD 4 []), atI names (w.getD 0 []), (numR (w.getD 2 [])).1, (numR (w.getD 6 [])).1, []⟩, (numR (w.getD 2 [])).2 && (numR (w.getD 6 [])).2)
  else if w.getD 1 [] = [105, 110] then (⟨2, atI names (w.getD 0 []), 0, 0, 0, (setR (w.drop 2) []).1⟩, (setR (w.drop 2) []).2)
  else if (decide (w.getD 1 [] = [37]) && decide ((w.length : Int) = 5)) = true then (⟨6, atI names (w.getD 0 []), 0, (numR (w.getD 4 [])).1, (numR (w.getD 2 [])).1, []⟩, (numR (w.getD 2 [])).2 && (numR (w.getD 4 [])).2)
  else if (decide (w.getD 1 [] = [61, 61]) && (numR (w.getD 2 [])).2) = true then (⟨1, atI names (w.getD 0 []), 0, (numR (w.getD 2 [])).1, 0, []⟩, true)
  else if w.getD 1 [] = [62, 61] then (⟨3, atI names (w.getD 0 []), 0, (numR (w.getD 2 [])).1, 0, []⟩, (numR (w.getD 2 [])).2)
  else if (decide (w.getD 1 [] = [60, 61]) && (numR (w.getD 2 [])).2) = true then (⟨4, atI names (w.getD 0 []), 0, (numR (w.getD 2 [])).1, 0, []⟩, true)
  else if (decide (w.getD 1 [] = [33, 61]) && (numR (w.getD 2 [])).2) = true then (⟨5, atI names (w.getD 0 []), 0, 0, 0, []⟩, true)
  else if w.getD 1 [] = [61, 61] then (⟨7, atI names (w.getD 0 []), atI names (w.getD 2 []), 0, 0, []⟩, true)
  else if w.getD 1 [] = [33, 61] then (⟨8, atI names (w.getD 0 []), atI names (w.getD 2 []), 0, 0, []⟩, true)
  else if w.getD 1 [] = [60] then (⟨9, atI names (w.getD 0 []), atI names (w.getD 2 []), 0, 0, []⟩, true)
  else (⟨10, atI names (w.getD 0 []), atI names (w.getD 2 []), 0, 0, []⟩, decide (w.getD 1 [] = [60, 61]))
/-- Read. -/
def readE (text : List UInt8) (names : List (List UInt8)) : Inv × Int :=
  if namedE names ≠ 0 then (zI, namedE names)
  else if (names.length : Int) = 0 then (zI, 1)
  else if (8 : Int) < names.length then (zI, 3)
  else if atI names ((wordsE text).getD 0 []) < 0 then (zI, 5)
  else if ((!(guessE (wordsE text) names).2 || decide ((writeE (guessE (wordsE text) names).1 names).2 ≠ 0)) || !decide ((writeE (guessE (wordsE text) names).1 names).1 = text)) = true then (zI, 4)
  else ((guessE (wordsE text) names).1, 0)
end Go.Proofs.YtgbgddmbooaddaaGreatDoor

namespace Go.Proofs.YtgbgddmbooaddaaGreatDoor
open Go.RowKit

theorem bd25_ (w : World) : (Instr.build 25 [].toArray).run Tryz.prog w = .ok (.agg [.int .u8 0, .int .i64 0, .int .i64 0, .int .i64 0, .int .i64 0, .slice none 0 0].toArray) w := by kernel_rfl
theorem bd25_1 (a : Int) (w : World) : (Instr.build 25 [(1, .int .i64 a)].toArray).run Tryz.prog w = .ok (.agg [.int .u8 0, .int .i64 a, .int .i64 0, .int .i64 0, .int .i64 0, .slice none 0 0].toArray) w := by kernel_rfl
theorem bd25_012 (k a b : Int) (w : World) : (Instr.build 25 [(0, .int .u8 k), (1, .int .i64 a), (2, .int .i64 b)].toArray).run Tryz.prog w = .ok (.agg [.int .u8 k, .int .i64 a, .int .i64 b, .int .i64 0, .int .i64 0, .slice none 0 0].toArray) w := by kernel_rfl
theorem bd25_013 (k a x : Int) (w : World) : (Instr.build 25 [(0, .int .u8 k), (1, .int .i64 a), (3, .int .i64 x)].toArray).run Tryz.prog w = .ok (.agg [.int .u8 k, .int .i64 a, .int .i64 0, .int .i64 x, .int .i64 0, .slice none 0 0].toArray) w := by kernel_rfl
theorem bd25_0134 (k a x m : Int) (w : World) : (Instr.build 25 [(0, .int .u8 k), (1, .int .i64 a), (3, .int .i64 x), (4, .int .i64 m)].toArray).run Tryz.prog w = .ok (.agg [.int .u8 k, .int .i64 a, .int .i64 0, .int .i64 x, .int .i64 m, .slice none 0 0].toArray) w := by kernel_rfl
theorem bd25_0143 (k a m x : Int) (w : World) : (Instr.build 25 [(0, .int .u8 k), (1, .int .i64 a), (4, .int .i64 m), (3, .int .i64 x)].toArray).run Tryz.prog w = .ok (.agg [.int .u8 k, .int .i64 a, .int .i64 0, .int .i64 x, .int .i64 m, .slice none 0 0].toArray) w := by kernel_rfl
theorem bd25_01234 (k a b x m : Int) (w : World) : (Instr.build 25 [(0, .int .u8 k), (1, .int .i64 a), (2, .int .i64 b), (3, .int .i64 x), (4, .int .i64 m)].toArray).run Tryz.prog w = .ok (.agg [.int .u8 k, .int .i64 a, .int .i64 b, .int .i64 x, .int .i64 m, .slice none 0 0].toArray) w := by kernel_rfl
theorem bd25_015 (k a : Int) (ad : Option Addr) (n c : Nat) (w : World) : (Instr.build 25 [(0, .int .u8 k), (1, .int .i64 a), (5, .slice ad n c)].toArray).run Tryz.prog w = .ok (.agg [.int .u8 k, .int .i64 a, .int .i64 0, .int .i64 0, .int .i64 0, .slice ad n c].toArray) w := by kernel_rfl

theorem strs_open {w : World} {v : Value} {l : List (List UInt8)} (h : IsStrs w v l) : ∃ ad cap b o, v = .slice ad l.length cap ∧ l.length ≤ cap ∧ ∀ j, j < l.length → ad = some ⟨b, o, none⟩ ∧ w.cell? ⟨b, o + j, none⟩ = some (strV (l.getD j [])) := by
  obtain ⟨ad, cap, b, o, h1, h2, h3⟩ := sl_open strV h
  refine ⟨ad, cap, b, o, h1, h2, fun j hj => ?_⟩
  have := h3 j hj
  rw [show l.getD j [] = l[j] by simp [List.getD, hj]]
  exact this
theorem getD_le {l : List (List UInt8)} {m : Nat} (h : ∀ s ∈ l, s.length ≤ m) (j : Nat) : (l.getD j []).length ≤ m := by
  by_cases hj : j < l.length
  · rw [show l.getD j [] = l[j] by simp [List.getD, hj]]
    exact h _ (List.getElem_mem hj)
  · simp [List.getD, Nat.not_lt.1 hj]
theorem dropG {w : List (List UInt8)} {k : Nat} (h : k < w.length) : w.drop k = w.getD k [] :: w.drop (k + 1) := by
  rw [drop_cons h]
  simp [List.getD, h]
theorem ints_nil (w : World) : IsInts w (.slice none 0 0) [] := ⟨none, 0, 0, 0, rfl, Nat.le_refl _, fun j x hj => by simp at hj⟩
end Go.Proofs.YtgbgddmbooaddaaGreatDoor

namespace Go.Proofs.YtgbgddmbooaddaaGreatDoor
open Go.RowKit

set_option maxRecDepth 100000 in
theorem guess_any (ws names : List (List UInt8)) (wv nv : Value) (w0 : World) (hw0 : 0 < ws.length) (hwl : ws.length ≤ 1001) (hws : ∀ s ∈ ws, s.length ≤ 1000) (hwv : IsStrs w0 wv ws) (hnl : names.length ≤ 1000) (hnv : IsStrs w0 nv names) : Calls Tryz.prog 47 #[wv, nv] w0 fun e w' => ∃ sv, e = .returned (.tuple #[.agg (cellsI (sv, (guessE ws names).1)).toArray, .bool (guessE ws names).2]) ∧ Hp w0 [] [⟨sv, (guessE ws names).1.set.length, 2, 1, (guessE ws names).1.set.map (.int .i64)⟩] [] w' := by
  obtain ⟨ad, cap, b, o, rfl, hcap, hs⟩ := strs_open hwv
  refine enterA 206 Tryz.func47 rfl Tryz.ntmps47 rfl (Hp w0 [] [] []) (Hp.init _) ?_
  refine H.seq ?_
  refine H.region ?_
  refine H.allocA Tryz.zeroValue25 (by decide) (fun b4 hb4 => ?_)
  refine H.q (yl_assign rfl) rfl rfl (by decide) ?_
  refine HN.done ?_
  refine HN.keep [(0, _), (1, _), (4, _)] ⟨rfl, rfl, rfl, trivial⟩ ?_
  refine HN.then ?_
  refine H.seq ?_
  refine H.region ?_
  refine H.q (yl_move rfl) rfl rfl (by decide) ?_
  refine H.q (yl_move rfl) rfl rfl (by decide) ?_
  refine H.q (yl_ix 0 Tryz.underlying26 Tryz.sizeOf9 (hs 0 hw0).1 rfl rfl rfl hw0) rfl rfl (by decide) ?_
  refine H.q (yl_load Tryz.isAgg9 rfl (fun w hw => cell_ext hw.ext (hs 0 hw0).2)) rfl rfl (by decide) ?_
  refine H.q (yl_call (xs := [.tmp 22, .tmp 25]) Tryz.call46 (stab_hp _ _ _ _) rfl (fun w hw => refAt_any names nv (ws.getD 0 []) w (by omega) (hnv.ext hw.ext))) rfl rfl (by decide) ?_
  refine H.q (yl_assign rfl) rfl rfl (by decide) ?_
  refine HN.done ?_
  refine HN.keep [(0, _), (1, _), (4, _), (6, _)] ⟨rfl, rfl, rfl, rfl, trivial⟩ ?_
  refine HN.then ?_
  refine H.seq ?_
  refine H.seq ?_
  refine H.region ?_
  refine H.q (yl_move rfl) rfl rfl (by decide) ?_
  refine H.q (yl_len rfl Tryz.underlying26 rfl) rfl rfl (by decide) ?_
  refine H.q (yl_lss rfl rfl) rfl rfl (by decide) ?_
  refine HN.done ?_
  refine HN.keep [(0, _), (1, _), (4, _), (6, _), (29, _)] ⟨rfl, rfl, rfl, rfl, rfl, trivial⟩ ?_
  refine HN.then ?_
  refine H.cond _ rfl (fun t0 => ?_) (fun t0 => ?_)
  · simp only [decide_eq_true_eq] at t0
    refine H.keep [(4, _)] ⟨rfl, trivial⟩ ?_
    refine H.seq ?_
    refine H.region ?_
    refine H.q (yl_build (bd25_) rfl) rfl rfl (by decide) ?_
    refine H.storeA 0 rfl rfl rfl Tryz.sizeOf25 rfl rfl ?_
    refine H.q (yl_assign rfl) rfl rfl (by decide) ?_
    refine HN.done ?_
    refine HN.keep [(4, _), (5, _)] ⟨rfl, rfl, trivial⟩ ?_
    refine HN.then ?_
    refine HR.ret ?_
    refine HR.then ?_
    refine HR.retC2 0 _ Tryz.results47 Tryz.isAgg25 Tryz.sizeOf25 rfl rfl rfl rfl (fun w hw => ?_)
    have hg : guessE ws names = (zI, false) := by unfold guessE; rw [if_pos t0]
    exact ⟨.slice none 0 0, by rw [hg]; rfl, by rw [hg]; exact hw.base.rowNil 2 1⟩
  · simp only [decide_eq_false_iff_not] at t0
    have h1 : 1 < ws.length := by omega
    have h2 : 2 < ws.length := by omega
    refine H.keep [(0, _), (1, _), (4, _), (6, _)] ⟨rfl, rfl, rfl, rfl, trivial⟩ ?_
    refine HN.skip ?_
    refine HN.then ?_
    refine H.seq ?_
    refine H.seq ?_
    refine H.region ?_
    refine H.q (yl_move rfl) rfl rfl (by decide) ?_
    refine H.q (yl_len rfl Tryz.underlying26 rfl) rfl rfl (by decide) ?_
    refine H.q (yl_eql rfl rfl) rfl rfl (by decide) ?_
    refine HN.done ?_
    refine HN.keep [(0, _), (1, _), (4, _), (6, _), (33, _)] ⟨rfl, rfl, rfl, rfl, rfl, trivial⟩ ?_
    refine HN.then ?_
    refine H.cond _ rfl (fun t1 => ?_) (fun t1 => ?_)
    · simp only [decide_eq_true_eq] at t1
      have h4 : 4 < ws.length := by omega
      have h6 : 6 < ws.length := by omega
      refine H.keep [(0, _), (1, _), (4, _), (6, _)] ⟨rfl, rfl, rfl, rfl, trivial⟩ ?_
      refine H.seq ?_
      refine H.region ?_
      refine H.q (yl_move rfl) rfl rfl (by decide) ?_
      refine H.q (yl_ix 2 Tryz.underlying26 Tryz.sizeOf9 (hs 2 h2).1 rfl rfl rfl h2) rfl rfl (by decide) ?_
      refine H.q (yl_load Tryz.isAgg9 rfl (fun w hw => cell_ext hw.ext (hs 2 h2).2)) rfl rfl (by decide) ?_
      refine H.q (yl_call (xs := [.tmp 37]) Tryz.call77 (stab_hp _ _ _ _) rfl (fun w hw => numR_any (ws.getD 2 []) w (getD_le hws _))) rfl rfl (by decide) ?_
      refine H.q (yl_move rfl) rfl rfl (by decide) ?_
      refine H.q (yl_extract _ rfl rfl) rfl rfl (by decide) ?_
      refine H.q (yl_extract _ rfl rfl) rfl rfl (by decide) ?_
      refine H.q (yl_assign rfl) rfl rfl (by decide) ?_
      refine H.q (yl_assign rfl) rfl rfl (by decide) ?_
      refine HN.done ?_
      refine HN.keep [(0, _), (1, _), (4, _), (6, _), (7, _), (8, _)] ⟨rfl, rfl, rfl, rfl, rfl, rfl, trivial⟩ ?_
      refine HN.then ?_
      refine H.seq ?_
      refine H.region ?_
      refine H.q (yl_move rfl) rfl rfl (by decide) ?_
      refine H.q (yl_ix 6 Tryz.underlying26 Tryz.sizeOf9 (hs 6 h6).1 rfl rfl rfl h6) rfl rfl (by decide) ?_
      refine H.q (yl_load Tryz.isAgg9 rfl (fun w hw => cell_ext hw.ext (hs 6 h6).2)) rfl rfl (by decide) ?_
      refine H.q (yl_call (xs := [.tmp 44]) Tryz.call77 (stab_hp _ _ _ _) rfl (fun w hw => numR_any (ws.getD 6 []) w (getD_le hws _))) rfl rfl (by decide) ?_
      refine H.q (yl_move rfl) rfl rfl (by decide) ?_
      refine H.q (yl_extract _ rfl rfl) rfl rfl (by decide) ?_
      refine H.q (yl_extract _ rfl rfl) rfl rfl (by decide) ?_
      refine H.q (yl_assign rfl) rfl rfl (by decide) ?_
      refine H.q (yl_assign rfl) rfl rfl (by decide) ?_
      refine HN.done ?_
      refine HN.keep [(0, _), (1, _), (4, _), (6, _), (7, _), (8, _), (9, _), (10, _)] ⟨rfl, rfl, rfl, rfl, rfl, rfl, rfl, rfl, trivial⟩ ?_
      refine HN.then ?_
      refine H.seq ?_
      refine H.region ?_
      refine H.q (yl_move rfl) rfl rfl (by decide) ?_
      refine H.q (yl_move rfl) rfl rfl (by decide) ?_
      refine H.q (yl_ix 4 Tryz.underlying26 Tryz.sizeOf9 (hs 4 h4).1 rfl rfl rfl h4) rfl rfl (by decide) ?_
      refine H.q (yl_load Tryz.isAgg9 rfl (fun w hw => cell_ext hw.ext (hs 4 h4).2)) rfl rfl (by decide) ?_
      refine H.q (yl_call (xs := [.tmp 48, .tmp 51]) Tryz.call46 (stab_hp _ _ _ _) rfl (fun w hw => refAt_any names nv (ws.getD 4 []) w (by omega) (hnv.ext hw.ext))) rfl rfl (by decide) ?_
      refine H.q (yl_move rfl) rfl rfl (by decide) ?_
      refine H.q (yl_move rfl) rfl rfl (by decide) ?_
      refine H.q (yl_move rfl) rfl rfl (by decide) ?_
      refine H.q (yl_build (bd25_01234 _ _ _ _ _) rfl) rfl rfl (by decide) ?_
      refine H.q (yl_move rfl) rfl rfl (by decide) ?_
      refine H.q (yl_move rfl) rfl rfl (by decide) ?_
      refine H.qg (wn_t rfl rfl (by decide) rfl) (fun hg => yl_sub [(10, _)] ⟨rfl, trivial⟩ (yl_move rfl)) rfl (by decide) ?_
      refine H.q (yl_and rfl rfl) rfl rfl (by decide) ?_
      refine H.storeA 0 rfl rfl rfl Tryz.sizeOf25 rfl rfl ?_
      refine H.q (yl_assign rfl) rfl rfl (by decide) ?_
      refine HN.done ?_
      refine HN.keep [(4, _), (5, _)] ⟨rfl, rfl, trivial⟩ ?_
      refine HN.then ?_
      refine HR.ret ?_
      refine HR.then ?_
      refine HR.retC2 0 _ Tryz.results47 Tryz.isAgg25 Tryz.sizeOf25 rfl rfl rfl rfl (fun w hw => ?_)
      have hg : guessE ws names = (⟨11, atI names (ws.getD 4 []), atI names (ws.getD 0 []), (numR (ws.getD 2 [])).1, (numR (ws.getD 6 [])).1, []⟩, (numR (ws.getD 2 [])).2 && (numR (ws.getD 6 [])).2) := by unfold guessE; rw [if_neg t0, if_pos t1]
      exact ⟨.slice none 0 0, by rw [hg]; rfl, by rw [hg]; exact hw.base.rowNil 2 1⟩
    · simp only [decide_eq_false_iff_not] at t1
      refine H.keep [(0, _), (1, _), (4, _), (6, _)] ⟨rfl, rfl, rfl, rfl, trivial⟩ ?_
      refine HN.skip ?_
      refine HN.then ?_
      refine H.seq ?_
      refine H.seq ?_
      refine H.region ?_
      refine H.q (yl_move rfl) rfl rfl (by decide) ?_
      refine H.q (yl_ix 1 Tryz.underlying26 Tryz.sizeOf9 (hs 1 h1).1 rfl rfl rfl h1) rfl rfl (by decide) ?_
      refine H.q (yl_load Tryz.isAgg9 rfl (fun w hw => cell_ext hw.ext (hs 1 h1).2)) rfl rfl (by decide) ?_
      refine H.q (yl_seqlL rfl rfl) rfl rfl (by decide) ?_
      refine HN.done ?_
      refine HN.keep [(0, _), (1, _), (4, _), (6, _), (64, _)] ⟨rfl, rfl, rfl, rfl, rfl, trivial⟩ ?_
      refine HN.then ?_
      refine H.cond _ rfl (fun t2 => ?_) (fun t2 => ?_)
      · simp only [decide_eq_true_eq] at t2
        refine H.keep [(0, _), (4, _), (6, _)] ⟨rfl, rfl, rfl, trivial⟩ ?_
        refine H.seq ?_
        refine H.region ?_
        refine H.q (yl_move rfl) rfl rfl (by decide) ?_
        refine H.q (yl_build (bd25_01 _ _) rfl) rfl rfl (by decide) ?_
        refine H.allocA Tryz.zeroValue25 (by decide) (fun b11 hb11 => ?_)
        refine H.storeA 0 rfl rfl rfl Tryz.sizeOf25 rfl rfl ?_
        refine HN.done ?_
        refine HN.keep [(0, _), (4, _), (11, _)] ⟨rfl, rfl, rfl, trivial⟩ ?_
        refine HN.then ?_
        refine H.seq ?_
        refine H.seq ?_
        refine H.region ?_
        refine H.q (yl_assign rfl) rfl rfl (by decide) ?_
        refine HN.done ?_
        refine HN.keep [(0, _), (4, _), (11, _), (12, _)] ⟨rfl, rfl, rfl, rfl, trivial⟩ ?_
        refine HN.then ?_
        refine H.block ?_
        refine H.loop (fun z : Nat × Value × List Int => [(0, .slice ad ws.length cap), (4, .pointer (some ⟨b4, 0, none⟩)), (11, .pointer (some ⟨b11, 0, none⟩)), (12, .int .i64 (z.1 : Int))]) (fun z => 2 ≤ z.1 ∧ z.1 ≤ ws.length ∧ z.2.2.length ≤ z.1 ∧ setR (ws.drop z.1) z.2.2 = setR (ws.drop 2) [] ∧ z.2.1.cells = #[z.2.1] ∧ z.2.1.oneCell' = true) (fun z => Hp w0 [(b11, ex (.cells ([.int .u8 2, .int .i64 (atI names (ws.getD 0 [])), .int .i64 0, .int .i64 0, .int .i64 0, z.2.1].toArray) 25)), (b4, ex (.cells [.int .u8 0, .int .i64 0, .int .i64 0, .int .i64 0, .int .i64 0, .slice none 0 0].toArray 25))] [⟨z.2.1, z.2.2.length, 2, 1, z.2.2.map (.int .i64)⟩] []) (fun z => ws.length - z.1) (2, .slice none 0 0, []) ⟨Nat.le_refl _, by simp only; omega, Nat.zero_le _, rfl, rfl, rfl⟩ ⟨rfl, rfl, rfl, rfl, trivial⟩ (fun w hw => hw.rowNil 2 1) (fun z hI => ?_)
        obtain ⟨k, sv, acc⟩ := z
        obtain ⟨hk2, hk0, ha0, hk1, hc1, hc2⟩ := hI
        simp only at hk2 hk0 ha0 hk1 hc1 hc2
        refine H.seq ?_
        refine H.seq ?_
        refine H.region ?_
        refine H.q (yl_move rfl) rfl rfl (by decide) ?_
        refine H.q (yl_move rfl) rfl rfl (by decide) ?_
        refine H.q (yl_len rfl Tryz.underlying26 rfl) rfl rfl (by decide) ?_
        refine H.q (yl_lss rfl rfl) rfl rfl (by decide) ?_
        refine HN.done ?_
        refine HN.keep [(0, _), (4, _), (11, _), (12, _), (70, _)] ⟨rfl, rfl, rfl, rfl, rfl, trivial⟩ ?_
        refine HN.then ?_
        refine H.cond _ rfl (fun t3 => ?_) (fun t3 => ?_)
        · simp only [decide_eq_true_eq] at t3; have hk : k < ws.length := by omega
          rw [dropG hk, setR] at hk1
          refine H.keep [(0, _), (4, _), (11, _), (12, _)] ⟨rfl, rfl, rfl, rfl, trivial⟩ ?_
          refine HN.skip ?_
          refine HN.then ?_
          refine H.seq ?_
          refine H.block ?_
          refine H.seq ?_
          refine H.region ?_
          refine H.q (yl_move rfl) rfl rfl (by decide) ?_
          refine H.q (yl_move rfl) rfl rfl (by decide) ?_
          refine H.q (yl_ix k Tryz.underlying26 Tryz.sizeOf9 (hs k hk).1 rfl rfl rfl hk) rfl rfl (by decide) ?_
          refine H.q (yl_load Tryz.isAgg9 rfl (fun w hw => cell_ext hw.ext (hs k hk).2)) rfl rfl (by decide) ?_
          refine H.q (yl_call (xs := [.tmp 77]) Tryz.call77 (stab_hp _ _ _ _) rfl (fun w hw => numR_any (ws.getD k []) w (getD_le hws _))) rfl rfl (by decide) ?_
          refine H.q (yl_move rfl) rfl rfl (by decide) ?_
          refine H.q (yl_extract _ rfl rfl) rfl rfl (by decide) ?_
          refine H.q (yl_extract _ rfl rfl) rfl rfl (by decide) ?_
          refine H.q (yl_assign rfl) rfl rfl (by decide) ?_
          refine H.q (yl_assign rfl) rfl rfl (by decide) ?_
          refine HN.done ?_
          refine HN.keep [(0, _), (4, _), (11, _), (12, _), (13, _), (14, _)] ⟨rfl, rfl, rfl, rfl, rfl, rfl, trivial⟩ ?_
          refine HN.then ?_
          refine H.seq ?_
          refine H.seq ?_
          refine H.region ?_
          refine H.q (yl_move rfl) rfl rfl (by decide) ?_
          refine H.q (yl_not rfl) rfl rfl (by decide) ?_
          refine HN.done ?_
          refine HN.keep [(0, _), (4, _), (11, _), (12, _), (13, _), (82, _)] ⟨rfl, rfl, rfl, rfl, rfl, rfl, trivial⟩ ?_
          refine HN.then ?_
          refine H.cond _ rfl (fun t4 => ?_) (fun t4 => ?_)
          · simp only [Bool.not_eq_true'] at t4
            rw [if_neg (by rw [t4]; decide)] at hk1
            refine H.keep [(4, _), (11, _)] ⟨rfl, rfl, trivial⟩ ?_
            refine H.seq ?_
            refine H.region ?_
            refine H.q (yl_loadAgg _ Tryz.isAgg25 Tryz.sizeOf25 rfl (fun w hw => cells_of_blk (hw.blk 0 rfl)) rfl) rfl rfl (by decide) ?_
            refine H.storeA 1 rfl rfl (by simp only [List.all_cons, List.all_nil, hc2]; rfl) Tryz.sizeOf25 rfl rfl ?_
            refine H.q (yl_assign rfl) rfl rfl (by decide) ?_
            refine HN.done ?_
            refine HN.keep [(4, _), (5, _)] ⟨rfl, rfl, trivial⟩ ?_
            refine HN.then ?_
            refine HR.ret ?_
            refine HR.then ?_
            refine HR.block ?_
            refine HR.then ?_
            refine HR.then ?_
            refine HR.block ?_
            refine HR.then ?_
            refine HR.then ?_
            refine HR.retC2 1 _ Tryz.results47 Tryz.isAgg25 Tryz.sizeOf25 rfl rfl rfl rfl (fun w hw => ?_)
            have hg : guessE ws names = (⟨2, atI names (ws.getD 0 []), 0, 0, 0, acc⟩, false) := by unfold guessE; rw [if_neg t0, if_neg t1, if_pos t2, ← hk1]
            exact ⟨sv, by rw [hg], by rw [hg]; exact hw.drop.drop⟩
          · simp only [Bool.not_eq_false'] at t4
            rw [if_pos t4] at hk1
            refine H.keep [(0, _), (4, _), (11, _), (12, _), (13, _)] ⟨rfl, rfl, rfl, rfl, rfl, trivial⟩ ?_
            refine HN.skip ?_
            refine HN.then ?_
            refine H.region ?_
            refine H.q (yl_fieldAddr _ fa25_5 rfl) rfl rfl (by decide) ?_
            refine H.q (yl_load Tryz.isAgg23 rfl (fun w hw => hw.cell 0 rfl rfl)) rfl rfl (by decide) ?_
            refine H.q (yl_move rfl) rfl rfl (by decide) ?_
            refine H.buildSlice (bs23 _) rfl (by decide) (fun b87 hb87 => ?_)
            refine H.append 0 [.int .i64 (numR (ws.getD k [])).1] el23 rfl rfl rfl rfl (fun w hw => news1 (hw.blk 0 rfl)) (by simp [Value.oneCell']) (by simp only; omega) (by decide) (by decide) (fun v88 => ?_)
            refine H.pull (fun w hw => Rw.open (hw.row 0 rfl)) (fun hv => ?_)
            obtain ⟨ad8, cap8, b8, hv8, _⟩ := hv
            simp only at hv8
            subst hv8
            refine H.q (yl_fieldAddr _ fa25_5 rfl) rfl rfl (by decide) ?_
            refine H.store1 1 rfl rfl rfl rfl Tryz.sizeOf23 rfl rfl ?_
            refine HN.done ?_
            refine HN.keep [(0, _), (4, _), (11, _), (12, _)] ⟨rfl, rfl, rfl, rfl, trivial⟩ ?_
            refine HN.block ?_
            refine HN.then ?_
            refine H.region ?_
            refine H.q (yl_move rfl) rfl rfl (by decide) ?_
            refine H.q (yl_add rfl rfl _ rfl (by omega)) rfl rfl (by decide) ?_
            refine H.q (yl_assign rfl) rfl rfl (by decide) ?_
            refine HN.done ?_
            refine HN.keep [(0, _), (4, _), (11, _), (12, _)] ⟨rfl, rfl, rfl, rfl, trivial⟩ ?_
            refine HN.then ?_
            refine H.at (k + 1, _, acc ++ [(numR (ws.getD k [])).1]) ⟨⟨by simp only; omega, by simp only; omega, by simp only [List.length_append, List.length_cons, List.length_nil]; omega, hk1, rfl, rfl⟩, by simp only; omega⟩ ⟨rfl, rfl, rfl, rfl, trivial⟩ (fun w hw => by simpa using hw.drop)
        · simp only [decide_eq_false_iff_not] at t3
          rw [List.drop_eq_nil_of_le (by omega), setR] at hk1
          refine H.keep [(4, _), (11, _)] ⟨rfl, rfl, trivial⟩ ?_
          refine HX.exit ?_
          refine HX.then ?_
          refine HX.then ?_
          refine HX.hit ?_
          refine HN.then ?_
          refine H.seq ?_
          refine H.region ?_
          refine H.q (yl_loadAgg _ Tryz.isAgg25 Tryz.sizeOf25 rfl (fun w hw => cells_of_blk (hw.blk 0 rfl)) rfl) rfl rfl (by decide) ?_
          refine H.storeA 1 rfl rfl (by simp only [List.all_cons, List.all_nil, hc2]; rfl) Tryz.sizeOf25 rfl rfl ?_
          refine H.q (yl_assign rfl) rfl rfl (by decide) ?_
          refine HN.done ?_
          refine HN.keep [(4, _), (5, _)] ⟨rfl, rfl, trivial⟩ ?_
          refine HN.then ?_
          refine HR.ret ?_
          refine HR.then ?_
          refine HR.retC2 1 _ Tryz.results47 Tryz.isAgg25 Tryz.sizeOf25 rfl rfl rfl rfl (fun w hw => ?_)
          have hg : guessE ws names = (⟨2, atI names (ws.getD 0 []), 0, 0, 0, acc⟩, true) := by unfold guessE; rw [if_neg t0, if_neg t1, if_pos t2, ← hk1]
          exact ⟨sv, by rw [hg], by rw [hg]; exact hw.drop.drop⟩
      · simp only [decide_eq_false_iff_not] at t2
        refine H.keep [(0, _), (1, _), (4, _), (6, _)] ⟨rfl, rfl, rfl, rfl, trivial⟩ ?_
        refine HN.skip ?_
        refine HN.then ?_
        refine H.seq ?_
        refine H.seq ?_
        refine H.region ?_
        refine H.q (yl_move rfl) rfl rfl (by decide) ?_
        refine H.q (yl_ix 1 Tryz.underlying26 Tryz.sizeOf9 (hs 1 h1).1 rfl rfl rfl h1) rfl rfl (by decide) ?_
        refine H.q (yl_load Tryz.isAgg9 rfl (fun w hw => cell_ext hw.ext (hs 1 h1).2)) rfl rfl (by decide) ?_
        refine H.q (yl_seqlL rfl rfl) rfl rfl (by decide) ?_
        refine H.q (yl_move rfl) rfl rfl (by decide) ?_
        refine H.qg (wn_t rfl rfl (by decide) rfl) (fun hg => yl_sub [(0, _)] ⟨rfl, trivial⟩ (yl_move rfl)) rfl (by decide) ?_
        refine H.qg (wn_t rfl rfl (by decide) rfl) (fun hg => yl_sub [(96, _)] ⟨slT rfl hg, trivial⟩ (yl_len rfl Tryz.underlying26 rfl)) rfl (by decide) ?_
        refine H.qg (wn_t rfl rfl (by decide) rfl) (fun hg => yl_sub [(97, _)] ⟨slT rfl hg, trivial⟩ (yl_eql rfl rfl)) rfl (by decide) ?_
        refine H.q (yl_and rfl rfl) rfl rfl (by decide) ?_
        refine HN.done ?_
        refine HN.keep [(0, _), (1, _), (4, _), (6, _), (99, _)] ⟨rfl, rfl, rfl, rfl, rfl, trivial⟩ ?_
        refine HN.then ?_
        refine H.cond _ rfl (fun t5 => ?_) (fun t5 => ?_)
        · have hkp := t5
          simp only [Bool.and_eq_true, decide_eq_true_eq] at hkp
          have h4 : 4 < ws.length := by omega
          refine H.keep [(0, _), (4, _), (6, _)] ⟨rfl, rfl, rfl, trivial⟩ ?_
          refine H.seq ?_
          refine H.region ?_
          refine H.q (yl_move rfl) rfl rfl (by decide) ?_
          refine H.q (yl_ix 2 Tryz.underlying26 Tryz.sizeOf9 (hs 2 h2).1 rfl rfl rfl h2) rfl rfl (by decide) ?_
          refine H.q (yl_load Tryz.isAgg9 rfl (fun w hw => cell_ext hw.ext (hs 2 h2).2)) rfl rfl (by decide) ?_
          refine H.q (yl_call (xs := [.tmp 103]) Tryz.call77 (stab_hp _ _ _ _) rfl (fun w hw => numR_any (ws.getD 2 []) w (getD_le hws _))) rfl rfl (by decide) ?_
          refine H.q (yl_move rfl) rfl rfl (by decide) ?_
          refine H.q (yl_extract _ rfl rfl) rfl rfl (by decide) ?_
          refine H.q (yl_extract _ rfl rfl) rfl rfl (by decide) ?_
          refine H.q (yl_assign rfl) rfl rfl (by decide) ?_
          refine H.q (yl_assign rfl) rfl rfl (by decide) ?_
          refine HN.done ?_
          refine HN.keep [(0, _), (4, _), (6, _), (15, _), (16, _)] ⟨rfl, rfl, rfl, rfl, rfl, trivial⟩ ?_
          refine HN.then ?_
          refine H.seq ?_
          refine H.region ?_
          refine H.q (yl_move rfl) rfl rfl (by decide) ?_
          refine H.q (yl_ix 4 Tryz.underlying26 Tryz.sizeOf9 (hs 4 h4).1 rfl rfl rfl h4) rfl rfl (by decide) ?_
          refine H.q (yl_load Tryz.isAgg9 rfl (fun w hw => cell_ext hw.ext (hs 4 h4).2)) rfl rfl (by decide) ?_
          refine H.q (yl_call (xs := [.tmp 110]) Tryz.call77 (stab_hp _ _ _ _) rfl (fun w hw => numR_any (ws.getD 4 []) w (getD_le hws _))) rfl rfl (by decide) ?_
          refine H.q (yl_move rfl) rfl rfl (by decide) ?_
          refine H.q (yl_extract _ rfl rfl) rfl rfl (by decide) ?_
          refine H.q (yl_extract _ rfl rfl) rfl rfl (by decide) ?_
          refine H.q (yl_assign rfl) rfl rfl (by decide) ?_
          refine H.q (yl_assign rfl) rfl rfl (by decide) ?_
          refine HN.done ?_
          refine HN.keep [(4, _), (6, _), (15, _), (16, _), (17, _), (18, _)] ⟨rfl, rfl, rfl, rfl, rfl, rfl, trivial⟩ ?_
          refine HN.then ?_
          refine H.seq ?_
          refine H.region ?_
          refine H.q (yl_move rfl) rfl rfl (by decide) ?_
          refine H.q (yl_move rfl) rfl rfl (by decide) ?_
          refine H.q (yl_move rfl) rfl rfl (by decide) ?_
          refine H.q (yl_build (bd25_0134 _ _ _ _) rfl) rfl rfl (by decide) ?_
          refine H.q (yl_move rfl) rfl rfl (by decide) ?_
          refine H.q (yl_move rfl) rfl rfl (by decide) ?_
          refine H.qg (wn_t rfl rfl (by decide) rfl) (fun hg => yl_sub [(18, _)] ⟨rfl, trivial⟩ (yl_move rfl)) rfl (by decide) ?_
          refine H.q (yl_and rfl rfl) rfl rfl (by decide) ?_
          refine H.storeA 0 rfl rfl rfl Tryz.sizeOf25 rfl rfl ?_
          refine H.q (yl_assign rfl) rfl rfl (by decide) ?_
          refine HN.done ?_
          refine HN.keep [(4, _), (5, _)] ⟨rfl, rfl, trivial⟩ ?_
          refine HN.then ?_
          refine HR.ret ?_
          refine HR.then ?_
          refine HR.retC2 0 _ Tryz.results47 Tryz.isAgg25 Tryz.sizeOf25 rfl rfl rfl rfl (fun w hw => ?_)
          have hg : guessE ws names = (⟨6, atI names (ws.getD 0 []), 0, (numR (ws.getD 4 [])).1, (numR (ws.getD 2 [])).1, []⟩, (numR (ws.getD 2 [])).2 && (numR (ws.getD 4 [])).2) := by unfold guessE; rw [if_neg t0, if_neg t1, if_neg t2, if_pos t5]
          exact ⟨.slice none 0 0, by rw [hg]; rfl, by rw [hg]; exact hw.base.rowNil 2 1⟩
        · refine H.keep [(0, _), (1, _), (4, _), (6, _)] ⟨rfl, rfl, rfl, rfl, trivial⟩ ?_
          refine HN.skip ?_
          refine HN.then ?_
          refine H.seq ?_
          refine H.region ?_
          refine H.q (yl_move rfl) rfl rfl (by decide) ?_
          refine H.q (yl_ix 2 Tryz.underlying26 Tryz.sizeOf9 (hs 2 h2).1 rfl rfl rfl h2) rfl rfl (by decide) ?_
          refine H.q (yl_load Tryz.isAgg9 rfl (fun w hw => cell_ext hw.ext (hs 2 h2).2)) rfl rfl (by decide) ?_
          refine H.q (yl_call (xs := [.tmp 125]) Tryz.call77 (stab_hp _ _ _ _) rfl (fun w hw => numR_any (ws.getD 2 []) w (getD_le hws _))) rfl rfl (by decide) ?_
          refine H.q (yl_move rfl) rfl rfl (by decide) ?_
          refine H.q (yl_extract _ rfl rfl) rfl rfl (by decide) ?_
          refine H.q (yl_extract _ rfl rfl) rfl rfl (by decide) ?_
          refine H.q (yl_assign rfl) rfl rfl (by decide) ?_
          refine H.q (yl_assign rfl) rfl rfl (by decide) ?_
          refine HN.done ?_
          refine HN.keep [(0, _), (1, _), (4, _), (6, _), (19, _), (20, _)] ⟨rfl, rfl, rfl, rfl, rfl, rfl, trivial⟩ ?_
          refine HN.then ?_
          refine H.seq ?_
          refine H.region ?_
          refine H.q (yl_move rfl) rfl rfl (by decide) ?_
          refine H.q (yl_move rfl) rfl rfl (by decide) ?_
          refine H.q (yl_ix 2 Tryz.underlying26 Tryz.sizeOf9 (hs 2 h2).1 rfl rfl rfl h2) rfl rfl (by decide) ?_
          refine H.q (yl_load Tryz.isAgg9 rfl (fun w hw => cell_ext hw.ext (hs 2 h2).2)) rfl rfl (by decide) ?_
          refine H.q (yl_call (xs := [.tmp 129, .tmp 132]) Tryz.call46 (stab_hp _ _ _ _) rfl (fun w hw => refAt_any names nv (ws.getD 2 []) w (by omega) (hnv.ext hw.ext))) rfl rfl (by decide) ?_
          refine H.q (yl_assign rfl) rfl rfl (by decide) ?_
          refine HN.done ?_
          refine HN.keep [(0, _), (4, _), (6, _), (19, _), (20, _), (21, _)] ⟨rfl, rfl, rfl, rfl, rfl, rfl, trivial⟩ ?_
          refine HN.then ?_
          refine H.seq ?_
          refine H.block ?_
          refine H.seq ?_
          refine H.region ?_
          refine H.q (yl_move rfl) rfl rfl (by decide) ?_
          refine H.q (yl_ix 1 Tryz.underlying26 Tryz.sizeOf9 (hs 1 h1).1 rfl rfl rfl h1) rfl rfl (by decide) ?_
          refine H.q (yl_load Tryz.isAgg9 rfl (fun w hw => cell_ext hw.ext (hs 1 h1).2)) rfl rfl (by decide) ?_
          refine H.q (yl_seqlL rfl rfl) rfl rfl (by decide) ?_
          refine H.q (yl_move rfl) rfl rfl (by decide) ?_
          refine H.qg (wn_t rfl rfl (by decide) rfl) (fun hg => yl_sub [(20, _)] ⟨rfl, trivial⟩ (yl_move rfl)) rfl (by decide) ?_
          refine H.q (yl_and rfl rfl) rfl rfl (by decide) ?_
          refine H.q (yl_assign rfl) rfl rfl (by decide) ?_
          refine HN.done ?_
          refine HN.keep [(0, _), (4, _), (6, _), (19, _), (20, _), (21, _), (134, _)] ⟨rfl, rfl, rfl, rfl, rfl, rfl, rfl, trivial⟩ ?_
          refine HN.then ?_
          refine H.cond _ rfl (fun t6 => ?_) (fun t6 => ?_)
          · refine H.keep [(4, _), (6, _), (19, _)] ⟨rfl, rfl, rfl, trivial⟩ ?_
            refine H.seq ?_
            refine H.region ?_
            refine H.q (yl_move rfl) rfl rfl (by decide) ?_
            refine H.q (yl_move rfl) rfl rfl (by decide) ?_
            refine H.q (yl_build (bd25_013 _ _ _) rfl) rfl rfl (by decide) ?_
            refine H.storeA 0 rfl rfl rfl Tryz.sizeOf25 rfl rfl ?_
            refine H.q (yl_assign rfl) rfl rfl (by decide) ?_
            refine HN.done ?_
            refine HN.keep [(4, _), (5, _)] ⟨rfl, rfl, trivial⟩ ?_
            refine HN.then ?_
            refine HR.ret ?_
            refine HR.block ?_
            refine HR.then ?_
            refine HR.retC2 0 _ Tryz.results47 Tryz.isAgg25 Tryz.sizeOf25 rfl rfl rfl rfl (fun w hw => ?_)
            have hg : guessE ws names = (⟨1, atI names (ws.getD 0 []), 0, (numR (ws.getD 2 [])).1, 0, []⟩, true) := by unfold guessE; rw [if_neg t0, if_neg t1, if_neg t2, if_neg (by rw [t5]; decide), if_pos t6]
            exact ⟨.slice none 0 0, by rw [hg]; rfl, by rw [hg]; exact hw.base.rowNil 2 1⟩
          · refine H.keep [(0, _), (4, _), (6, _), (19, _), (20, _), (21, _)] ⟨rfl, rfl, rfl, rfl, rfl, rfl, trivial⟩ ?_
            refine H.seq ?_
            refine H.region ?_
            refine H.q (yl_move rfl) rfl rfl (by decide) ?_
            refine H.q (yl_ix 1 Tryz.underlying26 Tryz.sizeOf9 (hs 1 h1).1 rfl rfl rfl h1) rfl rfl (by decide) ?_
            refine H.q (yl_load Tryz.isAgg9 rfl (fun w hw => cell_ext hw.ext (hs 1 h1).2)) rfl rfl (by decide) ?_
            refine H.q (yl_seqlL rfl rfl) rfl rfl (by decide) ?_
            refine H.q (yl_assign rfl) rfl rfl (by decide) ?_
            refine HN.done ?_
            refine HN.keep [(0, _), (4, _), (6, _), (19, _), (20, _), (21, _), (145, _)] ⟨rfl, rfl, rfl, rfl, rfl, rfl, rfl, trivial⟩ ?_
            refine HN.then ?_
            refine H.cond _ rfl (fun t7 => ?_) (fun t7 => ?_)
            · have p7 := of_decide_eq_true t7
              refine H.keep [(4, _), (6, _), (19, _), (20, _)] ⟨rfl, rfl, rfl, rfl, trivial⟩ ?_
              refine H.seq ?_
              refine H.region ?_
              refine H.q (yl_move rfl) rfl rfl (by decide) ?_
              refine H.q (yl_move rfl) rfl rfl (by decide) ?_
              refine H.q (yl_build (bd25_013 _ _ _) rfl) rfl rfl (by decide) ?_
              refine H.q (yl_move rfl) rfl rfl (by decide) ?_
              refine H.storeA 0 rfl rfl rfl Tryz.sizeOf25 rfl rfl ?_
              refine H.q (yl_assign rfl) rfl rfl (by decide) ?_
              refine HN.done ?_
              refine HN.keep [(4, _), (5, _)] ⟨rfl, rfl, trivial⟩ ?_
              refine HN.then ?_
              refine HR.ret ?_
              refine HR.block ?_
              refine HR.then ?_
              refine HR.retC2 0 _ Tryz.results47 Tryz.isAgg25 Tryz.sizeOf25 rfl rfl rfl rfl (fun w hw => ?_)
              have hg : guessE ws names = (⟨3, atI names (ws.getD 0 []), 0, (numR (ws.getD 2 [])).1, 0, []⟩, (numR (ws.getD 2 [])).2) := by unfold guessE; rw [if_neg t0, if_neg t1, if_neg t2, if_neg (by rw [t5]; decide), if_neg (by rw [t6]; decide), if_pos p7]
              exact ⟨.slice none 0 0, by rw [hg]; rfl, by rw [hg]; exact hw.base.rowNil 2 1⟩
            · have n7 := of_decide_eq_false t7
              refine H.keep [(0, _), (4, _), (6, _), (19, _), (20, _), (21, _)] ⟨rfl, rfl, rfl, rfl, rfl, rfl, trivial⟩ ?_
              refine H.seq ?_
              refine H.region ?_
              refine H.q (yl_move rfl) rfl rfl (by decide) ?_
              refine H.q (yl_ix 1 Tryz.underlying26 Tryz.sizeOf9 (hs 1 h1).1 rfl rfl rfl h1) rfl rfl (by decide) ?_
              refine H.q (yl_load Tryz.isAgg9 rfl (fun w hw => cell_ext hw.ext (hs 1 h1).2)) rfl rfl (by decide) ?_
              refine H.q (yl_seqlL rfl rfl) rfl rfl (by decide) ?_
              refine H.q (yl_move rfl) rfl rfl (by decide) ?_
              refine H.qg (wn_t rfl rfl (by decide) rfl) (fun hg => yl_sub [(20, _)] ⟨rfl, trivial⟩ (yl_move rfl)) rfl (by decide) ?_
              refine H.q (yl_and rfl rfl) rfl rfl (by decide) ?_
              refine H.q (yl_assign rfl) rfl rfl (by decide) ?_
              refine HN.done ?_
              refine HN.keep [(0, _), (4, _), (6, _), (19, _), (20, _), (21, _), (154, _)] ⟨rfl, rfl, rfl, rfl, rfl, rfl, rfl, trivial⟩ ?_
              refine HN.then ?_
              refine H.cond _ rfl (fun t8 => ?_) (fun t8 => ?_)
              · refine H.keep [(4, _), (6, _), (19, _)] ⟨rfl, rfl, rfl, trivial⟩ ?_
                refine H.seq ?_
                refine H.region ?_
                refine H.q (yl_move rfl) rfl rfl (by decide) ?_
                refine H.q (yl_move rfl) rfl rfl (by decide) ?_
                refine H.q (yl_build (bd25_013 _ _ _) rfl) rfl rfl (by decide) ?_
                refine H.storeA 0 rfl rfl rfl Tryz.sizeOf25 rfl rfl ?_
                refine H.q (yl_assign rfl) rfl rfl (by decide) ?_
                refine HN.done ?_
                refine HN.keep [(4, _), (5, _)] ⟨rfl, rfl, trivial⟩ ?_
                refine HN.then ?_
                refine HR.ret ?_
                refine HR.block ?_
                refine HR.then ?_
                refine HR.retC2 0 _ Tryz.results47 Tryz.isAgg25 Tryz.sizeOf25 rfl rfl rfl rfl (fun w hw => ?_)
                have hg : guessE ws names = (⟨4, atI names (ws.getD 0 []), 0, (numR (ws.getD 2 [])).1, 0, []⟩, true) := by unfold guessE; rw [if_neg t0, if_neg t1, if_neg t2, if_neg (by rw [t5]; decide), if_neg (by rw [t6]; decide), if_neg n7, if_pos t8]
                exact ⟨.slice none 0 0, by rw [hg]; rfl, by rw [hg]; exact hw.base.rowNil 2 1⟩
              · refine H.keep [(0, _), (4, _), (6, _), (20, _), (21, _)] ⟨rfl, rfl, rfl, rfl, rfl, trivial⟩ ?_
                refine H.seq ?_
                refine H.region ?_
                refine H.q (yl_move rfl) rfl rfl (by decide) ?_
                refine H.q (yl_ix 1 Tryz.underlying26 Tryz.sizeOf9 (hs 1 h1).1 rfl rfl rfl h1) rfl rfl (by decide) ?_
                refine H.q (yl_load Tryz.isAgg9 rfl (fun w hw => cell_ext hw.ext (hs 1 h1).2)) rfl rfl (by decide) ?_
                refine H.q (yl_seqlL rfl rfl) rfl rfl (by decide) ?_
                refine H.q (yl_move rfl) rfl rfl (by decide) ?_
                refine H.qg (wn_t rfl rfl (by decide) rfl) (fun hg => yl_sub [(20, _)] ⟨rfl, trivial⟩ (yl_move rfl)) rfl (by decide) ?_
                refine H.q (yl_and rfl rfl) rfl rfl (by decide) ?_
                refine H.q (yl_assign rfl) rfl rfl (by decide) ?_
                refine HN.done ?_
                refine HN.keep [(0, _), (4, _), (6, _), (21, _), (165, _)] ⟨rfl, rfl, rfl, rfl, rfl, trivial⟩ ?_
                refine HN.then ?_
                refine H.cond _ rfl (fun t9 => ?_) (fun t9 => ?_)
                · refine H.keep [(4, _), (6, _)] ⟨rfl, rfl, trivial⟩ ?_
                  refine H.seq ?_
                  refine H.region ?_
                  refine H.q (yl_move rfl) rfl rfl (by decide) ?_
                  refine H.q (yl_build (bd25_01 _ _) rfl) rfl rfl (by decide) ?_
                  refine H.storeA 0 rfl rfl rfl Tryz.sizeOf25 rfl rfl ?_
                  refine H.q (yl_assign rfl) rfl rfl (by decide) ?_
                  refine HN.done ?_
                  refine HN.keep [(4, _), (5, _)] ⟨rfl, rfl, trivial⟩ ?_
                  refine HN.then ?_
                  refine HR.ret ?_
                  refine HR.block ?_
                  refine HR.then ?_
                  refine HR.retC2 0 _ Tryz.results47 Tryz.isAgg25 Tryz.sizeOf25 rfl rfl rfl rfl (fun w hw => ?_)
                  have hg : guessE ws names = (⟨5, atI names (ws.getD 0 []), 0, 0, 0, []⟩, true) := by unfold guessE; rw [if_neg t0, if_neg t1, if_neg t2, if_neg (by rw [t5]; decide), if_neg (by rw [t6]; decide), if_neg n7, if_neg (by rw [t8]; decide), if_pos t9]
                  exact ⟨.slice none 0 0, by rw [hg]; rfl, by rw [hg]; exact hw.base.rowNil 2 1⟩
                · refine H.keep [(0, _), (4, _), (6, _), (21, _)] ⟨rfl, rfl, rfl, rfl, trivial⟩ ?_
                  refine H.seq ?_
                  refine H.region ?_
                  refine H.q (yl_move rfl) rfl rfl (by decide) ?_
                  refine H.q (yl_ix 1 Tryz.underlying26 Tryz.sizeOf9 (hs 1 h1).1 rfl rfl rfl h1) rfl rfl (by decide) ?_
                  refine H.q (yl_load Tryz.isAgg9 rfl (fun w hw => cell_ext hw.ext (hs 1 h1).2)) rfl rfl (by decide) ?_
                  refine H.q (yl_seqlL rfl rfl) rfl rfl (by decide) ?_
                  refine H.q (yl_assign rfl) rfl rfl (by decide) ?_
                  refine HN.done ?_
                  refine HN.keep [(0, _), (4, _), (6, _), (21, _), (175, _)] ⟨rfl, rfl, rfl, rfl, rfl, trivial⟩ ?_
                  refine HN.then ?_
                  refine H.cond _ rfl (fun t10 => ?_) (fun t10 => ?_)
                  · have p10 := of_decide_eq_true t10
                    refine H.keep [(4, _), (6, _), (21, _)] ⟨rfl, rfl, rfl, trivial⟩ ?_
                    refine H.seq ?_
                    refine H.region ?_
                    refine H.q (yl_move rfl) rfl rfl (by decide) ?_
                    refine H.q (yl_move rfl) rfl rfl (by decide) ?_
                    refine H.q (yl_build (bd25_012 _ _ _) rfl) rfl rfl (by decide) ?_
                    refine H.storeA 0 rfl rfl rfl Tryz.sizeOf25 rfl rfl ?_
                    refine H.q (yl_assign rfl) rfl rfl (by decide) ?_
                    refine HN.done ?_
                    refine HN.keep [(4, _), (5, _)] ⟨rfl, rfl, trivial⟩ ?_
                    refine HN.then ?_
                    refine HR.ret ?_
                    refine HR.block ?_
                    refine HR.then ?_
                    refine HR.retC2 0 _ Tryz.results47 Tryz.isAgg25 Tryz.sizeOf25 rfl rfl rfl rfl (fun w hw => ?_)
                    have hg : guessE ws names = (⟨7, atI names (ws.getD 0 []), atI names (ws.getD 2 []), 0, 0, []⟩, true) := by unfold guessE; rw [if_neg t0, if_neg t1, if_neg t2, if_neg (by rw [t5]; decide), if_neg (by rw [t6]; decide), if_neg n7, if_neg (by rw [t8]; decide), if_neg (by rw [t9]; decide), if_pos p10]
                    exact ⟨.slice none 0 0, by rw [hg]; rfl, by rw [hg]; exact hw.base.rowNil 2 1⟩
                  · have n10 := of_decide_eq_false t10
                    refine H.keep [(0, _), (4, _), (6, _), (21, _)] ⟨rfl, rfl, rfl, rfl, trivial⟩ ?_
                    refine H.seq ?_
                    refine H.region ?_
                    refine H.q (yl_move rfl) rfl rfl (by decide) ?_
                    refine H.q (yl_ix 1 Tryz.underlying26 Tryz.sizeOf9 (hs 1 h1).1 rfl rfl rfl h1) rfl rfl (by decide) ?_
                    refine H.q (yl_load Tryz.isAgg9 rfl (fun w hw => cell_ext hw.ext (hs 1 h1).2)) rfl rfl (by decide) ?_
                    refine H.q (yl_seqlL rfl rfl) rfl rfl (by decide) ?_
                    refine H.q (yl_assign rfl) rfl rfl (by decide) ?_
                    refine HN.done ?_
                    refine HN.keep [(0, _), (4, _), (6, _), (21, _), (183, _)] ⟨rfl, rfl, rfl, rfl, rfl, trivial⟩ ?_
                    refine HN.then ?_
                    refine H.cond _ rfl (fun t11 => ?_) (fun t11 => ?_)
                    · have p11 := of_decide_eq_true t11
                      refine H.keep [(4, _), (6, _), (21, _)] ⟨rfl, rfl, rfl, trivial⟩ ?_
                      refine H.seq ?_
                      refine H.region ?_
                      refine H.q (yl_move rfl) rfl rfl (by decide) ?_
                      refine H.q (yl_move rfl) rfl rfl (by decide) ?_
                      refine H.q (yl_build (bd25_012 _ _ _) rfl) rfl rfl (by decide) ?_
                      refine H.storeA 0 rfl rfl rfl Tryz.sizeOf25 rfl rfl ?_
                      refine H.q (yl_assign rfl) rfl rfl (by decide) ?_
                      refine HN.done ?_
                      refine HN.keep [(4, _), (5, _)] ⟨rfl, rfl, trivial⟩ ?_
                      refine HN.then ?_
                      refine HR.ret ?_
                      refine HR.block ?_
                      refine HR.then ?_
                      refine HR.retC2 0 _ Tryz.results47 Tryz.isAgg25 Tryz.sizeOf25 rfl rfl rfl rfl (fun w hw => ?_)
                      have hg : guessE ws names = (⟨8, atI names (ws.getD 0 []), atI names (ws.getD 2 []), 0, 0, []⟩, true) := by unfold guessE; rw [if_neg t0, if_neg t1, if_neg t2, if_neg (by rw [t5]; decide), if_neg (by rw [t6]; decide), if_neg n7, if_neg (by rw [t8]; decide), if_neg (by rw [t9]; decide), if_neg n10, if_pos p11]
                      exact ⟨.slice none 0 0, by rw [hg]; rfl, by rw [hg]; exact hw.base.rowNil 2 1⟩
                    · have n11 := of_decide_eq_false t11
                      refine H.keep [(0, _), (4, _), (6, _), (21, _)] ⟨rfl, rfl, rfl, rfl, trivial⟩ ?_
                      refine H.seq ?_
                      refine H.region ?_
                      refine H.q (yl_move rfl) rfl rfl (by decide) ?_
                      refine H.q (yl_ix 1 Tryz.underlying26 Tryz.sizeOf9 (hs 1 h1).1 rfl rfl rfl h1) rfl rfl (by decide) ?_
                      refine H.q (yl_load Tryz.isAgg9 rfl (fun w hw => cell_ext hw.ext (hs 1 h1).2)) rfl rfl (by decide) ?_
                      refine H.q (yl_seqlL rfl rfl) rfl rfl (by decide) ?_
                      refine H.q (yl_assign rfl) rfl rfl (by decide) ?_
                      refine HN.done ?_
                      refine HN.keep [(0, _), (4, _), (6, _), (21, _), (191, _)] ⟨rfl, rfl, rfl, rfl, rfl, trivial⟩ ?_
                      refine HN.then ?_
                      refine H.cond _ rfl (fun t12 => ?_) (fun t12 => ?_)
                      · have p12 := of_decide_eq_true t12
                        refine H.keep [(4, _), (6, _), (21, _)] ⟨rfl, rfl, rfl, trivial⟩ ?_
                        refine H.seq ?_
                        refine H.region ?_
                        refine H.q (yl_move rfl) rfl rfl (by decide) ?_
                        refine H.q (yl_move rfl) rfl rfl (by decide) ?_
                        refine H.q (yl_build (bd25_012 _ _ _) rfl) rfl rfl (by decide) ?_
                        refine H.storeA 0 rfl rfl rfl Tryz.sizeOf25 rfl rfl ?_
                        refine H.q (yl_assign rfl) rfl rfl (by decide) ?_
                        refine HN.done ?_
                        refine HN.keep [(4, _), (5, _)] ⟨rfl, rfl, trivial⟩ ?_
                        refine HN.then ?_
                        refine HR.ret ?_
                        refine HR.block ?_
                        refine HR.then ?_
                        refine HR.retC2 0 _ Tryz.results47 Tryz.isAgg25 Tryz.sizeOf25 rfl rfl rfl rfl (fun w hw => ?_)
                        have hg : guessE ws names = (⟨9, atI names (ws.getD 0 []), atI names (ws.getD 2 []), 0, 0, []⟩, true) := by unfold guessE; rw [if_neg t0, if_neg t1, if_neg t2, if_neg (by rw [t5]; decide), if_neg (by rw [t6]; decide), if_neg n7, if_neg (by rw [t8]; decide), if_neg (by rw [t9]; decide), if_neg n10, if_neg n11, if_pos p12]
                        exact ⟨.slice none 0 0, by rw [hg]; rfl, by rw [hg]; exact hw.base.rowNil 2 1⟩
                      · have n12 := of_decide_eq_false t12
                        refine H.keep [(0, _), (4, _), (6, _), (21, _)] ⟨rfl, rfl, rfl, rfl, trivial⟩ ?_
                        refine HN.skip ?_
                        refine HN.block ?_
                        refine HN.then ?_
                        refine H.seq ?_
                        refine H.regionA (Hp w0 [] [] []) Tryz.mixed (stab_hp _ _ _ _) ?_
                        refine H.take (i := 0) rfl (by kernel_rfl) (by kernel_rfl) (by kernel_rfl) (fun _ _ _ h => h) (fun w hw => hw.base) (ye_move rfl) rfl rfl (by decide) ?_
                        refine H.take (i := 1) rfl (by kernel_rfl) (by kernel_rfl) (by kernel_rfl) (fun _ _ _ h => h) (fun w hw => hw.base) (ye_move rfl) rfl rfl (by decide) ?_
                        refine H.take (i := 2) rfl (by kernel_rfl) (by kernel_rfl) (by kernel_rfl) (fun _ _ _ h => h) (fun w hw => hw.base) (ye_build (bd25_012 _ _ _) rfl) rfl rfl (by decide) ?_
                        refine H.take (i := 3) rfl (by kernel_rfl) (by kernel_rfl) (by kernel_rfl) (fun _ _ _ h => h) (fun w hw => hw.base) (ye_move rfl) rfl rfl (by decide) ?_
                        refine H.take (i := 4) rfl (by kernel_rfl) (by kernel_rfl) (by kernel_rfl) (fun _ _ _ h => h) (fun w hw => hw.base) (ye_ix 1 Tryz.underlying26 Tryz.sizeOf9 (hs 1 h1).1 rfl rfl rfl h1) rfl rfl (by decide) ?_
                        refine H.take (i := 5) rfl (by kernel_rfl) (by kernel_rfl) (by kernel_rfl) (fun _ _ _ h => h) (fun w hw => hw.base) (ye_load Tryz.isAgg9 rfl (fun w hw => cell_ext hw.ext (hs 1 h1).2)) rfl rfl (by decide) ?_
                        refine H.take (i := 6) rfl (by kernel_rfl) (by kernel_rfl) (by kernel_rfl) (fun _ _ _ h => h) (fun w hw => hw.base) (ye_seqlL rfl rfl) rfl rfl (by decide) ?_
                        refine H.one (i := 7) rfl (by kernel_rfl) ?_
                        refine H.storeA 0 rfl rfl rfl Tryz.sizeOf25 rfl rfl ?_
                        refine H.on (fun w hw => hw.base) ?_
                        refine H.take (i := 8) rfl (by kernel_rfl) (by kernel_rfl) (by kernel_rfl) (fun _ _ _ h => h) (fun w hw => hw.base) (ye_assign rfl) rfl rfl (by decide) ?_
                        refine H.over (by kernel_rfl) ?_
                        refine HN.keep [(4, _), (5, _)] ⟨rfl, rfl, trivial⟩ ?_
                        refine HN.then ?_
                        refine HR.ret ?_
                        refine HR.retC2 0 _ Tryz.results47 Tryz.isAgg25 Tryz.sizeOf25 rfl rfl rfl rfl (fun w hw => ?_)
                        have hg : guessE ws names = (⟨10, atI names (ws.getD 0 []), atI names (ws.getD 2 []), 0, 0, []⟩, decide (ws.getD 1 [] = [60, 61])) := by unfold guessE; rw [if_neg t0, if_neg t1, if_neg t2, if_neg (by rw [t5]; decide), if_neg (by rw [t6]; decide), if_neg n7, if_neg (by rw [t8]; decide), if_neg (by rw [t9]; decide), if_neg n10, if_neg n11, if_neg n12]
                        exact ⟨.slice none 0 0, by rw [hg]; rfl, by rw [hg]; exact hw.base.rowNil 2 1⟩

end Go.Proofs.YtgbgddmbooaddaaGreatDoor

namespace Go.Proofs.YtgbgddmbooaddaaGreatDoor
open Go.RowKit


theorem readE_named {t : List UInt8} {names : List (List UInt8)} (h : namedE names ≠ 0) : readE t names = (zI, namedE names) := by unfold readE; rw [if_pos h]
theorem words_pos (t : List UInt8) : 0 < (wordsE t).length := List.length_pos_iff.2 (splitW_ne [] t)
theorem words_len {t : List UInt8} (h : t.length ≤ 1000) : (wordsE t).length ≤ 1001 := by have := (splitW_len t []).1; simp only [wordsE]; omega
theorem words_each {t : List UInt8} (h : t.length ≤ 1000) : ∀ s ∈ wordsE t, s.length ≤ 1000 := fun s hs => by
  have := (splitW_len t []).2 s hs
  simp only [List.length_nil] at this
  omega
theorem at_low {names : List (List UInt8)} {s : List UInt8} : (!names.any fun y => decide (s = y)) = decide (atI names s < 0) := by
  rw [← atL_eq, ← idxP_any]
  by_cases h : 0 ≤ idxP (fun y => decide (s = y)) names
  · simp only [h, decide_true, Bool.not_true]
    exact (decide_eq_false (by omega)).symm
  · simp only [h, decide_false, Bool.not_false]
    exact (decide_eq_true (by omega)).symm
theorem guess_set {w names : List (List UInt8)} (h : w.length ≤ 1001) : (guessE w names).1.set.length ≤ 1000 := by
  have hs : ∀ (l : List (List UInt8)) (acc : List Int), (setR l acc).1.length ≤ acc.length + l.length := by
    intro l
    induction l with
    | nil => intro acc; simp [setR]
    | cons s r ih =>
      intro acc
      simp only [setR]
      split
      · have := ih (acc ++ [(numR s).1])
        simp only [List.length_append, List.length_cons, List.length_nil] at this ⊢
        omega
      · simp
  have h2 := hs (w.drop 2) []
  simp only [List.length_nil, List.length_drop] at h2
  by_cases c0 : (w.length : Int) < 3
  · rw [guessE, if_pos c0]
    simp [zI]
  by_cases c1 : (w.length : Int) = 7
  · rw [guessE, if_neg c0, if_pos c1]
    simp [zI]
  by_cases c2 : w.getD 1 [] = [105, 110]
  · rw [guessE, if_neg c0, if_neg c1, if_pos c2]
    simp only; omega
  by_cases c3 : (decide (w.getD 1 [] = [37]) && decide ((w.length : Int) = 5)) = true
  · rw [guessE, if_neg c0, if_neg c1, if_neg c2, if_pos c3]
    simp [zI]
  by_cases c4 : (decide (w.getD 1 [] = [61, 61]) && (numR (w.getD 2 [])).2) = true
  · rw [guessE, if_neg c0, if_neg c1, if_neg c2, if_neg c3, if_pos c4]
    simp [zI]
  by_cases c5 : w.getD 1 [] = [62, 61]
  · rw [guessE, if_neg c0, if_neg c1, if_neg c2, if_neg c3, if_neg c4, if_pos c5]
    simp [zI]
  by_cases c6 : (decide (w.getD 1 [] = [60, 61]) && (numR (w.getD 2 [])).2) = true
  · rw [guessE, if_neg c0, if_neg c1, if_neg c2, if_neg c3, if_neg c4, if_neg c5, if_pos c6]
    simp [zI]
  by_cases c7 : (decide (w.getD 1 [] = [33, 61]) && (numR (w.getD 2 [])).2) = true
  · rw [guessE, if_neg c0, if_neg c1, if_neg c2, if_neg c3, if_neg c4, if_neg c5, if_neg c6, if_pos c7]
    simp [zI]
  by_cases c8 : w.getD 1 [] = [61, 61]
  · rw [guessE, if_neg c0, if_neg c1, if_neg c2, if_neg c3, if_neg c4, if_neg c5, if_neg c6, if_neg c7, if_pos c8]
    simp [zI]
  by_cases c9 : w.getD 1 [] = [33, 61]
  · rw [guessE, if_neg c0, if_neg c1, if_neg c2, if_neg c3, if_neg c4, if_neg c5, if_neg c6, if_neg c7, if_neg c8, if_pos c9]
    simp [zI]
  by_cases c10 : w.getD 1 [] = [60]
  · rw [guessE, if_neg c0, if_neg c1, if_neg c2, if_neg c3, if_neg c4, if_neg c5, if_neg c6, if_neg c7, if_neg c8, if_neg c9, if_pos c10]
    simp [zI]
  rw [guessE, if_neg c0, if_neg c1, if_neg c2, if_neg c3, if_neg c4, if_neg c5, if_neg c6, if_neg c7, if_neg c8, if_neg c9, if_neg c10]
  simp


theorem Hp.row1 {w0 : World} {L : List BP} {r : Rw} {R : List Rw} {F : List BP} {w : World} (h : Hp w0 L (r :: R) F w) : Hp w0 [] [r] [] w where
  ext := h.ext
  own := fun _ hp => by cases hp
  rows := fun q hq => h.rows q (by rw [List.mem_singleton.1 hq]; exact List.mem_cons_self ..)
  fgn := fun _ hp => by cases hp
  nodup := by
    have h2 := (List.nodup_append.1 h.nodup).2.1
    refine List.Nodup.sublist ?_ h2
    exact List.Sublist.filterMap _ (List.Sublist.cons_cons r (List.nil_sublist R))
  low := fun b hb => h.low b (by
    unfold owned at hb ⊢
    simp only [List.map_nil, List.nil_append, List.mem_filterMap, List.mem_singleton] at hb
    obtain ⟨q, rfl, hq⟩ := hb
    exact List.mem_append.2 (.inr (List.mem_filterMap.2 ⟨q, List.mem_cons_self .., hq⟩)))
  apart := fun _ _ _ hp => by cases hp

set_option maxRecDepth 100000 in
theorem refRead_any (t : List UInt8) (names : List (List UInt8)) (nv : Value) (w0 : World) (ht : t.length ≤ 1000) (hnl : names.length ≤ 1000) (hns : ∀ s ∈ names, s.length ≤ 1000) (hnv : IsStrs w0 nv names) : Calls Tryz.prog 15 #[strV t, nv] w0 fun e w' => ∃ sv, e = .returned (.tuple #[.agg (cellsI (sv, (readE t names).1)).toArray, .int .i64 (readE t names).2]) ∧ Ext w0 w' ∧ IsInts w' sv (readE t names).1.set ∧ Hp w0 [] [⟨sv, (readE t names).1.set.length, 2, 1, (readE t names).1.set.map (.int .i64)⟩] [] w' := by
  obtain ⟨ad1, cap1, b1, o1, rfl, hcap1, hs1⟩ := sl_open strV hnv
  refine enterA 62 Tryz.func15 rfl Tryz.ntmps15 rfl (Hp w0 [] [] []) (Hp.init _) ?_
  refine H.seq ?_
  refine H.region ?_
  refine H.allocA Tryz.zeroValue25 (by decide) (fun b4 hb4 => ?_)
  refine H.q (yl_assign rfl) rfl rfl (by decide) ?_
  refine HN.done ?_
  refine HN.keep [(0, _), (1, _), (4, _)] ⟨rfl, rfl, rfl, trivial⟩ ?_
  refine HN.then ?_
  refine H.seq ?_
  refine H.region ?_
  refine H.q (yl_move rfl) rfl rfl (by decide) ?_
  refine H.q (yl_call (xs := [.tmp 11]) Tryz.call40 (stab_hp _ _ _ _) rfl (fun w hw => refNamed_any names (.slice ad1 names.length cap1) w (by omega) hns (hnv.ext hw.ext))) rfl rfl (by decide) ?_
  refine H.q (yl_assign rfl) rfl rfl (by decide) ?_
  refine HN.done ?_
  refine HN.keep [(0, _), (1, _), (4, _), (6, _)] ⟨rfl, rfl, rfl, rfl, trivial⟩ ?_
  refine HN.then ?_
  refine H.seq ?_
  refine H.block ?_
  refine H.seq ?_
  refine H.region ?_
  refine H.q (yl_move rfl) rfl rfl (by decide) ?_
  refine H.q (yl_neq rfl rfl) rfl rfl (by decide) ?_
  refine H.q (yl_assign rfl) rfl rfl (by decide) ?_
  refine HN.done ?_
  refine HN.keep [(0, _), (1, _), (4, _), (6, _), (13, _)] ⟨rfl, rfl, rfl, rfl, rfl, trivial⟩ ?_
  refine HN.then ?_
  refine H.cond _ rfl (fun t0 => ?_) (fun t0 => ?_)
  · simp only [ne_eq, decide_not, Bool.not_eq_true', decide_eq_false_iff_not] at t0
    refine H.keep [(4, _), (6, _)] ⟨rfl, rfl, trivial⟩ ?_
    refine H.seq ?_
    refine H.region ?_
    refine H.q (yl_build (bd25_) rfl) rfl rfl (by decide) ?_
    refine H.q (yl_move rfl) rfl rfl (by decide) ?_
    refine H.storeA 0 rfl rfl rfl Tryz.sizeOf25 rfl rfl ?_
    refine H.q (yl_assign rfl) rfl rfl (by decide) ?_
    refine HN.done ?_
    refine HN.keep [(4, _), (5, _)] ⟨rfl, rfl, trivial⟩ ?_
    refine HN.then ?_
    refine HR.ret ?_
    refine HR.block ?_
    refine HR.then ?_
    refine HR.retC2 0 _ Tryz.results15 Tryz.isAgg25 Tryz.sizeOf25 rfl rfl rfl rfl (fun w hw => ?_)
    have hr := readE_named (t := t) t0
    exact ⟨.slice none 0 0, by rw [hr]; rfl, hw.ext, by rw [hr]; exact ints_nil w, by rw [hr]; exact hw.base.rowNil 2 1⟩
  · simp only [ne_eq, decide_not, Bool.not_eq_false', decide_eq_true_eq] at t0
    refine H.keep [(0, _), (1, _), (4, _)] ⟨rfl, rfl, rfl, trivial⟩ ?_
    refine H.seq ?_
    refine H.region ?_
    refine H.q (yl_move rfl) rfl rfl (by decide) ?_
    refine H.q (yl_len rfl Tryz.underlying26 rfl) rfl rfl (by decide) ?_
    refine H.q (yl_eql rfl rfl) rfl rfl (by decide) ?_
    refine H.q (yl_assign rfl) rfl rfl (by decide) ?_
    refine HN.done ?_
    refine HN.keep [(0, _), (1, _), (4, _), (18, _)] ⟨rfl, rfl, rfl, rfl, trivial⟩ ?_
    refine HN.then ?_
    refine H.cond _ rfl (fun t1 => ?_) (fun t1 => ?_)
    · simp only [decide_eq_true_eq] at t1
      refine H.keep [(4, _)] ⟨rfl, trivial⟩ ?_
      refine H.seq ?_
      refine H.region ?_
      refine H.q (yl_build (bd25_) rfl) rfl rfl (by decide) ?_
      refine H.storeA 0 rfl rfl rfl Tryz.sizeOf25 rfl rfl ?_
      refine H.q (yl_assign rfl) rfl rfl (by decide) ?_
      refine HN.done ?_
      refine HN.keep [(4, _), (5, _)] ⟨rfl, rfl, trivial⟩ ?_
      refine HN.then ?_
      refine HR.ret ?_
      refine HR.block ?_
      refine HR.then ?_
      refine HR.retC2 0 _ Tryz.results15 Tryz.isAgg25 Tryz.sizeOf25 rfl rfl rfl rfl (fun w hw => ?_)
      have hr : readE t names = (zI, 1) := by unfold readE; rw [if_neg (fun h => h t0), if_pos t1]
      exact ⟨.slice none 0 0, by rw [hr]; rfl, hw.ext, by rw [hr]; exact ints_nil w, by rw [hr]; exact hw.base.rowNil 2 1⟩
    · simp only [decide_eq_false_iff_not] at t1
      refine H.keep [(0, _), (1, _), (4, _)] ⟨rfl, rfl, rfl, trivial⟩ ?_
      refine H.seq ?_
      refine H.region ?_
      refine H.q (yl_move rfl) rfl rfl (by decide) ?_
      refine H.q (yl_len rfl Tryz.underlying26 rfl) rfl rfl (by decide) ?_
      refine H.q (yl_gtr rfl rfl) rfl rfl (by decide) ?_
      refine H.q (yl_assign rfl) rfl rfl (by decide) ?_
      refine HN.done ?_
      refine HN.keep [(0, _), (1, _), (4, _), (23, _)] ⟨rfl, rfl, rfl, rfl, trivial⟩ ?_
      refine HN.then ?_
      refine H.cond _ rfl (fun t2 => ?_) (fun t2 => ?_)
      · simp only [decide_eq_true_eq] at t2
        refine H.keep [(4, _)] ⟨rfl, trivial⟩ ?_
        refine H.seq ?_
        refine H.region ?_
        refine H.q (yl_build (bd25_) rfl) rfl rfl (by decide) ?_
        refine H.storeA 0 rfl rfl rfl Tryz.sizeOf25 rfl rfl ?_
        refine H.q (yl_assign rfl) rfl rfl (by decide) ?_
        refine HN.done ?_
        refine HN.keep [(4, _), (5, _)] ⟨rfl, rfl, trivial⟩ ?_
        refine HN.then ?_
        refine HR.ret ?_
        refine HR.block ?_
        refine HR.then ?_
        refine HR.retC2 0 _ Tryz.results15 Tryz.isAgg25 Tryz.sizeOf25 rfl rfl rfl rfl (fun w hw => ?_)
        have hr : readE t names = (zI, 3) := by unfold readE; rw [if_neg (fun h => h t0), if_neg t1, if_pos t2]
        exact ⟨.slice none 0 0, by rw [hr]; rfl, hw.ext, by rw [hr]; exact ints_nil w, by rw [hr]; exact hw.base.rowNil 2 1⟩
      · simp only [decide_eq_false_iff_not] at t2
        refine H.keep [(0, _), (1, _), (4, _)] ⟨rfl, rfl, rfl, trivial⟩ ?_
        refine HN.skip ?_
        refine HN.block ?_
        refine HN.then ?_
        refine H.seq ?_
        refine H.region ?_
        refine H.q (yl_move rfl) rfl rfl (by decide) ?_
        refine H.call (xs := [.tmp 28]) (fun v : Value => v) (fun _ => True) (fun v => [⟨v, (wordsE t).length, 9, 1, (wordsE t).map strV⟩]) (fun _ => []) Tryz.call45 rfl (by decide) (fun w hw => (words_any t w ht).mono fun e w' h => ?_) (fun wv _ => ?_)
        · obtain ⟨v, h1, h2⟩ := h
          exact ⟨v, h1, trivial, h2, fun p hp => by cases hp⟩
        refine H.pull (fun w hw => Rw.open1 strV (hw.row 0 rfl)) (fun hwv => ?_)
        obtain ⟨adw, capw, bw, rfl, hcapw, hsw⟩ := hwv
        have hw0 := words_pos t
        have hgd : (wordsE t).getD 0 [] = (wordsE t)[0] := by simp [List.getD, hw0]
        refine H.q (yl_assign rfl) rfl rfl (by decide) ?_
        refine HN.done ?_
        refine HN.keep [(0, _), (1, _), (4, _), (7, _)] ⟨rfl, rfl, rfl, rfl, trivial⟩ ?_
        refine HN.then ?_
        refine H.seq ?_
        refine H.seq ?_
        refine H.pull (fun w hw => (hsw w (hw.row 0 rfl) 0 hw0).1) (fun hadw => ?_)
        refine H.region ?_
        refine H.q (yl_move rfl) rfl rfl (by decide) ?_
        refine H.q (yl_move rfl) rfl rfl (by decide) ?_
        refine H.q (yl_ix 0 Tryz.underlying26 Tryz.sizeOf9 hadw rfl rfl rfl hw0) rfl rfl (by decide) ?_
        refine H.q (yl_load (v := strV ((wordsE t).getD 0 [])) Tryz.isAgg9 rfl (fun w hw => by rw [hgd]; exact (hsw w (hw.row 0 rfl) 0 hw0).2)) rfl rfl (by decide) ?_
        refine H.q (yl_call (xs := [.tmp 30, .tmp 33]) Tryz.call46 (stab_hp _ _ _ _) rfl (fun w hw => refAt_any names (.slice ad1 names.length cap1) ((wordsE t).getD 0 []) w (by omega) (hnv.ext hw.ext))) rfl rfl (by decide) ?_
        refine H.q (yl_lss rfl rfl) rfl rfl (by decide) ?_
        refine HN.done ?_
        refine HN.keep [(0, _), (1, _), (4, _), (7, _), (35, _)] ⟨rfl, rfl, rfl, rfl, rfl, trivial⟩ ?_
        refine HN.then ?_
        refine H.cond _ rfl (fun t3 => ?_) (fun t3 => ?_)
        · have t3 : atI names ((wordsE t).getD 0 []) < 0 := of_decide_eq_true t3
          refine H.keep [(4, _)] ⟨rfl, trivial⟩ ?_
          refine H.seq ?_
          refine H.region ?_
          refine H.q (yl_build (bd25_) rfl) rfl rfl (by decide) ?_
          refine H.storeA 0 rfl rfl rfl Tryz.sizeOf25 rfl rfl ?_
          refine H.q (yl_assign rfl) rfl rfl (by decide) ?_
          refine HN.done ?_
          refine HN.keep [(4, _), (5, _)] ⟨rfl, rfl, trivial⟩ ?_
          refine HN.then ?_
          refine HR.ret ?_
          refine HR.then ?_
          refine HR.retC2 0 _ Tryz.results15 Tryz.isAgg25 Tryz.sizeOf25 rfl rfl rfl rfl (fun w hw => ?_)
          have hr : readE t names = (zI, 5) := by unfold readE; rw [if_neg (fun h => h t0), if_neg t1, if_neg t2, if_pos t3]
          exact ⟨.slice none 0 0, by rw [hr]; rfl, hw.ext, by rw [hr]; exact ints_nil w, by rw [hr]; exact hw.base.rowNil 2 1⟩
        · have t3 : ¬ atI names ((wordsE t).getD 0 []) < 0 := of_decide_eq_false t3
          refine H.keep [(0, _), (1, _), (4, _), (7, _)] ⟨rfl, rfl, rfl, rfl, trivial⟩ ?_
          refine HN.skip ?_
          refine HN.then ?_
          refine H.seq ?_
          refine H.region ?_
          refine H.q (yl_move rfl) rfl rfl (by decide) ?_
          refine H.q (yl_move rfl) rfl rfl (by decide) ?_
          refine H.call (xs := [.tmp 38, .tmp 39]) (fun sv : Value => .tuple #[.agg (cellsI (sv, (guessE (wordsE t) names).1)).toArray, .bool (guessE (wordsE t) names).2]) (fun _ => True) (fun sv => [⟨sv, (guessE (wordsE t) names).1.set.length, 2, 1, (guessE (wordsE t) names).1.set.map (.int .i64)⟩]) (fun _ => []) Tryz.call47 rfl (by decide) (fun w hw => (guess_any (wordsE t) names _ _ w hw0 (words_len ht) (words_each ht) (Rw.isSl (hw.row 0 rfl) rfl) (by omega) (hnv.ext hw.ext)).mono fun e w' h => ?_) (fun sv _ => ?_)
          · obtain ⟨v, h1, h2⟩ := h
            exact ⟨v, h1, trivial, h2, fun p hp => by cases hp⟩
          refine H.pull (fun w hw => Rw.open1 (.int .i64) (hw.row 0 rfl)) (fun hsv => ?_)
          obtain ⟨ads, caps, bs, rfl, _, _⟩ := hsv
          refine H.q (yl_move rfl) rfl rfl (by decide) ?_
          refine H.q (yl_extract _ rfl rfl) rfl rfl (by decide) ?_
          refine H.q (yl_extract _ rfl rfl) rfl rfl (by decide) ?_
          refine H.allocA Tryz.zeroValue25 (by decide) (fun b8 hb8 => ?_)
          refine H.storeA 0 rfl rfl rfl Tryz.sizeOf25 rfl rfl ?_
          refine H.q (yl_assign rfl) rfl rfl (by decide) ?_
          refine HN.done ?_
          refine HN.keep [(0, _), (1, _), (4, _), (8, _), (9, _)] ⟨rfl, rfl, rfl, rfl, rfl, trivial⟩ ?_
          refine HN.then ?_
          refine H.seq ?_
          refine H.region ?_
          refine H.q (yl_loadAgg _ Tryz.isAgg25 Tryz.sizeOf25 rfl (fun w hw => cells_of_blk (hw.blk 0 rfl)) rfl) rfl rfl (by decide) ?_
          refine H.q (yl_move rfl) rfl rfl (by decide) ?_
          refine H.q (yl_call (xs := [.tmp 44, .tmp 45]) Tryz.call13 (stab_hp _ _ _ _) rfl (fun w hw => refWrite_any (guessE (wordsE t) names).1 (.slice ads (guessE (wordsE t) names).1.set.length caps) names (.slice ad1 names.length cap1) w (guess_set (words_len ht)) (Rw.isSl (hw.row 0 rfl) rfl) hnl hns (hnv.ext hw.ext))) rfl rfl (by decide) ?_
          refine H.q (yl_move rfl) rfl rfl (by decide) ?_
          refine H.q (yl_extract _ rfl rfl) rfl rfl (by decide) ?_
          refine H.q (yl_extract _ rfl rfl) rfl rfl (by decide) ?_
          refine H.q (yl_assign rfl) rfl rfl (by decide) ?_
          refine H.q (yl_assign rfl) rfl rfl (by decide) ?_
          refine HN.done ?_
          refine HN.keep [(0, _), (4, _), (6, _), (8, _), (9, _), (10, _)] ⟨rfl, rfl, rfl, rfl, rfl, rfl, trivial⟩ ?_
          refine HN.then ?_
          refine H.seq ?_
          refine H.seq ?_
          refine H.region ?_
          refine H.q (yl_move rfl) rfl rfl (by decide) ?_
          refine H.q (yl_not rfl) rfl rfl (by decide) ?_
          refine H.q (yl_move rfl) rfl rfl (by decide) ?_
          refine H.qg (wn_f rfl rfl (by decide) rfl) (fun hg => yl_sub [(6, _)] ⟨rfl, trivial⟩ (yl_move rfl)) rfl (by decide) ?_
          refine H.qg (wn_f rfl rfl (by decide) rfl) (fun hg => yl_sub [(52, _)] ⟨slT rfl hg, trivial⟩ (yl_neq rfl rfl)) rfl (by decide) ?_
          refine H.q (yl_or rfl rfl) rfl rfl (by decide) ?_
          refine H.q (yl_move rfl) rfl rfl (by decide) ?_
          refine H.qg (wn_f rfl rfl (by decide) rfl) (fun hg => yl_sub [(10, _)] ⟨rfl, trivial⟩ (yl_move rfl)) rfl (by decide) ?_
          refine H.qg (wn_f rfl rfl (by decide) rfl) (fun hg => yl_sub [(0, _)] ⟨rfl, trivial⟩ (yl_move rfl)) rfl (by decide) ?_
          refine H.qg (wn_f rfl rfl (by decide) rfl) (fun hg => yl_sub [(56, _), (57, _)] ⟨slT rfl hg, slT rfl hg, trivial⟩ (yl_sneqL rfl rfl)) rfl (by decide) ?_
          refine H.q (yl_or rfl rfl) rfl rfl (by decide) ?_
          refine HN.done ?_
          refine HN.keep [(4, _), (8, _), (59, _)] ⟨rfl, rfl, rfl, trivial⟩ ?_
          refine HN.then ?_
          refine H.cond _ rfl (fun t4 => ?_) (fun t4 => ?_)
          · refine H.keep [(4, _)] ⟨rfl, trivial⟩ ?_
            refine H.seq ?_
            refine H.region ?_
            refine H.q (yl_build (bd25_) rfl) rfl rfl (by decide) ?_
            refine H.storeA 1 rfl rfl rfl Tryz.sizeOf25 rfl rfl ?_
            refine H.q (yl_assign rfl) rfl rfl (by decide) ?_
            refine HN.done ?_
            refine HN.keep [(4, _), (5, _)] ⟨rfl, rfl, trivial⟩ ?_
            refine HN.then ?_
            refine HR.ret ?_
            refine HR.then ?_
            refine HR.retC2 1 _ Tryz.results15 Tryz.isAgg25 Tryz.sizeOf25 rfl rfl rfl rfl (fun w hw => ?_)
            have hr : readE t names = (zI, 4) := by unfold readE; rw [if_neg (fun h => h t0), if_neg t1, if_neg t2, if_neg t3, if_pos t4]
            exact ⟨.slice none 0 0, by rw [hr]; rfl, hw.ext, by rw [hr]; exact ints_nil w, by rw [hr]; exact hw.base.rowNil 2 1⟩
          · refine H.keep [(4, _), (8, _)] ⟨rfl, rfl, trivial⟩ ?_
            refine HN.skip ?_
            refine HN.then ?_
            refine H.seq ?_
            refine H.region ?_
            refine H.q (yl_loadAgg _ Tryz.isAgg25 Tryz.sizeOf25 rfl (fun w hw => cells_of_blk (hw.blk 0 rfl)) rfl) rfl rfl (by decide) ?_
            refine H.storeA 1 rfl rfl rfl Tryz.sizeOf25 rfl rfl ?_
            refine H.q (yl_assign rfl) rfl rfl (by decide) ?_
            refine HN.done ?_
            refine HN.keep [(4, _), (5, _)] ⟨rfl, rfl, trivial⟩ ?_
            refine HN.then ?_
            refine HR.ret ?_
            refine HR.retC2 1 _ Tryz.results15 Tryz.isAgg25 Tryz.sizeOf25 rfl rfl rfl rfl (fun w hw => ?_)
            have hr : readE t names = ((guessE (wordsE t) names).1, 0) := by unfold readE; rw [if_neg (fun h => h t0), if_neg t1, if_neg t2, if_neg t3, if_neg (fun h => by rw [t4] at h; cases h)]
            exact ⟨.slice ads (guessE (wordsE t) names).1.set.length caps, by rw [hr], hw.ext, by rw [hr]; exact Rw.isSl (hw.row 0 rfl) rfl, by rw [hr]; exact hw.row1⟩

end Go.Proofs.YtgbgddmbooaddaaGreatDoor

namespace Go.Proofs.YtgbgddmbooaddaaGreatDoor

def kindsE (s : List UInt8) : Int := if s = [61, 61] then 1 else if s = [62, 61] then 3 else if s = [60, 61] then 4 else if s = [33, 61] then 5 else 0
def pairsE (s : List UInt8) : Int := if s = [61, 61] then 7 else if s = [33, 61] then 8 else if s = [60] then 9 else if s = [60, 61] then 10 else 0
def l1E (w names : List (List UInt8)) : List Inv :=
  if (decide ((w.length : Int) = 3) && (numL (w.getD 2 [])).2) = true then [⟨kindsE (w.getD 1 []), atI names (w.getD 0 []), 0, if kindsE (w.getD 1 []) = 5 then 0 else (numL (w.getD 2 [])).1, 0, []⟩]
  else if (w.length : Int) = 3 then [⟨pairsE (w.getD 1 []), atI names (w.getD 0 []), atI names (w.getD 2 []), 0, 0, []⟩] else []
def setL (w : List (List UInt8)) : List Int := if w.getD 1 [] = [105, 110] then (w.drop 2).map fun s => (numL s).1 else []
def l2E (w names : List (List UInt8)) : List Inv := if w.getD 1 [] = [105, 110] then [⟨2, atI names (w.getD 0 []), 0, 0, 0, setL w⟩] else []
def l3E (w names : List (List UInt8)) : List Inv :=
  if (decide (w.getD 1 [] = [37]) && decide ((w.length : Int) = 5)) = true then [⟨6, atI names (w.getD 0 []), 0, (numL (w.getD 4 [])).1, (numL (w.getD 2 [])).1, []⟩] else []
def l4E (w names : List (List UInt8)) : List Inv :=
  if (decide (w.getD 1 [] = [61, 61]) && decide ((w.length : Int) = 7)) = true then [⟨11, atI names (w.getD 4 []), atI names (w.getD 0 []), (numL (w.getD 2 [])).1, (numL (w.getD 6 [])).1, []⟩] else []
/-- guesses. -/
def guessesE (w names : List (List UInt8)) : List Inv := if (w.length : Int) < 3 then [] else l1E w names ++ l2E w names ++ l3E w names ++ l4E w names
theorem kinds_two (s : List UInt8) : kindsE s ≠ 2 := by
  unfold kindsE
  repeat' split
  all_goals decide
theorem pairs_two (s : List UInt8) : pairsE s ≠ 2 := by
  unfold pairsE
  repeat' split
  all_goals decide

/-- The claim is not the one with the text. -/
def badB (t : List UInt8) (names : List (List UInt8)) (x : Inv) : Bool := decide ((writeE x names).2 ≠ 0) || !decide ((writeE x names).1 = t)
/-- Read, as package learn has it. -/
def readL (t : List UInt8) (names : List (List UInt8)) : Inv × Int :=
  if namedE names ≠ 0 then (zI, namedE names)
  else if (names.length : Int) = 0 then (zI, 1)
  else if (8 : Int) < names.length then (zI, 3)
  else if (!names.any fun y => decide ((wordsE t).getD 0 [] = y)) = true then (zI, 5)
  else match (guessesE (wordsE t) names).find? (fun x => !badB t names x) with
    | some x => (x, 0)
    | none => (zI, 4)
theorem setL_len {w : List (List UInt8)} (h : w.length ≤ 1001) : (setL w).length ≤ 1000 := by
  unfold setL
  split
  · rw [List.length_map, List.length_drop]; omega
  · simp
theorem guesses_kind {w names : List (List UInt8)} : ∀ x ∈ guessesE w names, (x.kind = 2 → x.set = setL w) ∧ (x.kind ≠ 2 → x.set = []) := by
  intro x hx
  unfold guessesE at hx
  split at hx
  · simp at hx
  · simp only [List.mem_append] at hx
    rcases hx with ((hx | hx) | hx) | hx
    · unfold l1E at hx
      split at hx
      · simp only [List.mem_singleton] at hx
        subst hx
        exact ⟨fun h => absurd h (kinds_two _), fun _ => rfl⟩
      · split at hx
        · simp only [List.mem_singleton] at hx
          subst hx
          exact ⟨fun h => absurd h (pairs_two _), fun _ => rfl⟩
        · simp at hx
    · unfold l2E at hx
      split at hx
      · simp only [List.mem_singleton] at hx
        subst hx
        exact ⟨fun _ => rfl, fun h => absurd rfl h⟩
      · simp at hx
    · unfold l3E at hx
      split at hx
      · simp only [List.mem_singleton] at hx
        subst hx
        exact ⟨fun h => by simp at h, fun _ => rfl⟩
      · simp at hx
    · unfold l4E at hx
      split at hx
      · simp only [List.mem_singleton] at hx
        subst hx
        exact ⟨fun h => by simp at h, fun _ => rfl⟩
      · simp at hx
end Go.Proofs.YtgbgddmbooaddaaGreatDoor
