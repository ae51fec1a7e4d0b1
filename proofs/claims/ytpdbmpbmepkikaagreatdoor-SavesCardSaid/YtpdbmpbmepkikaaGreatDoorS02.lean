/- Shelf: Contracts of the library at this translation: each an application of a theorem of the shelf. Written by the kit lay-plain, remarks struck.
   Abs: The plain words of the address book: registers, which wins, books as lists of registers. No program in sight.
   BookA: Contracts of contacts.key, cmp.Or, later, over, (book).take. Conditions: names and fields of at most 4096 bytes.
   BookB: Contracts of (book).take. Conditions: names and fields of at most 4096 bytes.
   MapR: The range over a map that stands: how next and entry run. No condition but what each law says. -/
import Derived.Shelf.Strings.Trim
import Derived.Shelf.Small.Utf8
import Derived.Shelf.Small.Strs
import Derived.Shelf.Small.Wraps
import Derived.Shelf.Strconv.Itoa0
import Derived.Shelf.Strconv.Itoa1
import Derived.Shelf.LaysM
import Derived.Shelf.Strconv.Itoa2
import Derived.Shelf.Strconv.Itoa3
import Derived.Shelf.Strings.Search1
import Derived.Shelf.Sort.Plain
import Derived.Shelf.Strings.Prefix
import Derived.Shelf.Strings.Runes
import Derived.Shelf.Strings.AsciiSet
import Derived.Shelf.Unicode.DecodeSlow
import Derived.Shelf.Unicode.DecodeAny
import Derived.Shelf.Slices.In.SortNone
import Derived.Test.YtpdbmpbmepkikaaGreatDoorProg
import GoSem.Op.String
import Derived.Test.YtpdbmpbmepkikaaGreatDoorS01
import Derived.Outline
import Derived.WalkLawsBesides
import Derived.WalkSpells
import Derived.Deep.RegionWith
import Derived.Deep.RegionHeld3
set_option linter.all false
set_option linter.unusedSimpArgs false
set_option linter.unusedVariables false

namespace Go.Proofs
open Go.Shelf
def Tryz.lays231_ren : Go.Shelf.Ren := ⟨fun | 231 => 175 | n => n, fun | 9 => 9 | 5 => 5 | 3 => 3 | 4 => 4 | n => n, fun | n => n⟩
theorem Tryz.lays231 : Go.Proofs.Lays.n231 Tryz.prog Tryz.lays231_ren := {
  mixed := by kernel_rfl
  f231 := Tryz.func175.trans (congrArg some (by kernel_rfl))
  t3 := Tryz.underlying3
  a3 := Tryz.isAgg3
  z3 := Tryz.sizeOf3
  v3 := Tryz.zeroValue3
  t4 := Tryz.underlying4
  a4 := Tryz.isAgg4
  z4 := Tryz.sizeOf4
  v4 := Tryz.zeroValue4
  t5 := Tryz.underlying5
  a5 := Tryz.isAgg5
  z5 := Tryz.sizeOf5
  v5 := Tryz.zeroValue5
  t9 := Tryz.underlying9
  a9 := Tryz.isAgg9
  z9 := Tryz.sizeOf9
  v9 := Tryz.zeroValue9 }
open Go.RowKit in
theorem Tryz.strings_trimLeftByte (s : ByteArray) (c : UInt8) (w : World) :
    Calls Tryz.prog 175 #[.string s, .int .u8 c.toNat] w fun e w' => e = .returned (.string ⟨(Lib.trimLeftB s.data.toList c).toArray⟩) ∧ w' = w := Any.strings_trimLeftByte Tryz.lays231 s c w
def Tryz.lays232_ren : Go.Shelf.Ren := ⟨fun | 232 => 176 | n => n, fun | 9 => 9 | 5 => 5 | 3 => 3 | 4 => 4 | n => n, fun | n => n⟩
theorem Tryz.lays232 : Go.Proofs.Lays.n232 Tryz.prog Tryz.lays232_ren := {
  mixed := by kernel_rfl
  f232 := Tryz.func176.trans (congrArg some (by kernel_rfl))
  t3 := Tryz.underlying3
  a3 := Tryz.isAgg3
  z3 := Tryz.sizeOf3
  v3 := Tryz.zeroValue3
  t4 := Tryz.underlying4
  a4 := Tryz.isAgg4
  z4 := Tryz.sizeOf4
  v4 := Tryz.zeroValue4
  t5 := Tryz.underlying5
  a5 := Tryz.isAgg5
  z5 := Tryz.sizeOf5
  v5 := Tryz.zeroValue5
  t9 := Tryz.underlying9
  a9 := Tryz.isAgg9
  z9 := Tryz.sizeOf9
  v9 := Tryz.zeroValue9 }
open Go.RowKit in
theorem Tryz.strings_trimRightByte (s : ByteArray) (c : UInt8) (w : World) (hs : s.size ≤ 9223372036854775807) :
    Calls Tryz.prog 176 #[.string s, .int .u8 c.toNat] w fun e w' => e = .returned (.string ⟨(Lib.trimRightB s.data.toList c).toArray⟩) ∧ w' = w := Any.strings_trimRightByte Tryz.lays232 s c w hs
def Tryz.lays160_ren : Go.Shelf.Ren := ⟨fun | 160 => 117 | 232 => 176 | 231 => 175 | 227 => 177 | 234 => 179 | 233 => 178 | 236 => 181 | 235 => 180 | 228 => 201 | 271 => 204 | 151 => 203 | 197 => 202 | 120 => 215 | 152 => 214 | 260 => 213 | 137 => 240 | 119 => 241 | 224 => 242 | 225 => 243 | 217 => 258 | 266 => 263 | n => n, fun | 9 => 9 | 4 => 4 | 3 => 3 | 5 => 5 | 117 => 282 | 116 => 281 | 0 => 0 | 124 => 285 | 21 => 21 | 105 => 295 | 46 => 169 | 119 => 327 | 139 => 330 | 138 => 329 | n => n, fun | 3 => 1 | 4 => 2 | n => n⟩
theorem Tryz.lays160 : Go.Proofs.Lays.n160 Tryz.prog Tryz.lays160_ren := {
  mixed := by kernel_rfl
  f119 := Tryz.func241.trans (congrArg some (by kernel_rfl))
  f120 := Tryz.func215.trans (congrArg some (by kernel_rfl))
  f137 := Tryz.func240.trans (congrArg some (by kernel_rfl))
  f151 := Tryz.func203.trans (congrArg some (by kernel_rfl))
  f152 := Tryz.func214.trans (congrArg some (by kernel_rfl))
  f160 := Tryz.func117.trans (congrArg some (by kernel_rfl))
  f197 := Tryz.func202.trans (congrArg some (by kernel_rfl))
  f217 := Tryz.func258.trans (congrArg some (by kernel_rfl))
  f224 := Tryz.func242.trans (congrArg some (by kernel_rfl))
  f225 := Tryz.func243.trans (congrArg some (by kernel_rfl))
  f227 := Tryz.func177.trans (congrArg some (by kernel_rfl))
  f228 := Tryz.func201.trans (congrArg some (by kernel_rfl))
  f231 := Tryz.func175.trans (congrArg some (by kernel_rfl))
  f232 := Tryz.func176.trans (congrArg some (by kernel_rfl))
  f233 := Tryz.func178.trans (congrArg some (by kernel_rfl))
  f234 := Tryz.func179.trans (congrArg some (by kernel_rfl))
  f235 := Tryz.func180.trans (congrArg some (by kernel_rfl))
  f236 := Tryz.func181.trans (congrArg some (by kernel_rfl))
  f260 := Tryz.func213.trans (congrArg some (by kernel_rfl))
  f266 := Tryz.func263.trans (congrArg some (by kernel_rfl))
  f271 := Tryz.func204.trans (congrArg some (by kernel_rfl))
  t0 := Tryz.underlying0
  a0 := Tryz.isAgg0
  z0 := Tryz.sizeOf0
  v0 := Tryz.zeroValue0
  t3 := Tryz.underlying3
  a3 := Tryz.isAgg3
  z3 := Tryz.sizeOf3
  v3 := Tryz.zeroValue3
  t4 := Tryz.underlying4
  a4 := Tryz.isAgg4
  z4 := Tryz.sizeOf4
  v4 := Tryz.zeroValue4
  t5 := Tryz.underlying5
  a5 := Tryz.isAgg5
  z5 := Tryz.sizeOf5
  v5 := Tryz.zeroValue5
  t9 := Tryz.underlying9
  a9 := Tryz.isAgg9
  z9 := Tryz.sizeOf9
  v9 := Tryz.zeroValue9
  t21 := Tryz.underlying21
  a21 := Tryz.isAgg21
  z21 := Tryz.sizeOf21
  v21 := Tryz.zeroValue21
  t46 := Tryz.underlying169
  a46 := Tryz.isAgg169
  z46 := Tryz.sizeOf169
  v46 := Tryz.zeroValue169
  t105 := Tryz.underlying295
  a105 := Tryz.isAgg295
  z105 := Tryz.sizeOf295
  v105 := Tryz.zeroValue295
  t116 := Tryz.underlying281
  a116 := Tryz.isAgg281
  z116 := Tryz.sizeOf281
  t117 := Tryz.underlying282
  a117 := Tryz.isAgg282
  z117 := Tryz.sizeOf282
  v117 := Tryz.zeroValue282
  t119 := Tryz.underlying327
  a119 := Tryz.isAgg327
  z119 := Tryz.sizeOf327
  t124 := Tryz.underlying285
  a124 := Tryz.isAgg285
  z124 := Tryz.sizeOf285
  v124 := Tryz.zeroValue285
  t138 := Tryz.underlying329
  a138 := Tryz.isAgg329
  z138 := Tryz.sizeOf329
  v138 := Tryz.zeroValue329
  t139 := Tryz.underlying330
  a139 := Tryz.isAgg330
  z139 := Tryz.sizeOf330
  v139 := Tryz.zeroValue330
  g3 := by kernel_rfl
  g4 := by kernel_rfl }
open Go.RowKit in
theorem Tryz.strings_Trim_one (s : ByteArray) (c : UInt8) (hc : c.toNat < 128) (w : World) (hs : s.size ≤ 9223372036854775807) :
    Calls Tryz.prog 117 #[.string s, .string ⟨#[c]⟩] w fun e w' => e = .returned (.string ⟨(Lib.trimB s.data.toList c).toArray⟩) ∧ (w' = w ∨ w' = w.drew) := Any.strings_Trim_one Tryz.lays160 s c hc w hs
def Tryz.lays119_ren : Go.Shelf.Ren := ⟨fun | 119 => 241 | n => n, fun | 21 => 21 | 4 => 4 | n => n, fun | n => n⟩
theorem Tryz.lays119 : Go.Proofs.Lays.n119 Tryz.prog Tryz.lays119_ren := {
  mixed := by kernel_rfl
  f119 := Tryz.func241.trans (congrArg some (by kernel_rfl))
  t4 := Tryz.underlying4
  a4 := Tryz.isAgg4
  z4 := Tryz.sizeOf4
  v4 := Tryz.zeroValue4
  t21 := Tryz.underlying21
  a21 := Tryz.isAgg21
  z21 := Tryz.sizeOf21
  v21 := Tryz.zeroValue21 }
theorem Tryz.utf8_ValidRune (r : Int) (w : World) :
    Calls Tryz.prog 241 #[.int .i32 r] w fun e w' => e = .returned (.bool (Lib.validRune r)) ∧ w' = w := Any.utf8_ValidRune Tryz.lays119 r w
def Tryz.lays120_ren : Go.Shelf.Ren := ⟨fun | 120 => 215 | n => n, fun | 5 => 5 | 4 => 4 | n => n, fun | n => n⟩
theorem Tryz.lays120 : Go.Proofs.Lays.n120 Tryz.prog Tryz.lays120_ren := {
  mixed := by kernel_rfl
  f120 := Tryz.func215.trans (congrArg some (by kernel_rfl))
  t4 := Tryz.underlying4
  a4 := Tryz.isAgg4
  z4 := Tryz.sizeOf4
  v4 := Tryz.zeroValue4
  t5 := Tryz.underlying5
  a5 := Tryz.isAgg5
  z5 := Tryz.sizeOf5
  v5 := Tryz.zeroValue5 }
theorem Tryz.utf8_RuneStart (b : Int) (w : World) (h0 : 0 ≤ b) (h1 : b < 256) :
    Calls Tryz.prog 215 #[.int .u8 b] w fun e w' => e = .returned (.bool (Lib.runeStart b)) ∧ w' = w := Any.utf8_RuneStart Tryz.lays120 b w h0 h1
def Tryz.lays137_ren : Go.Shelf.Ren := ⟨fun | 137 => 240 | 217 => 258 | 266 => 263 | n => n, fun | 9 => 9 | 5 => 5 | 3 => 3 | n => n, fun | n => n⟩
theorem Tryz.lays137 : Go.Proofs.Lays.n137 Tryz.prog Tryz.lays137_ren := {
  mixed := by kernel_rfl
  f137 := Tryz.func240.trans (congrArg some (by kernel_rfl))
  f217 := Tryz.func258.trans (congrArg some (by kernel_rfl))
  f266 := Tryz.func263.trans (congrArg some (by kernel_rfl))
  t3 := Tryz.underlying3
  a3 := Tryz.isAgg3
  z3 := Tryz.sizeOf3
  v3 := Tryz.zeroValue3
  t5 := Tryz.underlying5
  a5 := Tryz.isAgg5
  z5 := Tryz.sizeOf5
  v5 := Tryz.zeroValue5
  t9 := Tryz.underlying9
  a9 := Tryz.isAgg9
  z9 := Tryz.sizeOf9
  v9 := Tryz.zeroValue9 }
open Go.RowKit in
theorem Tryz.strings_IndexByte (s : ByteArray) (c : Int) (w : World) :
    Calls Tryz.prog 240 #[.string s, .int .u8 c] w fun e w' => e = .returned (.int .i64 (Lib.indexByte s.data.toList c.toNat.toUInt8)) ∧ w' = w := Any.strings_IndexByte Tryz.lays137 s c w
def Tryz.lays215_ren : Go.Shelf.Ren := ⟨fun | 215 => 205 | n => n, fun | 3 => 3 | 4 => 4 | n => n, fun | n => n⟩
theorem Tryz.lays215 : Go.Proofs.Lays.n215 Tryz.prog Tryz.lays215_ren := {
  mixed := by kernel_rfl
  f215 := Tryz.func205.trans (congrArg some (by kernel_rfl))
  t3 := Tryz.underlying3
  a3 := Tryz.isAgg3
  z3 := Tryz.sizeOf3
  v3 := Tryz.zeroValue3
  t4 := Tryz.underlying4
  a4 := Tryz.isAgg4
  z4 := Tryz.sizeOf4
  v4 := Tryz.zeroValue4 }
open Go.RowKit in
theorem Tryz.cmp_isNaN_int (x : Int) (w : World) :
    Calls Tryz.prog 205 #[.int .i64 x] w fun e w' => e = .returned (.bool false) ∧ w' = w := Any.cmp_isNaN_int Tryz.lays215 x w
def Tryz.lays122_ren : Go.Shelf.Ren := ⟨fun | 122 => 183 | 215 => 205 | n => n, fun | 3 => 3 | 4 => 4 | n => n, fun | n => n⟩
theorem Tryz.lays122 : Go.Proofs.Lays.n122 Tryz.prog Tryz.lays122_ren := {
  mixed := by kernel_rfl
  f122 := Tryz.func183.trans (congrArg some (by kernel_rfl))
  f215 := Tryz.func205.trans (congrArg some (by kernel_rfl))
  t3 := Tryz.underlying3
  a3 := Tryz.isAgg3
  z3 := Tryz.sizeOf3
  v3 := Tryz.zeroValue3
  t4 := Tryz.underlying4
  a4 := Tryz.isAgg4
  z4 := Tryz.sizeOf4
  v4 := Tryz.zeroValue4 }
open Go.RowKit in
theorem Tryz.cmp_Compare_int (x y : Int) (w : World) :
    Calls Tryz.prog 183 #[.int .i64 x, .int .i64 y] w fun e w' => e = .returned (.int .i64 (Lib.compareInt x y)) ∧ w' = w := Any.cmp_Compare_int Tryz.lays122 x y w
def Tryz.lays129_ren : Go.Shelf.Ren := ⟨fun | 129 => 226 | n => n, fun | 53 => 120 | 3 => 3 | 4 => 4 | 46 => 169 | 5 => 5 | 9 => 9 | n => n, fun | n => n⟩
theorem Tryz.lays129 : Go.Proofs.Lays.n129 Tryz.prog Tryz.lays129_ren := {
  mixed := by kernel_rfl
  f129 := Tryz.func226.trans (congrArg some (by kernel_rfl))
  t3 := Tryz.underlying3
  a3 := Tryz.isAgg3
  z3 := Tryz.sizeOf3
  v3 := Tryz.zeroValue3
  t4 := Tryz.underlying4
  a4 := Tryz.isAgg4
  z4 := Tryz.sizeOf4
  v4 := Tryz.zeroValue4
  t5 := Tryz.underlying5
  a5 := Tryz.isAgg5
  z5 := Tryz.sizeOf5
  v5 := Tryz.zeroValue5
  t9 := Tryz.underlying9
  a9 := Tryz.isAgg9
  z9 := Tryz.sizeOf9
  v9 := Tryz.zeroValue9
  t46 := Tryz.underlying169
  a46 := Tryz.isAgg169
  z46 := Tryz.sizeOf169
  v46 := Tryz.zeroValue169
  t53 := Tryz.underlying120
  a53 := Tryz.isAgg120
  z53 := Tryz.sizeOf120
  v53 := Tryz.zeroValue120 }
theorem Tryz.bits_Len64 (x : Int) (w : World) (h0 : 0 ≤ x) (h1 : x ≤ 18446744073709551615) :
    Calls Tryz.prog 226 #[.int .u64 x] w fun e w' => e = .returned (.int .i64 (Lib.bitLen x.toNat)) ∧ w' = w := Any.bits_Len64 Tryz.lays129 x w h0 h1
def Tryz.lays317_ren : Go.Shelf.Ren := ⟨fun | 317 => 250 | n => n, fun | 3 => 3 | 46 => 169 | n => n, fun | n => n⟩
theorem Tryz.lays317 : Go.Proofs.Lays.n317 Tryz.prog Tryz.lays317_ren := {
  mixed := by kernel_rfl
  f317 := Tryz.func250.trans (congrArg some (by kernel_rfl))
  t3 := Tryz.underlying3
  a3 := Tryz.isAgg3
  z3 := Tryz.sizeOf3
  v3 := Tryz.zeroValue3
  t46 := Tryz.underlying169
  a46 := Tryz.isAgg169
  z46 := Tryz.sizeOf169
  v46 := Tryz.zeroValue169 }
open Go.Lib in
theorem Tryz.internal_strconv_log10Pow2 (x : Nat) (h : x ≤ 64) (w : World) :
    Calls Tryz.prog 250 #[.int .i64 x] w fun e w' => e = .returned (.int .i64 (Lib.l10 x)) ∧ w' = w := Any.internal_strconv_log10Pow2 Tryz.lays317 x h w
def Tryz.lays318_ren : Go.Shelf.Ren := ⟨fun | 318 => 251 | n => n, fun | 3 => 3 | 4 => 4 | n => n, fun | n => n⟩
theorem Tryz.lays318 : Go.Proofs.Lays.n318 Tryz.prog Tryz.lays318_ren := {
  mixed := by kernel_rfl
  f318 := Tryz.func251.trans (congrArg some (by kernel_rfl))
  t3 := Tryz.underlying3
  a3 := Tryz.isAgg3
  z3 := Tryz.sizeOf3
  v3 := Tryz.zeroValue3
  t4 := Tryz.underlying4
  a4 := Tryz.isAgg4
  z4 := Tryz.sizeOf4
  v4 := Tryz.zeroValue4 }
open Go.Lib in
theorem Tryz.internal_strconv_bool2_int (b : Bool) (w : World) :
    Calls Tryz.prog 251 #[.bool b] w fun e w' => e = .returned (.int .i64 (if b then 1 else 0)) ∧ w' = w := Any.internal_strconv_bool2_int Tryz.lays318 b w
def Tryz.lays283_ren : Go.Shelf.Ren := ⟨fun | 283 => 227 | n => n, fun | 3 => 3 | 9 => 9 | 4 => 4 | n => n, fun | n => n⟩
theorem Tryz.lays283 : Go.Proofs.Lays.n283 Tryz.prog Tryz.lays283_ren := {
  mixed := by kernel_rfl
  f283 := Tryz.func227.trans (congrArg some (by kernel_rfl))
  t3 := Tryz.underlying3
  a3 := Tryz.isAgg3
  z3 := Tryz.sizeOf3
  v3 := Tryz.zeroValue3
  t4 := Tryz.underlying4
  a4 := Tryz.isAgg4
  z4 := Tryz.sizeOf4
  v4 := Tryz.zeroValue4
  t9 := Tryz.underlying9
  a9 := Tryz.isAgg9
  z9 := Tryz.sizeOf9
  v9 := Tryz.zeroValue9 }
open Go.Lib in
theorem Tryz.internal_strconv_small (i : Nat) (h : i < 100) (w : World) :
    Calls Tryz.prog 227 #[.int .i64 i] w fun e w' => e = .returned (.string ⟨(Lib.decDigits i).toArray⟩) ∧ w' = w := Any.internal_strconv_small Tryz.lays283 i h w
def Tryz.laysM284_ren : Go.Shelf.Ren := ⟨fun | 284 => 228 | 129 => 226 | 317 => 250 | 318 => 251 | n => n, fun | 53 => 120 | 3 => 3 | 212 => 340 | 0 => 0 | 4 => 4 | 46 => 169 | 5 => 5 | 9 => 9 | n => n, fun | 17 => 3 | n => n⟩
theorem Tryz.laysM284 : Go.Proofs.LaysM.n284 Tryz.prog Tryz.laysM284_ren := {
  mixed := by kernel_rfl
  f129 := Tryz.func226.trans (congrArg some (by kernel_rfl))
  f284 := Tryz.func228.trans (congrArg some (by kernel_rfl))
  f317 := Tryz.func250.trans (congrArg some (by kernel_rfl))
  f318 := Tryz.func251.trans (congrArg some (by kernel_rfl))
  t0 := Tryz.underlying0
  a0 := Tryz.isAgg0
  z0 := Tryz.sizeOf0
  v0 := Tryz.zeroValue0
  t3 := Tryz.underlying3
  a3 := Tryz.isAgg3
  z3 := Tryz.sizeOf3
  v3 := Tryz.zeroValue3
  t4 := Tryz.underlying4
  a4 := Tryz.isAgg4
  z4 := Tryz.sizeOf4
  v4 := Tryz.zeroValue4
  t5 := Tryz.underlying5
  a5 := Tryz.isAgg5
  z5 := Tryz.sizeOf5
  v5 := Tryz.zeroValue5
  t9 := Tryz.underlying9
  a9 := Tryz.isAgg9
  z9 := Tryz.sizeOf9
  v9 := Tryz.zeroValue9
  t46 := Tryz.underlying169
  a46 := Tryz.isAgg169
  z46 := Tryz.sizeOf169
  v46 := Tryz.zeroValue169
  t53 := Tryz.underlying120
  a53 := Tryz.isAgg120
  z53 := Tryz.sizeOf120
  v53 := Tryz.zeroValue120
  t212 := Tryz.underlying340
  a212 := Tryz.isAgg340
  z212 := Tryz.sizeOf340
  v212 := Tryz.zeroValue340
  g17 := by kernel_rfl
  i0 := by kernel_rfl
  i3 := by kernel_rfl
  i4 := by kernel_rfl
  i5 := by kernel_rfl
  i9 := by kernel_rfl
  i46 := by kernel_rfl
  i53 := by kernel_rfl
  i212 := by kernel_rfl
  m17 := by kernel_rfl }
open Go.Lib in
theorem Tryz.internal_strconv_numDigits (u : Nat) (h1 : 1 ≤ u) (h2 : u < 18446744073709551616) (w : World) (htab : Lib.TabIs Tryz.prog w "internal/strconv.uint64pow10" .u64 Lib.pow10Tab) :
    Calls Tryz.prog 228 #[.int .u64 u] w fun e w' => e = .returned (.int .i64 (Lib.nDigits u)) ∧ w' = w := Any.internal_strconv_numDigits Tryz.laysM284 u h1 h2 w htab
def Tryz.lays285_ren : Go.Shelf.Ren := ⟨fun | 285 => 229 | n => n, fun | 37 => 79 | 53 => 120 | 3 => 3 | 4 => 4 | 51 => 123 | 9 => 9 | 5 => 5 | 0 => 0 | n => n, fun | n => n⟩
theorem Tryz.lays285 : Go.Proofs.Lays.n285 Tryz.prog Tryz.lays285_ren := {
  mixed := by kernel_rfl
  f285 := Tryz.func229.trans (congrArg some (by kernel_rfl))
  t0 := Tryz.underlying0
  a0 := Tryz.isAgg0
  z0 := Tryz.sizeOf0
  v0 := Tryz.zeroValue0
  t3 := Tryz.underlying3
  a3 := Tryz.isAgg3
  z3 := Tryz.sizeOf3
  v3 := Tryz.zeroValue3
  t4 := Tryz.underlying4
  a4 := Tryz.isAgg4
  z4 := Tryz.sizeOf4
  v4 := Tryz.zeroValue4
  t5 := Tryz.underlying5
  a5 := Tryz.isAgg5
  z5 := Tryz.sizeOf5
  v5 := Tryz.zeroValue5
  t9 := Tryz.underlying9
  a9 := Tryz.isAgg9
  z9 := Tryz.sizeOf9
  v9 := Tryz.zeroValue9
  t37 := Tryz.underlying79
  a37 := Tryz.isAgg79
  z37 := Tryz.sizeOf79
  v37 := Tryz.zeroValue79
  t51 := Tryz.underlying123
  a51 := Tryz.isAgg123
  z51 := Tryz.sizeOf123
  v51 := Tryz.zeroValue123
  t53 := Tryz.underlying120
  a53 := Tryz.isAgg120
  z53 := Tryz.sizeOf120
  v53 := Tryz.zeroValue120 }
open Go.RowKit Go.Sort Go.Lib in
theorem Tryz.internal_strconv_formatBase10 (blk off cap : Nat) (u : Nat) (d : Array UInt8) (w : World) (hH : Holds (fun (b : UInt8) => Value.int .u8 (b.toNat : Int)) w blk off d) (hu : u < 10 ^ d.size) (hu64 : u < 18446744073709551616) (hsz : d.size < 4611686018427387904) :
    Calls Tryz.prog 229 #[.slice (some ⟨blk, off, none⟩) d.size cap, .int .u64 u] w fun e w' =>
      e = .returned (.tuple #[]) ∧ ∃ (n v' : Nat) (dk : Array UInt8), w' = (putRow (fun (b : UInt8) => Value.int .u8 (b.toNat : Int)) w blk off dk).drewN n ∧ FmtInv d.size u 0 v' dk := Any.internal_strconv_formatBase10 Tryz.lays285 blk off cap u d w hH hu hu64 hsz
def Tryz.laysM246_ren : Go.Shelf.Ren := ⟨fun | 246 => 210 | 283 => 227 | 284 => 228 | 285 => 229 | 286 => 230 | 129 => 226 | 317 => 250 | 318 => 251 | 319 => 252 | 320 => 253 | 337 => 260 | 338 => 261 | n => n, fun | 2 => 2 | 3 => 3 | 9 => 9 | 4 => 4 | 171 => 317 | 0 => 0 | 53 => 120 | 37 => 79 | 5 => 5 | 173 => 319 | 212 => 340 | 51 => 123 | 20 => 20 | 213 => 341 | 46 => 169 | 232 => 347 | 233 => 348 | n => n, fun | 17 => 3 | 18 => 5 | 19 => 6 | n => n⟩
theorem Tryz.laysM246 : Go.Proofs.LaysM.n246 Tryz.prog Tryz.laysM246_ren := {
  mixed := by kernel_rfl
  f129 := Tryz.func226.trans (congrArg some (by kernel_rfl))
  f246 := Tryz.func210.trans (congrArg some (by kernel_rfl))
  f283 := Tryz.func227.trans (congrArg some (by kernel_rfl))
  f284 := Tryz.func228.trans (congrArg some (by kernel_rfl))
  f285 := Tryz.func229.trans (congrArg some (by kernel_rfl))
  f286 := Tryz.func230.trans (congrArg some (by kernel_rfl))
  f317 := Tryz.func250.trans (congrArg some (by kernel_rfl))
  f318 := Tryz.func251.trans (congrArg some (by kernel_rfl))
  f319 := Tryz.func252.trans (congrArg some (by kernel_rfl))
  f320 := Tryz.func253.trans (congrArg some (by kernel_rfl))
  f337 := Tryz.func260.trans (congrArg some (by kernel_rfl))
  f338 := Tryz.func261.trans (congrArg some (by kernel_rfl))
  t0 := Tryz.underlying0
  a0 := Tryz.isAgg0
  z0 := Tryz.sizeOf0
  v0 := Tryz.zeroValue0
  t2 := Tryz.underlying2
  a2 := Tryz.isAgg2
  z2 := Tryz.sizeOf2
  v2 := Tryz.zeroValue2
  t3 := Tryz.underlying3
  a3 := Tryz.isAgg3
  z3 := Tryz.sizeOf3
  v3 := Tryz.zeroValue3
  t4 := Tryz.underlying4
  a4 := Tryz.isAgg4
  z4 := Tryz.sizeOf4
  v4 := Tryz.zeroValue4
  t5 := Tryz.underlying5
  a5 := Tryz.isAgg5
  z5 := Tryz.sizeOf5
  v5 := Tryz.zeroValue5
  t9 := Tryz.underlying9
  a9 := Tryz.isAgg9
  z9 := Tryz.sizeOf9
  v9 := Tryz.zeroValue9
  t20 := Tryz.underlying20
  a20 := Tryz.isAgg20
  z20 := Tryz.sizeOf20
  v20 := Tryz.zeroValue20
  t37 := Tryz.underlying79
  a37 := Tryz.isAgg79
  z37 := Tryz.sizeOf79
  v37 := Tryz.zeroValue79
  t46 := Tryz.underlying169
  a46 := Tryz.isAgg169
  z46 := Tryz.sizeOf169
  v46 := Tryz.zeroValue169
  t51 := Tryz.underlying123
  a51 := Tryz.isAgg123
  z51 := Tryz.sizeOf123
  v51 := Tryz.zeroValue123
  t53 := Tryz.underlying120
  a53 := Tryz.isAgg120
  z53 := Tryz.sizeOf120
  v53 := Tryz.zeroValue120
  t171 := Tryz.underlying317
  a171 := Tryz.isAgg317
  z171 := Tryz.sizeOf317
  v171 := Tryz.zeroValue317
  t173 := Tryz.underlying319
  a173 := Tryz.isAgg319
  z173 := Tryz.sizeOf319
  v173 := Tryz.zeroValue319
  t212 := Tryz.underlying340
  a212 := Tryz.isAgg340
  z212 := Tryz.sizeOf340
  v212 := Tryz.zeroValue340
  t213 := Tryz.underlying341
  a213 := Tryz.isAgg341
  z213 := Tryz.sizeOf341
  t232 := Tryz.underlying347
  a232 := Tryz.isAgg347
  z232 := Tryz.sizeOf347
  v232 := Tryz.zeroValue347
  t233 := Tryz.underlying348
  a233 := Tryz.isAgg348
  z233 := Tryz.sizeOf348
  v233 := Tryz.zeroValue348
  g17 := by kernel_rfl
  g18 := by kernel_rfl
  g19 := by kernel_rfl
  i0 := by kernel_rfl
  i2 := by kernel_rfl
  i3 := by kernel_rfl
  i4 := by kernel_rfl
  i5 := by kernel_rfl
  i9 := by kernel_rfl
  i20 := by kernel_rfl
  i37 := by kernel_rfl
  i46 := by kernel_rfl
  i51 := by kernel_rfl
  i53 := by kernel_rfl
  i171 := by kernel_rfl
  i173 := by kernel_rfl
  i212 := by kernel_rfl
  i232 := by kernel_rfl
  i233 := by kernel_rfl
  m17 := by kernel_rfl
  m18 := by kernel_rfl
  m19 := by kernel_rfl }
open Go.RowKit Go.Sort Go.Lib in
theorem Tryz.internal_strconv_FormatInt_10 (n : Int) (h0 : -9223372036854775808 ≤ n) (h1 : n ≤ 9223372036854775807) (w : World) (htab : Lib.TabIs Tryz.prog w "internal/strconv.uint64pow10" .u64 Lib.pow10Tab) :
    Calls Tryz.prog 210 #[.int .i64 n, .int .i64 10] w fun e w' => e = .returned (.string ⟨(Lib.itoa n).toArray⟩) ∧ ∃ k os, w' = grow (w.drewN k) os := Any.internal_strconv_FormatInt_10 Tryz.laysM246 n h0 h1 w htab
def Tryz.lays246_ren : Go.Shelf.Ren := ⟨fun | 246 => 210 | 283 => 227 | 284 => 228 | 285 => 229 | 286 => 230 | 129 => 226 | 317 => 250 | 318 => 251 | 319 => 252 | 320 => 253 | 337 => 260 | 338 => 261 | n => n, fun | 2 => 2 | 3 => 3 | 9 => 9 | 4 => 4 | 171 => 317 | 0 => 0 | 53 => 120 | 37 => 79 | 5 => 5 | 173 => 319 | 212 => 340 | 51 => 123 | 20 => 20 | 213 => 341 | 46 => 169 | 232 => 347 | 233 => 348 | n => n, fun | 17 => 3 | 18 => 5 | 19 => 6 | n => n⟩
theorem Tryz.lays246 : Go.Proofs.Lays.n246 Tryz.prog Tryz.lays246_ren := {
  mixed := by kernel_rfl
  f129 := Tryz.func226.trans (congrArg some (by kernel_rfl))
  f246 := Tryz.func210.trans (congrArg some (by kernel_rfl))
  f283 := Tryz.func227.trans (congrArg some (by kernel_rfl))
  f284 := Tryz.func228.trans (congrArg some (by kernel_rfl))
  f285 := Tryz.func229.trans (congrArg some (by kernel_rfl))
  f286 := Tryz.func230.trans (congrArg some (by kernel_rfl))
  f317 := Tryz.func250.trans (congrArg some (by kernel_rfl))
  f318 := Tryz.func251.trans (congrArg some (by kernel_rfl))
  f319 := Tryz.func252.trans (congrArg some (by kernel_rfl))
  f320 := Tryz.func253.trans (congrArg some (by kernel_rfl))
  f337 := Tryz.func260.trans (congrArg some (by kernel_rfl))
  f338 := Tryz.func261.trans (congrArg some (by kernel_rfl))
  t0 := Tryz.underlying0
  a0 := Tryz.isAgg0
  z0 := Tryz.sizeOf0
  v0 := Tryz.zeroValue0
  t2 := Tryz.underlying2
  a2 := Tryz.isAgg2
  z2 := Tryz.sizeOf2
  v2 := Tryz.zeroValue2
  t3 := Tryz.underlying3
  a3 := Tryz.isAgg3
  z3 := Tryz.sizeOf3
  v3 := Tryz.zeroValue3
  t4 := Tryz.underlying4
  a4 := Tryz.isAgg4
  z4 := Tryz.sizeOf4
  v4 := Tryz.zeroValue4
  t5 := Tryz.underlying5
  a5 := Tryz.isAgg5
  z5 := Tryz.sizeOf5
  v5 := Tryz.zeroValue5
  t9 := Tryz.underlying9
  a9 := Tryz.isAgg9
  z9 := Tryz.sizeOf9
  v9 := Tryz.zeroValue9
  t20 := Tryz.underlying20
  a20 := Tryz.isAgg20
  z20 := Tryz.sizeOf20
  v20 := Tryz.zeroValue20
  t37 := Tryz.underlying79
  a37 := Tryz.isAgg79
  z37 := Tryz.sizeOf79
  v37 := Tryz.zeroValue79
  t46 := Tryz.underlying169
  a46 := Tryz.isAgg169
  z46 := Tryz.sizeOf169
  v46 := Tryz.zeroValue169
  t51 := Tryz.underlying123
  a51 := Tryz.isAgg123
  z51 := Tryz.sizeOf123
  v51 := Tryz.zeroValue123
  t53 := Tryz.underlying120
  a53 := Tryz.isAgg120
  z53 := Tryz.sizeOf120
  v53 := Tryz.zeroValue120
  t171 := Tryz.underlying317
  a171 := Tryz.isAgg317
  z171 := Tryz.sizeOf317
  v171 := Tryz.zeroValue317
  t173 := Tryz.underlying319
  a173 := Tryz.isAgg319
  z173 := Tryz.sizeOf319
  v173 := Tryz.zeroValue319
  t212 := Tryz.underlying340
  a212 := Tryz.isAgg340
  z212 := Tryz.sizeOf340
  v212 := Tryz.zeroValue340
  t213 := Tryz.underlying341
  a213 := Tryz.isAgg341
  z213 := Tryz.sizeOf341
  t232 := Tryz.underlying347
  a232 := Tryz.isAgg347
  z232 := Tryz.sizeOf347
  v232 := Tryz.zeroValue347
  t233 := Tryz.underlying348
  a233 := Tryz.isAgg348
  z233 := Tryz.sizeOf348
  v233 := Tryz.zeroValue348
  g17 := by kernel_rfl
  g18 := by kernel_rfl
  g19 := by kernel_rfl }
open Go.RowKit Go.Sort Go.Lib in
theorem Tryz.internal_strconv_FormatInt_10_small (i : Nat) (hi : i < 100) (w : World) :
    Calls Tryz.prog 210 #[.int .i64 i, .int .i64 10] w fun e w' => e = .returned (.string ⟨(Lib.decDigits i).toArray⟩) ∧ w' = w := Any.internal_strconv_FormatInt_10_small Tryz.lays246 i hi w
def Tryz.laysM243_ren : Go.Shelf.Ren := ⟨fun | 243 => 193 | 246 => 210 | 283 => 227 | 284 => 228 | 285 => 229 | 286 => 230 | 129 => 226 | 317 => 250 | 318 => 251 | 319 => 252 | 320 => 253 | 337 => 260 | 338 => 261 | n => n, fun | 3 => 3 | 9 => 9 | 2 => 2 | 4 => 4 | 171 => 317 | 0 => 0 | 53 => 120 | 37 => 79 | 5 => 5 | 173 => 319 | 212 => 340 | 51 => 123 | 20 => 20 | 213 => 341 | 46 => 169 | 232 => 347 | 233 => 348 | n => n, fun | 17 => 3 | 18 => 5 | 19 => 6 | n => n⟩
theorem Tryz.laysM243 : Go.Proofs.LaysM.n243 Tryz.prog Tryz.laysM243_ren := {
  mixed := by kernel_rfl
  f129 := Tryz.func226.trans (congrArg some (by kernel_rfl))
  f243 := Tryz.func193.trans (congrArg some (by kernel_rfl))
  f246 := Tryz.func210.trans (congrArg some (by kernel_rfl))
  f283 := Tryz.func227.trans (congrArg some (by kernel_rfl))
  f284 := Tryz.func228.trans (congrArg some (by kernel_rfl))
  f285 := Tryz.func229.trans (congrArg some (by kernel_rfl))
  f286 := Tryz.func230.trans (congrArg some (by kernel_rfl))
  f317 := Tryz.func250.trans (congrArg some (by kernel_rfl))
  f318 := Tryz.func251.trans (congrArg some (by kernel_rfl))
  f319 := Tryz.func252.trans (congrArg some (by kernel_rfl))
  f320 := Tryz.func253.trans (congrArg some (by kernel_rfl))
  f337 := Tryz.func260.trans (congrArg some (by kernel_rfl))
  f338 := Tryz.func261.trans (congrArg some (by kernel_rfl))
  t0 := Tryz.underlying0
  a0 := Tryz.isAgg0
  z0 := Tryz.sizeOf0
  v0 := Tryz.zeroValue0
  t2 := Tryz.underlying2
  a2 := Tryz.isAgg2
  z2 := Tryz.sizeOf2
  v2 := Tryz.zeroValue2
  t3 := Tryz.underlying3
  a3 := Tryz.isAgg3
  z3 := Tryz.sizeOf3
  v3 := Tryz.zeroValue3
  t4 := Tryz.underlying4
  a4 := Tryz.isAgg4
  z4 := Tryz.sizeOf4
  v4 := Tryz.zeroValue4
  t5 := Tryz.underlying5
  a5 := Tryz.isAgg5
  z5 := Tryz.sizeOf5
  v5 := Tryz.zeroValue5
  t9 := Tryz.underlying9
  a9 := Tryz.isAgg9
  z9 := Tryz.sizeOf9
  v9 := Tryz.zeroValue9
  t20 := Tryz.underlying20
  a20 := Tryz.isAgg20
  z20 := Tryz.sizeOf20
  v20 := Tryz.zeroValue20
  t37 := Tryz.underlying79
  a37 := Tryz.isAgg79
  z37 := Tryz.sizeOf79
  v37 := Tryz.zeroValue79
  t46 := Tryz.underlying169
  a46 := Tryz.isAgg169
  z46 := Tryz.sizeOf169
  v46 := Tryz.zeroValue169
  t51 := Tryz.underlying123
  a51 := Tryz.isAgg123
  z51 := Tryz.sizeOf123
  v51 := Tryz.zeroValue123
  t53 := Tryz.underlying120
  a53 := Tryz.isAgg120
  z53 := Tryz.sizeOf120
  v53 := Tryz.zeroValue120
  t171 := Tryz.underlying317
  a171 := Tryz.isAgg317
  z171 := Tryz.sizeOf317
  v171 := Tryz.zeroValue317
  t173 := Tryz.underlying319
  a173 := Tryz.isAgg319
  z173 := Tryz.sizeOf319
  v173 := Tryz.zeroValue319
  t212 := Tryz.underlying340
  a212 := Tryz.isAgg340
  z212 := Tryz.sizeOf340
  v212 := Tryz.zeroValue340
  t213 := Tryz.underlying341
  a213 := Tryz.isAgg341
  z213 := Tryz.sizeOf341
  t232 := Tryz.underlying347
  a232 := Tryz.isAgg347
  z232 := Tryz.sizeOf347
  v232 := Tryz.zeroValue347
  t233 := Tryz.underlying348
  a233 := Tryz.isAgg348
  z233 := Tryz.sizeOf348
  v233 := Tryz.zeroValue348
  g17 := by kernel_rfl
  g18 := by kernel_rfl
  g19 := by kernel_rfl
  i0 := by kernel_rfl
  i2 := by kernel_rfl
  i3 := by kernel_rfl
  i4 := by kernel_rfl
  i5 := by kernel_rfl
  i9 := by kernel_rfl
  i20 := by kernel_rfl
  i37 := by kernel_rfl
  i46 := by kernel_rfl
  i51 := by kernel_rfl
  i53 := by kernel_rfl
  i171 := by kernel_rfl
  i173 := by kernel_rfl
  i212 := by kernel_rfl
  i232 := by kernel_rfl
  i233 := by kernel_rfl
  m17 := by kernel_rfl
  m18 := by kernel_rfl
  m19 := by kernel_rfl }
open Go.RowKit Go.Sort Go.Lib in
theorem Tryz.internal_strconv_Itoa (n : Int) (h0 : -9223372036854775808 ≤ n) (h1 : n ≤ 9223372036854775807) (w : World) (htab : Lib.TabIs Tryz.prog w "internal/strconv.uint64pow10" .u64 Lib.pow10Tab) :
    Calls Tryz.prog 193 #[.int .i64 n] w fun e w' => e = .returned (.string ⟨(Lib.itoa n).toArray⟩) ∧ ∃ k os, w' = grow (w.drewN k) os := Any.internal_strconv_Itoa Tryz.laysM243 n h0 h1 w htab
def Tryz.lays243_ren : Go.Shelf.Ren := ⟨fun | 243 => 193 | 246 => 210 | 283 => 227 | 284 => 228 | 285 => 229 | 286 => 230 | 129 => 226 | 317 => 250 | 318 => 251 | 319 => 252 | 320 => 253 | 337 => 260 | 338 => 261 | n => n, fun | 3 => 3 | 9 => 9 | 2 => 2 | 4 => 4 | 171 => 317 | 0 => 0 | 53 => 120 | 37 => 79 | 5 => 5 | 173 => 319 | 212 => 340 | 51 => 123 | 20 => 20 | 213 => 341 | 46 => 169 | 232 => 347 | 233 => 348 | n => n, fun | 17 => 3 | 18 => 5 | 19 => 6 | n => n⟩
theorem Tryz.lays243 : Go.Proofs.Lays.n243 Tryz.prog Tryz.lays243_ren := {
  mixed := by kernel_rfl
  f129 := Tryz.func226.trans (congrArg some (by kernel_rfl))
  f243 := Tryz.func193.trans (congrArg some (by kernel_rfl))
  f246 := Tryz.func210.trans (congrArg some (by kernel_rfl))
  f283 := Tryz.func227.trans (congrArg some (by kernel_rfl))
  f284 := Tryz.func228.trans (congrArg some (by kernel_rfl))
  f285 := Tryz.func229.trans (congrArg some (by kernel_rfl))
  f286 := Tryz.func230.trans (congrArg some (by kernel_rfl))
  f317 := Tryz.func250.trans (congrArg some (by kernel_rfl))
  f318 := Tryz.func251.trans (congrArg some (by kernel_rfl))
  f319 := Tryz.func252.trans (congrArg some (by kernel_rfl))
  f320 := Tryz.func253.trans (congrArg some (by kernel_rfl))
  f337 := Tryz.func260.trans (congrArg some (by kernel_rfl))
  f338 := Tryz.func261.trans (congrArg some (by kernel_rfl))
  t0 := Tryz.underlying0
  a0 := Tryz.isAgg0
  z0 := Tryz.sizeOf0
  v0 := Tryz.zeroValue0
  t2 := Tryz.underlying2
  a2 := Tryz.isAgg2
  z2 := Tryz.sizeOf2
  v2 := Tryz.zeroValue2
  t3 := Tryz.underlying3
  a3 := Tryz.isAgg3
  z3 := Tryz.sizeOf3
  v3 := Tryz.zeroValue3
  t4 := Tryz.underlying4
  a4 := Tryz.isAgg4
  z4 := Tryz.sizeOf4
  v4 := Tryz.zeroValue4
  t5 := Tryz.underlying5
  a5 := Tryz.isAgg5
  z5 := Tryz.sizeOf5
  v5 := Tryz.zeroValue5
  t9 := Tryz.underlying9
  a9 := Tryz.isAgg9
  z9 := Tryz.sizeOf9
  v9 := Tryz.zeroValue9
  t20 := Tryz.underlying20
  a20 := Tryz.isAgg20
  z20 := Tryz.sizeOf20
  v20 := Tryz.zeroValue20
  t37 := Tryz.underlying79
  a37 := Tryz.isAgg79
  z37 := Tryz.sizeOf79
  v37 := Tryz.zeroValue79
  t46 := Tryz.underlying169
  a46 := Tryz.isAgg169
  z46 := Tryz.sizeOf169
  v46 := Tryz.zeroValue169
  t51 := Tryz.underlying123
  a51 := Tryz.isAgg123
  z51 := Tryz.sizeOf123
  v51 := Tryz.zeroValue123
  t53 := Tryz.underlying120
  a53 := Tryz.isAgg120
  z53 := Tryz.sizeOf120
  v53 := Tryz.zeroValue120
  t171 := Tryz.underlying317
  a171 := Tryz.isAgg317
  z171 := Tryz.sizeOf317
  v171 := Tryz.zeroValue317
  t173 := Tryz.underlying319
  a173 := Tryz.isAgg319
  z173 := Tryz.sizeOf319
  v173 := Tryz.zeroValue319
  t212 := Tryz.underlying340
  a212 := Tryz.isAgg340
  z212 := Tryz.sizeOf340
  v212 := Tryz.zeroValue340
  t213 := Tryz.underlying341
  a213 := Tryz.isAgg341
  z213 := Tryz.sizeOf341
  t232 := Tryz.underlying347
  a232 := Tryz.isAgg347
  z232 := Tryz.sizeOf347
  v232 := Tryz.zeroValue347
  t233 := Tryz.underlying348
  a233 := Tryz.isAgg348
  z233 := Tryz.sizeOf348
  v233 := Tryz.zeroValue348
  g17 := by kernel_rfl
  g18 := by kernel_rfl
  g19 := by kernel_rfl }
open Go.RowKit Go.Sort Go.Lib in
theorem Tryz.internal_strconv_Itoa_small (i : Nat) (hi : i < 100) (w : World) :
    Calls Tryz.prog 193 #[.int .i64 i] w fun e w' => e = .returned (.string ⟨(Lib.decDigits i).toArray⟩) ∧ w' = w := Any.internal_strconv_Itoa_small Tryz.lays243 i hi w
def Tryz.laysM171_ren : Go.Shelf.Ren := ⟨fun | 171 => 140 | 243 => 193 | 246 => 210 | 283 => 227 | 284 => 228 | 285 => 229 | 286 => 230 | 129 => 226 | 317 => 250 | 318 => 251 | 319 => 252 | 320 => 253 | 337 => 260 | 338 => 261 | n => n, fun | 3 => 3 | 9 => 9 | 2 => 2 | 4 => 4 | 171 => 317 | 0 => 0 | 53 => 120 | 37 => 79 | 5 => 5 | 173 => 319 | 212 => 340 | 51 => 123 | 20 => 20 | 213 => 341 | 46 => 169 | 232 => 347 | 233 => 348 | n => n, fun | 17 => 3 | 18 => 5 | 19 => 6 | n => n⟩
theorem Tryz.laysM171 : Go.Proofs.LaysM.n171 Tryz.prog Tryz.laysM171_ren := {
  mixed := by kernel_rfl
  f129 := Tryz.func226.trans (congrArg some (by kernel_rfl))
  f171 := Tryz.func140.trans (congrArg some (by kernel_rfl))
  f243 := Tryz.func193.trans (congrArg some (by kernel_rfl))
  f246 := Tryz.func210.trans (congrArg some (by kernel_rfl))
  f283 := Tryz.func227.trans (congrArg some (by kernel_rfl))
  f284 := Tryz.func228.trans (congrArg some (by kernel_rfl))
  f285 := Tryz.func229.trans (congrArg some (by kernel_rfl))
  f286 := Tryz.func230.trans (congrArg some (by kernel_rfl))
  f317 := Tryz.func250.trans (congrArg some (by kernel_rfl))
  f318 := Tryz.func251.trans (congrArg some (by kernel_rfl))
  f319 := Tryz.func252.trans (congrArg some (by kernel_rfl))
  f320 := Tryz.func253.trans (congrArg some (by kernel_rfl))
  f337 := Tryz.func260.trans (congrArg some (by kernel_rfl))
  f338 := Tryz.func261.trans (congrArg some (by kernel_rfl))
  t0 := Tryz.underlying0
  a0 := Tryz.isAgg0
  z0 := Tryz.sizeOf0
  v0 := Tryz.zeroValue0
  t2 := Tryz.underlying2
  a2 := Tryz.isAgg2
  z2 := Tryz.sizeOf2
  v2 := Tryz.zeroValue2
  t3 := Tryz.underlying3
  a3 := Tryz.isAgg3
  z3 := Tryz.sizeOf3
  v3 := Tryz.zeroValue3
  t4 := Tryz.underlying4
  a4 := Tryz.isAgg4
  z4 := Tryz.sizeOf4
  v4 := Tryz.zeroValue4
  t5 := Tryz.underlying5
  a5 := Tryz.isAgg5
  z5 := Tryz.sizeOf5
  v5 := Tryz.zeroValue5
  t9 := Tryz.underlying9
  a9 := Tryz.isAgg9
  z9 := Tryz.sizeOf9
  v9 := Tryz.zeroValue9
  t20 := Tryz.underlying20
  a20 := Tryz.isAgg20
  z20 := Tryz.sizeOf20
  v20 := Tryz.zeroValue20
  t37 := Tryz.underlying79
  a37 := Tryz.isAgg79
  z37 := Tryz.sizeOf79
  v37 := Tryz.zeroValue79
  t46 := Tryz.underlying169
  a46 := Tryz.isAgg169
  z46 := Tryz.sizeOf169
  v46 := Tryz.zeroValue169
  t51 := Tryz.underlying123
  a51 := Tryz.isAgg123
  z51 := Tryz.sizeOf123
  v51 := Tryz.zeroValue123
  t53 := Tryz.underlying120
  a53 := Tryz.isAgg120
  z53 := Tryz.sizeOf120
  v53 := Tryz.zeroValue120
  t171 := Tryz.underlying317
  a171 := Tryz.isAgg317
  z171 := Tryz.sizeOf317
  v171 := Tryz.zeroValue317
  t173 := Tryz.underlying319
  a173 := Tryz.isAgg319
  z173 := Tryz.sizeOf319
  v173 := Tryz.zeroValue319
  t212 := Tryz.underlying340
  a212 := Tryz.isAgg340
  z212 := Tryz.sizeOf340
  v212 := Tryz.zeroValue340
  t213 := Tryz.underlying341
  a213 := Tryz.isAgg341
  z213 := Tryz.sizeOf341
  t232 := Tryz.underlying347
  a232 := Tryz.isAgg347
  z232 := Tryz.sizeOf347
  v232 := Tryz.zeroValue347
  t233 := Tryz.underlying348
  a233 := Tryz.isAgg348
  z233 := Tryz.sizeOf348
  v233 := Tryz.zeroValue348
  g17 := by kernel_rfl
  g18 := by kernel_rfl
  g19 := by kernel_rfl
  i0 := by kernel_rfl
  i2 := by kernel_rfl
  i3 := by kernel_rfl
  i4 := by kernel_rfl
  i5 := by kernel_rfl
  i9 := by kernel_rfl
  i20 := by kernel_rfl
  i37 := by kernel_rfl
  i46 := by kernel_rfl
  i51 := by kernel_rfl
  i53 := by kernel_rfl
  i171 := by kernel_rfl
  i173 := by kernel_rfl
  i212 := by kernel_rfl
  i232 := by kernel_rfl
  i233 := by kernel_rfl
  m17 := by kernel_rfl
  m18 := by kernel_rfl
  m19 := by kernel_rfl }
open Go.RowKit Go.Sort Go.Lib in
theorem Tryz.strconv_Itoa (n : Int) (h0 : -9223372036854775808 ≤ n) (h1 : n ≤ 9223372036854775807) (w : World) (htab : Lib.TabIs Tryz.prog w "internal/strconv.uint64pow10" .u64 Lib.pow10Tab) :
    Calls Tryz.prog 140 #[.int .i64 n] w fun e w' => e = .returned (.string ⟨(Lib.itoa n).toArray⟩) ∧ ∃ k os, w' = grow (w.drewN k) os := Any.strconv_Itoa Tryz.laysM171 n h0 h1 w htab
def Tryz.lays171_ren : Go.Shelf.Ren := ⟨fun | 171 => 140 | 243 => 193 | 246 => 210 | 283 => 227 | 284 => 228 | 285 => 229 | 286 => 230 | 129 => 226 | 317 => 250 | 318 => 251 | 319 => 252 | 320 => 253 | 337 => 260 | 338 => 261 | n => n, fun | 3 => 3 | 9 => 9 | 2 => 2 | 4 => 4 | 171 => 317 | 0 => 0 | 53 => 120 | 37 => 79 | 5 => 5 | 173 => 319 | 212 => 340 | 51 => 123 | 20 => 20 | 213 => 341 | 46 => 169 | 232 => 347 | 233 => 348 | n => n, fun | 17 => 3 | 18 => 5 | 19 => 6 | n => n⟩
theorem Tryz.lays171 : Go.Proofs.Lays.n171 Tryz.prog Tryz.lays171_ren := {
  mixed := by kernel_rfl
  f129 := Tryz.func226.trans (congrArg some (by kernel_rfl))
  f171 := Tryz.func140.trans (congrArg some (by kernel_rfl))
  f243 := Tryz.func193.trans (congrArg some (by kernel_rfl))
  f246 := Tryz.func210.trans (congrArg some (by kernel_rfl))
  f283 := Tryz.func227.trans (congrArg some (by kernel_rfl))
  f284 := Tryz.func228.trans (congrArg some (by kernel_rfl))
  f285 := Tryz.func229.trans (congrArg some (by kernel_rfl))
  f286 := Tryz.func230.trans (congrArg some (by kernel_rfl))
  f317 := Tryz.func250.trans (congrArg some (by kernel_rfl))
  f318 := Tryz.func251.trans (congrArg some (by kernel_rfl))
  f319 := Tryz.func252.trans (congrArg some (by kernel_rfl))
  f320 := Tryz.func253.trans (congrArg some (by kernel_rfl))
  f337 := Tryz.func260.trans (congrArg some (by kernel_rfl))
  f338 := Tryz.func261.trans (congrArg some (by kernel_rfl))
  t0 := Tryz.underlying0
  a0 := Tryz.isAgg0
  z0 := Tryz.sizeOf0
  v0 := Tryz.zeroValue0
  t2 := Tryz.underlying2
  a2 := Tryz.isAgg2
  z2 := Tryz.sizeOf2
  v2 := Tryz.zeroValue2
  t3 := Tryz.underlying3
  a3 := Tryz.isAgg3
  z3 := Tryz.sizeOf3
  v3 := Tryz.zeroValue3
  t4 := Tryz.underlying4
  a4 := Tryz.isAgg4
  z4 := Tryz.sizeOf4
  v4 := Tryz.zeroValue4
  t5 := Tryz.underlying5
  a5 := Tryz.isAgg5
  z5 := Tryz.sizeOf5
  v5 := Tryz.zeroValue5
  t9 := Tryz.underlying9
  a9 := Tryz.isAgg9
  z9 := Tryz.sizeOf9
  v9 := Tryz.zeroValue9
  t20 := Tryz.underlying20
  a20 := Tryz.isAgg20
  z20 := Tryz.sizeOf20
  v20 := Tryz.zeroValue20
  t37 := Tryz.underlying79
  a37 := Tryz.isAgg79
  z37 := Tryz.sizeOf79
  v37 := Tryz.zeroValue79
  t46 := Tryz.underlying169
  a46 := Tryz.isAgg169
  z46 := Tryz.sizeOf169
  v46 := Tryz.zeroValue169
  t51 := Tryz.underlying123
  a51 := Tryz.isAgg123
  z51 := Tryz.sizeOf123
  v51 := Tryz.zeroValue123
  t53 := Tryz.underlying120
  a53 := Tryz.isAgg120
  z53 := Tryz.sizeOf120
  v53 := Tryz.zeroValue120
  t171 := Tryz.underlying317
  a171 := Tryz.isAgg317
  z171 := Tryz.sizeOf317
  v171 := Tryz.zeroValue317
  t173 := Tryz.underlying319
  a173 := Tryz.isAgg319
  z173 := Tryz.sizeOf319
  v173 := Tryz.zeroValue319
  t212 := Tryz.underlying340
  a212 := Tryz.isAgg340
  z212 := Tryz.sizeOf340
  v212 := Tryz.zeroValue340
  t213 := Tryz.underlying341
  a213 := Tryz.isAgg341
  z213 := Tryz.sizeOf341
  t232 := Tryz.underlying347
  a232 := Tryz.isAgg347
  z232 := Tryz.sizeOf347
  v232 := Tryz.zeroValue347
  t233 := Tryz.underlying348
  a233 := Tryz.isAgg348
  z233 := Tryz.sizeOf348
  v233 := Tryz.zeroValue348
  g17 := by kernel_rfl
  g18 := by kernel_rfl
  g19 := by kernel_rfl }
open Go.RowKit Go.Sort Go.Lib in
theorem Tryz.strconv_Itoa_small (i : Nat) (hi : i < 100) (w : World) :
    Calls Tryz.prog 140 #[.int .i64 i] w fun e w' => e = .returned (.string ⟨(Lib.decDigits i).toArray⟩) ∧ w' = w := Any.strconv_Itoa_small Tryz.lays171 i hi w
def Tryz.lays217_ren : Go.Shelf.Ren := ⟨fun | 217 => 258 | 266 => 263 | n => n, fun | 9 => 9 | 5 => 5 | 3 => 3 | n => n, fun | n => n⟩
theorem Tryz.lays217 : Go.Proofs.Lays.n217 Tryz.prog Tryz.lays217_ren := {
  mixed := by kernel_rfl
  f217 := Tryz.func258.trans (congrArg some (by kernel_rfl))
  f266 := Tryz.func263.trans (congrArg some (by kernel_rfl))
  t3 := Tryz.underlying3
  a3 := Tryz.isAgg3
  z3 := Tryz.sizeOf3
  v3 := Tryz.zeroValue3
  t5 := Tryz.underlying5
  a5 := Tryz.isAgg5
  z5 := Tryz.sizeOf5
  v5 := Tryz.zeroValue5
  t9 := Tryz.underlying9
  a9 := Tryz.isAgg9
  z9 := Tryz.sizeOf9
  v9 := Tryz.zeroValue9 }
open Go.RowKit Go.Lib in
theorem Tryz.stringslite_IndexByte (s : ByteArray) (c : Int) (w : World) :
    Calls Tryz.prog 258 #[.string s, .int .u8 c] w fun e w' => e = .returned (.int .i64 (Lib.indexByte s.data.toList c.toNat.toUInt8)) ∧ w' = w := Any.stringslite_IndexByte Tryz.lays217 s c w
def Tryz.lays224_ren : Go.Shelf.Ren := ⟨fun | 224 => 242 | n => n, fun | 3 => 3 | n => n, fun | n => n⟩
theorem Tryz.lays224 : Go.Proofs.Lays.n224 Tryz.prog Tryz.lays224_ren := {
  mixed := by kernel_rfl
  f224 := Tryz.func242.trans (congrArg some (by kernel_rfl))
  t3 := Tryz.underlying3
  a3 := Tryz.isAgg3
  z3 := Tryz.sizeOf3
  v3 := Tryz.zeroValue3 }
open Go.RowKit Go.Lib in
theorem Tryz.bytealg_Cutover (n : Int) (h0 : 0 ≤ n) (h1 : n < 4611686018427387904) (w : World) :
    Calls Tryz.prog 242 #[.int .i64 n] w fun e w' => e = .returned (.int .i64 ((n + 16) / 8)) ∧ w' = w := Any.bytealg_Cutover Tryz.lays224 n h0 h1 w
def Tryz.lays190_ren : Go.Shelf.Ren := ⟨fun | 190 => 186 | 125 => 208 | 258 => 207 | 128 => 225 | 129 => 226 | 302 => 216 | 303 => 217 | 304 => 218 | 305 => 219 | 306 => 220 | 307 => 221 | 308 => 222 | 309 => 223 | 310 => 224 | 333 => 244 | 329 => 245 | 330 => 246 | 334 => 247 | 335 => 248 | 336 => 249 | 344 => 259 | n => n, fun | 31 => 51 | 9 => 9 | 3 => 3 | 46 => 169 | 0 => 0 | 51 => 123 | 53 => 120 | 4 => 4 | 183 => 309 | 182 => 308 | 131 => 313 | 5 => 5 | 218 => 334 | 222 => 337 | 228 => 344 | 229 => 39 | n => n, fun | n => n⟩
theorem Tryz.lays190 : Go.Proofs.Lays.n190 Tryz.prog Tryz.lays190_ren := {
  mixed := by kernel_rfl
  f125 := Tryz.func208.trans (congrArg some (by kernel_rfl))
  f128 := Tryz.func225.trans (congrArg some (by kernel_rfl))
  f129 := Tryz.func226.trans (congrArg some (by kernel_rfl))
  f190 := Tryz.func186.trans (congrArg some (by kernel_rfl))
  f258 := Tryz.func207.trans (congrArg some (by kernel_rfl))
  f302 := Tryz.func216.trans (congrArg some (by kernel_rfl))
  f303 := Tryz.func217.trans (congrArg some (by kernel_rfl))
  f304 := Tryz.func218.trans (congrArg some (by kernel_rfl))
  f305 := Tryz.func219.trans (congrArg some (by kernel_rfl))
  f306 := Tryz.func220.trans (congrArg some (by kernel_rfl))
  f307 := Tryz.func221.trans (congrArg some (by kernel_rfl))
  f308 := Tryz.func222.trans (congrArg some (by kernel_rfl))
  f309 := Tryz.func223.trans (congrArg some (by kernel_rfl))
  f310 := Tryz.func224.trans (congrArg some (by kernel_rfl))
  f329 := Tryz.func245.trans (congrArg some (by kernel_rfl))
  f330 := Tryz.func246.trans (congrArg some (by kernel_rfl))
  f333 := Tryz.func244.trans (congrArg some (by kernel_rfl))
  f334 := Tryz.func247.trans (congrArg some (by kernel_rfl))
  f335 := Tryz.func248.trans (congrArg some (by kernel_rfl))
  f336 := Tryz.func249.trans (congrArg some (by kernel_rfl))
  f344 := Tryz.func259.trans (congrArg some (by kernel_rfl))
  t0 := Tryz.underlying0
  a0 := Tryz.isAgg0
  z0 := Tryz.sizeOf0
  v0 := Tryz.zeroValue0
  t3 := Tryz.underlying3
  a3 := Tryz.isAgg3
  z3 := Tryz.sizeOf3
  v3 := Tryz.zeroValue3
  t4 := Tryz.underlying4
  a4 := Tryz.isAgg4
  z4 := Tryz.sizeOf4
  v4 := Tryz.zeroValue4
  t5 := Tryz.underlying5
  a5 := Tryz.isAgg5
  z5 := Tryz.sizeOf5
  v5 := Tryz.zeroValue5
  t9 := Tryz.underlying9
  a9 := Tryz.isAgg9
  z9 := Tryz.sizeOf9
  v9 := Tryz.zeroValue9
  t31 := Tryz.underlying51
  a31 := Tryz.isAgg51
  z31 := Tryz.sizeOf51
  v31 := Tryz.zeroValue51
  t46 := Tryz.underlying169
  a46 := Tryz.isAgg169
  z46 := Tryz.sizeOf169
  v46 := Tryz.zeroValue169
  t51 := Tryz.underlying123
  a51 := Tryz.isAgg123
  z51 := Tryz.sizeOf123
  v51 := Tryz.zeroValue123
  t53 := Tryz.underlying120
  a53 := Tryz.isAgg120
  z53 := Tryz.sizeOf120
  v53 := Tryz.zeroValue120
  t131 := Tryz.underlying313
  a131 := Tryz.isAgg313
  z131 := Tryz.sizeOf313
  v131 := Tryz.zeroValue313
  t182 := Tryz.underlying308
  a182 := Tryz.isAgg308
  z182 := Tryz.sizeOf308
  v182 := Tryz.zeroValue308
  t183 := Tryz.underlying309
  a183 := Tryz.isAgg309
  z183 := Tryz.sizeOf309
  v183 := Tryz.zeroValue309
  t218 := Tryz.underlying334
  a218 := Tryz.isAgg334
  z218 := Tryz.sizeOf334
  v218 := Tryz.zeroValue334
  t222 := Tryz.underlying337
  a222 := Tryz.isAgg337
  z222 := Tryz.sizeOf337
  v222 := Tryz.zeroValue337
  t228 := Tryz.underlying344
  a228 := Tryz.isAgg344
  z228 := Tryz.sizeOf344
  v228 := Tryz.zeroValue344
  t229 := Tryz.underlying39
  a229 := Tryz.isAgg39
  z229 := Tryz.sizeOf39
  v229 := Tryz.zeroValue39 }
open Go.Sort Go.RowKit in
theorem Tryz.slices_Sort_string (blk off cap : Nat) (ss : List (List UInt8)) (w : World) (hH : Holds encStr w blk off ss.toArray) (hblk : blk < w.heap.size) (hsz : ss.length < 4611686018427387904) :
    Calls Tryz.prog 186 #[.slice (some ⟨blk, off, none⟩) ss.length cap] w fun e w' =>
      e = .returned (.tuple #[]) ∧ ∃ n os, w' = grow (putRow encStr (Sort.ahead w n) blk off (ss.mergeSort fun x y => decide (x ≤ y)).toArray) os := Any.slices_Sort_string Tryz.lays190 blk off cap ss w hH hblk hsz
def Tryz.lays206_ren : Go.Shelf.Ren := ⟨fun | 206 => 125 | n => n, fun | 9 => 9 | 4 => 4 | 3 => 3 | n => n, fun | n => n⟩
theorem Tryz.lays206 : Go.Proofs.Lays.n206 Tryz.prog Tryz.lays206_ren := {
  mixed := by kernel_rfl
  f206 := Tryz.func125.trans (congrArg some (by kernel_rfl))
  t3 := Tryz.underlying3
  a3 := Tryz.isAgg3
  z3 := Tryz.sizeOf3
  v3 := Tryz.zeroValue3
  t4 := Tryz.underlying4
  a4 := Tryz.isAgg4
  z4 := Tryz.sizeOf4
  v4 := Tryz.zeroValue4
  t9 := Tryz.underlying9
  a9 := Tryz.isAgg9
  z9 := Tryz.sizeOf9
  v9 := Tryz.zeroValue9 }
open Go.RowKit Go.Lib in
theorem Tryz.stringslite_HasPrefix (s p : ByteArray) (w : World) :
    Calls Tryz.prog 125 #[.string s, .string p] w fun e w' => e = .returned (.bool (Lib.hasPrefix s.data.toList p.data.toList)) ∧ w' = w := Any.stringslite_HasPrefix Tryz.lays206 s p w
def Tryz.lays99_ren : Go.Shelf.Ren := ⟨fun | 99 => 71 | 206 => 125 | n => n, fun | 9 => 9 | 4 => 4 | 3 => 3 | n => n, fun | n => n⟩
theorem Tryz.lays99 : Go.Proofs.Lays.n99 Tryz.prog Tryz.lays99_ren := {
  mixed := by kernel_rfl
  f99 := Tryz.func71.trans (congrArg some (by kernel_rfl))
  f206 := Tryz.func125.trans (congrArg some (by kernel_rfl))
  t3 := Tryz.underlying3
  a3 := Tryz.isAgg3
  z3 := Tryz.sizeOf3
  v3 := Tryz.zeroValue3
  t4 := Tryz.underlying4
  a4 := Tryz.isAgg4
  z4 := Tryz.sizeOf4
  v4 := Tryz.zeroValue4
  t9 := Tryz.underlying9
  a9 := Tryz.isAgg9
  z9 := Tryz.sizeOf9
  v9 := Tryz.zeroValue9 }
open Go.RowKit Go.Lib in
theorem Tryz.strings_HasPrefix (s p : ByteArray) (w : World) :
    Calls Tryz.prog 71 #[.string s, .string p] w fun e w' => e = .returned (.bool (Lib.hasPrefix s.data.toList p.data.toList)) ∧ w' = w := Any.strings_HasPrefix Tryz.lays99 s p w
def Tryz.lays152_ren : Go.Shelf.Ren := ⟨fun | 152 => 214 | 137 => 240 | 119 => 241 | 224 => 242 | 225 => 243 | 217 => 258 | 266 => 263 | n => n, fun | 9 => 9 | 21 => 21 | 3 => 3 | 4 => 4 | 5 => 5 | 0 => 0 | 46 => 169 | n => n, fun | n => n⟩
theorem Tryz.lays152 : Go.Proofs.Lays.n152 Tryz.prog Tryz.lays152_ren := {
  mixed := by kernel_rfl
  f119 := Tryz.func241.trans (congrArg some (by kernel_rfl))
  f137 := Tryz.func240.trans (congrArg some (by kernel_rfl))
  f152 := Tryz.func214.trans (congrArg some (by kernel_rfl))
  f217 := Tryz.func258.trans (congrArg some (by kernel_rfl))
  f224 := Tryz.func242.trans (congrArg some (by kernel_rfl))
  f225 := Tryz.func243.trans (congrArg some (by kernel_rfl))
  f266 := Tryz.func263.trans (congrArg some (by kernel_rfl))
  t0 := Tryz.underlying0
  a0 := Tryz.isAgg0
  z0 := Tryz.sizeOf0
  v0 := Tryz.zeroValue0
  t3 := Tryz.underlying3
  a3 := Tryz.isAgg3
  z3 := Tryz.sizeOf3
  v3 := Tryz.zeroValue3
  t4 := Tryz.underlying4
  a4 := Tryz.isAgg4
  z4 := Tryz.sizeOf4
  v4 := Tryz.zeroValue4
  t5 := Tryz.underlying5
  a5 := Tryz.isAgg5
  z5 := Tryz.sizeOf5
  v5 := Tryz.zeroValue5
  t9 := Tryz.underlying9
  a9 := Tryz.isAgg9
  z9 := Tryz.sizeOf9
  v9 := Tryz.zeroValue9
  t21 := Tryz.underlying21
  a21 := Tryz.isAgg21
  z21 := Tryz.sizeOf21
  v21 := Tryz.zeroValue21
  t46 := Tryz.underlying169
  a46 := Tryz.isAgg169
  z46 := Tryz.sizeOf169
  v46 := Tryz.zeroValue169 }
open Go.RowKit Go.Lib in
theorem Tryz.strings_IndexRune_ascii (s : ByteArray) (r : Int) (w : World) (h0 : 0 ≤ r) (h1 : r < 128) :
    Calls Tryz.prog 214 #[.string s, .int .i32 r] w fun e w' => e = .returned (.int .i64 (Lib.indexByte s.data.toList r.toNat.toUInt8)) ∧ w' = w := Any.strings_IndexRune_ascii Tryz.lays152 s r w h0 h1
def Tryz.lays151_ren : Go.Shelf.Ren := ⟨fun | 151 => 203 | 152 => 214 | 137 => 240 | 119 => 241 | 224 => 242 | 225 => 243 | 217 => 258 | 266 => 263 | n => n, fun | 9 => 9 | 21 => 21 | 4 => 4 | 3 => 3 | 5 => 5 | 0 => 0 | 46 => 169 | n => n, fun | n => n⟩
theorem Tryz.lays151 : Go.Proofs.Lays.n151 Tryz.prog Tryz.lays151_ren := {
  mixed := by kernel_rfl
  f119 := Tryz.func241.trans (congrArg some (by kernel_rfl))
  f137 := Tryz.func240.trans (congrArg some (by kernel_rfl))
  f151 := Tryz.func203.trans (congrArg some (by kernel_rfl))
  f152 := Tryz.func214.trans (congrArg some (by kernel_rfl))
  f217 := Tryz.func258.trans (congrArg some (by kernel_rfl))
  f224 := Tryz.func242.trans (congrArg some (by kernel_rfl))
  f225 := Tryz.func243.trans (congrArg some (by kernel_rfl))
  f266 := Tryz.func263.trans (congrArg some (by kernel_rfl))
  t0 := Tryz.underlying0
  a0 := Tryz.isAgg0
  z0 := Tryz.sizeOf0
  v0 := Tryz.zeroValue0
  t3 := Tryz.underlying3
  a3 := Tryz.isAgg3
  z3 := Tryz.sizeOf3
  v3 := Tryz.zeroValue3
  t4 := Tryz.underlying4
  a4 := Tryz.isAgg4
  z4 := Tryz.sizeOf4
  v4 := Tryz.zeroValue4
  t5 := Tryz.underlying5
  a5 := Tryz.isAgg5
  z5 := Tryz.sizeOf5
  v5 := Tryz.zeroValue5
  t9 := Tryz.underlying9
  a9 := Tryz.isAgg9
  z9 := Tryz.sizeOf9
  v9 := Tryz.zeroValue9
  t21 := Tryz.underlying21
  a21 := Tryz.isAgg21
  z21 := Tryz.sizeOf21
  v21 := Tryz.zeroValue21
  t46 := Tryz.underlying169
  a46 := Tryz.isAgg169
  z46 := Tryz.sizeOf169
  v46 := Tryz.zeroValue169 }
open Go.RowKit Go.Lib in
theorem Tryz.strings_ContainsRune_ascii (s : ByteArray) (r : Int) (w : World) (h0 : 0 ≤ r) (h1 : r < 128) :
    Calls Tryz.prog 203 #[.string s, .int .i32 r] w fun e w' => e = .returned (.bool (decide (0 ≤ Lib.indexByte s.data.toList r.toNat.toUInt8))) ∧ w' = w := Any.strings_ContainsRune_ascii Tryz.lays151 s r w h0 h1
def Tryz.lays227_ren : Go.Shelf.Ren := ⟨fun | 227 => 177 | n => n, fun | 9 => 9 | 116 => 281 | 4 => 4 | 0 => 0 | 3 => 3 | 5 => 5 | n => n, fun | n => n⟩
theorem Tryz.lays227 : Go.Proofs.Lays.n227 Tryz.prog Tryz.lays227_ren := {
  mixed := by kernel_rfl
  f227 := Tryz.func177.trans (congrArg some (by kernel_rfl))
  t0 := Tryz.underlying0
  a0 := Tryz.isAgg0
  z0 := Tryz.sizeOf0
  v0 := Tryz.zeroValue0
  t3 := Tryz.underlying3
  a3 := Tryz.isAgg3
  z3 := Tryz.sizeOf3
  v3 := Tryz.zeroValue3
  t4 := Tryz.underlying4
  a4 := Tryz.isAgg4
  z4 := Tryz.sizeOf4
  v4 := Tryz.zeroValue4
  t5 := Tryz.underlying5
  a5 := Tryz.isAgg5
  z5 := Tryz.sizeOf5
  v5 := Tryz.zeroValue5
  t9 := Tryz.underlying9
  a9 := Tryz.isAgg9
  z9 := Tryz.sizeOf9
  v9 := Tryz.zeroValue9
  t116 := Tryz.underlying281
  a116 := Tryz.isAgg281
  z116 := Tryz.sizeOf281 }
open Go.RowKit Go.Lib in
theorem Tryz.strings_makeASCIISet (hv116 : ∀ w, (zeroValue 281).run Tryz.prog w = .ok (.agg (Array.replicate 256 (.bool false))) w) (chars : ByteArray) (w : World) (hs : chars.size < 4294967281) (hascii : ∀ (j : Nat) b, chars.data.toList[j]? = some b → b.toNat < 128) :
    Calls Tryz.prog 177 #[.string chars] w fun e w' => e = .returned (.tuple #[.agg (Lib.setCells chars.data.toList), .bool true]) ∧ w' = w.alloc (.cells (Lib.setCells chars.data.toList) 281) := Any.strings_makeASCIISet Tryz.lays227 hv116 (by kernel_rfl) chars w hs hascii
def Tryz.lays228_ren : Go.Shelf.Ren := ⟨fun | 228 => 201 | n => n, fun | 124 => 285 | 5 => 5 | 4 => 4 | 0 => 0 | 116 => 281 | n => n, fun | n => n⟩
theorem Tryz.lays228 : Go.Proofs.Lays.n228 Tryz.prog Tryz.lays228_ren := {
  mixed := by kernel_rfl
  f228 := Tryz.func201.trans (congrArg some (by kernel_rfl))
  t0 := Tryz.underlying0
  a0 := Tryz.isAgg0
  z0 := Tryz.sizeOf0
  v0 := Tryz.zeroValue0
  t4 := Tryz.underlying4
  a4 := Tryz.isAgg4
  z4 := Tryz.sizeOf4
  v4 := Tryz.zeroValue4
  t5 := Tryz.underlying5
  a5 := Tryz.isAgg5
  z5 := Tryz.sizeOf5
  v5 := Tryz.zeroValue5
  t116 := Tryz.underlying281
  a116 := Tryz.isAgg281
  z116 := Tryz.sizeOf281
  t124 := Tryz.underlying285
  a124 := Tryz.isAgg285
  z124 := Tryz.sizeOf285
  v124 := Tryz.zeroValue285 }
open Go.RowKit Go.Lib in
theorem Tryz.asciiSet_contains (b : Nat) (x : UInt8) (v : Bool) (w : World) (hc : w.cell? ⟨b, x.toNat, none⟩ = some (.bool v)) :
    Calls Tryz.prog 201 #[.pointer (some ⟨b, 0, none⟩), .int .u8 x.toNat] w fun e w' => e = .returned (.bool v) ∧ w' = w := Any.asciiSet_contains Tryz.lays228 b x v w hc
def Tryz.lays260_ren : Go.Shelf.Ren := ⟨fun | 260 => 213 | n => n, fun | 9 => 9 | 21 => 21 | 3 => 3 | 4 => 4 | 5 => 5 | 119 => 327 | 0 => 0 | 46 => 169 | 139 => 330 | 138 => 329 | n => n, fun | 3 => 1 | 4 => 2 | n => n⟩
theorem Tryz.lays260 : Go.Proofs.Lays.n260 Tryz.prog Tryz.lays260_ren := {
  mixed := by kernel_rfl
  f260 := Tryz.func213.trans (congrArg some (by kernel_rfl))
  t0 := Tryz.underlying0
  a0 := Tryz.isAgg0
  z0 := Tryz.sizeOf0
  v0 := Tryz.zeroValue0
  t3 := Tryz.underlying3
  a3 := Tryz.isAgg3
  z3 := Tryz.sizeOf3
  v3 := Tryz.zeroValue3
  t4 := Tryz.underlying4
  a4 := Tryz.isAgg4
  z4 := Tryz.sizeOf4
  v4 := Tryz.zeroValue4
  t5 := Tryz.underlying5
  a5 := Tryz.isAgg5
  z5 := Tryz.sizeOf5
  v5 := Tryz.zeroValue5
  t9 := Tryz.underlying9
  a9 := Tryz.isAgg9
  z9 := Tryz.sizeOf9
  v9 := Tryz.zeroValue9
  t21 := Tryz.underlying21
  a21 := Tryz.isAgg21
  z21 := Tryz.sizeOf21
  v21 := Tryz.zeroValue21
  t46 := Tryz.underlying169
  a46 := Tryz.isAgg169
  z46 := Tryz.sizeOf169
  v46 := Tryz.zeroValue169
  t119 := Tryz.underlying327
  a119 := Tryz.isAgg327
  z119 := Tryz.sizeOf327
  t138 := Tryz.underlying329
  a138 := Tryz.isAgg329
  z138 := Tryz.sizeOf329
  v138 := Tryz.zeroValue329
  t139 := Tryz.underlying330
  a139 := Tryz.isAgg330
  z139 := Tryz.sizeOf330
  v139 := Tryz.zeroValue330
  g3 := by kernel_rfl
  g4 := by kernel_rfl }
open Go.RowKit Go.Lib in
theorem Tryz.utf8_decodeRuneInStringSlow (s : ByteArray) (w : World) (hT : Lib.Utf8Tabs 1 2 w) :
    Calls Tryz.prog 213 #[.string s] w fun e w' => e = .returned (.tuple #[.int .i32 (Lib.decodeGo s).1, .int .i64 (Lib.decodeGo s).2]) ∧ Below w.heap.size w w' := Any.utf8_decodeRuneInStringSlow Tryz.lays260 s w hT
def Tryz.lays197_ren : Go.Shelf.Ren := ⟨fun | 197 => 202 | 260 => 213 | n => n, fun | 9 => 9 | 21 => 21 | 3 => 3 | 4 => 4 | 5 => 5 | 105 => 295 | 119 => 327 | 0 => 0 | 46 => 169 | 139 => 330 | 138 => 329 | n => n, fun | 3 => 1 | 4 => 2 | n => n⟩
theorem Tryz.lays197 : Go.Proofs.Lays.n197 Tryz.prog Tryz.lays197_ren := {
  mixed := by kernel_rfl
  f197 := Tryz.func202.trans (congrArg some (by kernel_rfl))
  f260 := Tryz.func213.trans (congrArg some (by kernel_rfl))
  t0 := Tryz.underlying0
  a0 := Tryz.isAgg0
  z0 := Tryz.sizeOf0
  v0 := Tryz.zeroValue0
  t3 := Tryz.underlying3
  a3 := Tryz.isAgg3
  z3 := Tryz.sizeOf3
  v3 := Tryz.zeroValue3
  t4 := Tryz.underlying4
  a4 := Tryz.isAgg4
  z4 := Tryz.sizeOf4
  v4 := Tryz.zeroValue4
  t5 := Tryz.underlying5
  a5 := Tryz.isAgg5
  z5 := Tryz.sizeOf5
  v5 := Tryz.zeroValue5
  t9 := Tryz.underlying9
  a9 := Tryz.isAgg9
  z9 := Tryz.sizeOf9
  v9 := Tryz.zeroValue9
  t21 := Tryz.underlying21
  a21 := Tryz.isAgg21
  z21 := Tryz.sizeOf21
  v21 := Tryz.zeroValue21
  t46 := Tryz.underlying169
  a46 := Tryz.isAgg169
  z46 := Tryz.sizeOf169
  v46 := Tryz.zeroValue169
  t105 := Tryz.underlying295
  a105 := Tryz.isAgg295
  z105 := Tryz.sizeOf295
  v105 := Tryz.zeroValue295
  t119 := Tryz.underlying327
  a119 := Tryz.isAgg327
  z119 := Tryz.sizeOf327
  t138 := Tryz.underlying329
  a138 := Tryz.isAgg329
  z138 := Tryz.sizeOf329
  v138 := Tryz.zeroValue329
  t139 := Tryz.underlying330
  a139 := Tryz.isAgg330
  z139 := Tryz.sizeOf330
  v139 := Tryz.zeroValue330
  g3 := by kernel_rfl
  g4 := by kernel_rfl }
open Go.RowKit Go.Lib in
theorem Tryz.utf8_DecodeRuneInString (s : ByteArray) (w : World) (hT : Lib.Utf8Tabs 1 2 w) :
    Calls Tryz.prog 202 #[.string s] w fun e w' => e = .returned (.tuple #[.int .i32 (Lib.decodeGo s).1, .int .i64 (Lib.decodeGo s).2]) ∧ Below w.heap.size w w' := Any.utf8_DecodeRuneInString Tryz.lays197 s w hT
open Go.RowKit Go.Sort in
theorem Tryz.slices_Sort_string_none (p : Option Addr) (cap : Nat) (w : World) :
    Calls Tryz.prog 186 #[.slice p 0 cap] w fun e w' => e = .returned (.tuple #[]) ∧ w' = w := Any.slices_Sort_string_none Tryz.lays190 p cap w
end Go.Proofs

namespace Go.Proofs.YtpdbmpbmepkikaaGreatDoor

/-- A register. -/
structure Reg where
  name : ByteArray
  field : ByteArray
  c : Int
  r : Int
  value : ByteArray
  deriving DecidableEq

/-- The key, as the program puts it together. -/
def keyOf2 (n f : ByteArray) : ByteArray := n ++ ⟨#[46]⟩ ++ f ++ ⟨#[0]⟩
def Reg.key (x : Reg) : ByteArray := keyOf2 x.name x.field

/-- a > b, as texts. -/
def gtB (a b : ByteArray) : Bool := !(Op.bytesLess a.toList b.toList || a.toList == b.toList)
/-- Of two stamps: is the first one later? -/
def laterZ (c r c' r' : Int) : Bool := decide (c' < c) || (decide (c = c') && decide (r' < r))
/-- Does a win over b of its key? -/
def overR (a b : Reg) : Bool := if a.c = b.c ∧ a.r = b.r then gtB a.value b.value else laterZ a.c a.r b.c b.r

/-- A register taken in. -/
def takeL : List Reg → Reg → List Reg
  | [], x => [x]
  | y :: l, x => if y.key = x.key then (if overR x y then x :: l else y :: l) else y :: takeL l x

end Go.Proofs.YtpdbmpbmepkikaaGreatDoor

namespace Go.Proofs.YtpdbmpbmepkikaaGreatDoor
open Go.RowKit

def Reg.val (x : Reg) : Value := .agg #[.string x.name, .string x.field, .int .i64 x.c, .int .i64 x.r, .string x.value]
theorem ret_bool {a b : Bool} (h : a = b) : Ending.returned (.bool a) = Ending.returned (.bool b) := by rw [h]

/-- Names and fields are short. -/
structure Reg.Ok (x : Reg) : Prop where
  name : x.name.size ≤ 4096
  field : x.field.size ≤ 4096

theorem key_any (n f v : ByteArray) (c r : Int) (w : World) (hn : n.size ≤ 4096) (hf : f.size ≤ 4096) :
    Calls Tryz.prog 119 #[.agg #[.string n, .string f, .int .i64 c, .int .i64 r, .string v]] w fun e w' => e = .returned (.string (keyOf2 n f)) ∧ Below w.heap.size w w' := by
  go_enter Tryz.func119, Tryz.ntmps119
  go_wp2
  go_ret
  exact ⟨rfl, (Below.refl _ _).alloc (Nat.le_refl _) _⟩

def or2Z (x y : Int) : Int := if x = 0 then y else x
theorem or2_any (b : Nat) (x y : Int) (w : World) (h0 : w.cell? ⟨b, 0, none⟩ = some (.int .i64 x)) (h1 : w.cell? ⟨b, 1, none⟩ = some (.int .i64 y)) :
    Calls Tryz.prog 182 #[.slice (some ⟨b, 0, none⟩) 2 2] w fun e w' => e = .returned (.int .i64 (or2Z x y)) ∧ w' = w := by
  by_cases hx : x = 0
  · by_cases hy : y = 0
    · subst hx; subst hy
      go_enter Tryz.func182, Tryz.ntmps182
      go_wp2
      refine wp_loop_rounds 3 ?_
      iterate 3 (try (rw [rounds_succ]; go_wp2))
      go_ret
      exact ⟨rfl, rfl⟩
    · have hy2 : (y != 0) = true := by simp [hy]
      subst hx
      go_enter Tryz.func182, Tryz.ntmps182
      go_wp2
      refine wp_loop_rounds 3 ?_
      iterate 3 (try (rw [rounds_succ]; go_wp2))
      go_ret
      exact ⟨rfl, rfl⟩
  · have hx2 : (x != 0) = true := by simp [hx]
    go_enter Tryz.func182, Tryz.ntmps182
    go_wp2
    refine wp_loop_rounds 3 ?_
    iterate 3 (try (rw [rounds_succ]; go_wp2))
    go_ret
    exact ⟨by simp [or2Z, hx], rfl⟩

theorem laterZ_or (c r c' r' : Int) : decide (0 < or2Z (Lib.compareInt c c') (Lib.compareInt r r')) = laterZ c r c' r' := by
  unfold or2Z laterZ Lib.compareInt
  rw [Bool.eq_iff_iff]
  simp only [decide_eq_true_eq, Bool.or_eq_true, Bool.and_eq_true]
  split <;> split <;> (try split) <;> (try split) <;> (try split) <;> omega

theorem later_any (c r c' r' : Int) (w : World) :
    Calls Tryz.prog 121 #[.agg #[.int .i64 c, .int .i64 r], .agg #[.int .i64 c', .int .i64 r']] w fun e w' => e = .returned (.bool (laterZ c r c' r')) ∧ Below w.heap.size w w' := by
  go_enter Tryz.func121, Tryz.ntmps121
  go_wp2
  go_region_held3 (fun W => W.cell? ⟨w.heap.size, 0, none⟩ = some (.int .i64 c) ∧ W.cell? ⟨w.heap.size, 1, none⟩ = some (.int .i64 r) ∧ W.cell? ⟨w.heap.size + 1, 0, none⟩ = some (.int .i64 c') ∧ W.cell? ⟨w.heap.size + 1, 1, none⟩ = some (.int .i64 r'))
    (go_keep)
    ((first
      | (go_at_call 183; refine (Tryz.cmp_Compare_int _ _ _).mono ?_; rintro e w' ⟨rfl, rfl⟩)
      | (go_at_call 182; refine (or2_any _ (Lib.compareInt c c') (Lib.compareInt r r') _ ?h0 ?h1).mono ?_; (case h0 => go_simp); (case h1 => go_simp); rintro e w' ⟨rfl, rfl⟩)))
  go_wp2
  go_ret
  exact ⟨ret_bool (laterZ_or c r c' r'), ((((Below.refl _ _).alloc (Nat.le_refl _) _).alloc (by simp) _).alloc (by simp; omega) _).drew⟩

theorem over_any (x y : Reg) (w : World) :
    Calls Tryz.prog 157 #[x.val, y.val] w fun e w' => e = .returned (.bool (overR x y)) ∧ Below w.heap.size w w' := by
  obtain ⟨n, f, c, r, v⟩ := x
  obtain ⟨n', f', c', r', v'⟩ := y
  unfold Reg.val
  by_cases h : c = c' ∧ r = r'
  · obtain ⟨rfl, rfl⟩ := h
    go_enter Tryz.func157, Tryz.ntmps157
    go_wp2
    go_ret
    exact ⟨ret_bool (by simp [overR, gtB]), (((Below.refl _ _).alloc (Nat.le_refl _) _).alloc (by simp) _)⟩
  · have hv : overR ⟨n, f, c, r, v⟩ ⟨n', f', c', r', v'⟩ = laterZ c r c' r' := by simp [overR, h]
    have HV := Lib.hid hv
    clear hv
    by_cases hc : c = c'
    · have hr : ¬ r = r' := fun e => h ⟨hc, e⟩
      subst hc
      clear h
      go_enter Tryz.func157, Tryz.ntmps157
      go_wp2_with (go_at_call 121; refine (later_any _ _ _ _ _).mono ?_; rintro e w' ⟨rfl, hb⟩)
      go_ret
      exact ⟨ret_bool HV.out.symm, (((Below.refl _ _).alloc (Nat.le_refl _) _).alloc (by simp) _).trans (hb.mono (by simp; omega))⟩
    · clear h
      go_enter Tryz.func157, Tryz.ntmps157
      go_wp2_with (go_at_call 121; refine (later_any _ _ _ _ _).mono ?_; rintro e w' ⟨rfl, hb⟩)
      go_ret
      exact ⟨ret_bool HV.out.symm, (((Below.refl _ _).alloc (Nat.le_refl _) _).alloc (by simp) _).trans (hb.mono (by simp; omega))⟩

/-- A book's map. -/
def es (L : List Reg) : List (ByteArray × Value) := L.map fun x => (x.key, x.val)
def BookAt (w : World) (m : Nat) (L : List Reg) : Prop := MapAt keS w m (es L)
theorem BookAt.of_block {w w' : World} {m : Nat} {L : List Reg} (h : BookAt w m L) (hb : w'.heap[m]? = w.heap[m]?) : BookAt w' m L := MapAt.of_block h hb
theorem BookAt.alloc {w : World} {m : Nat} {L : List Reg} (h : BookAt w m L) (o : Obj) : BookAt (w.alloc o) m L := MapAt.alloc h o
theorem BookAt.below {w w' : World} {m : Nat} {L : List Reg} (h : BookAt w m L) (hb : Below w.heap.size w w') : BookAt w' m L := MapAt.below h hb
theorem BookAt.keep {w w' : World} {m : Nat} {L : List Reg} {F : Nat → Prop} (h : BookAt w m L) (hk : Keep F w w') (hF : ¬ F m) : BookAt w' m L := MapAt.keep h hk hF
theorem BookAt.lt {w : World} {m : Nat} {L : List Reg} (h : BookAt w m L) : m < w.heap.size := MapAt.lt h
theorem BookAt.nodup {w : World} {m : Nat} {L : List Reg} (h : BookAt w m L) : (L.map (·.key)).Nodup := by
  obtain ⟨en, clock, _, hr⟩ := h
  have := hr.nodup
  unfold es at this
  rw [List.map_map] at this
  exact this

def findK (L : List Reg) (k : ByteArray) : Option Reg := L.find? fun y => y.key = k
theorem look_es (L : List Reg) (k : ByteArray) : look (es L) k = (findK L k).map (·.val) := by
  unfold es findK
  induction L with
  | nil => rfl
  | cons y l ih =>
    simp only [List.map_cons, look, List.find?_cons]
    by_cases h : y.key = k
    · simp [h]
    · simp [h, ih]
theorem takeL_none {L : List Reg} {x : Reg} (h : findK L x.key = none) : takeL L x = L ++ [x] ∧ put (es L) x.key x.val = es (takeL L x) := by
  unfold findK at h
  induction L with
  | nil => exact ⟨rfl, rfl⟩
  | cons y l ih =>
    simp only [List.find?_cons] at h
    by_cases hk : y.key = x.key
    · simp [hk] at h
    · simp only [hk, decide_false] at h
      obtain ⟨i1, i2⟩ := ih h
      simp only [takeL, hk, if_false, i1, List.cons_append, true_and]
      show put ((y.key, y.val) :: es l) _ _ = (y.key, y.val) :: es (l ++ [x])
      rw [put, if_neg hk, i2, i1]
theorem takeL_some {L : List Reg} {x y : Reg} (h : findK L x.key = some y) : (overR x y = false → takeL L x = L) ∧ (overR x y = true → put (es L) x.key x.val = es (takeL L x)) := by
  unfold findK at h
  induction L with
  | nil => simp at h
  | cons z l ih =>
    simp only [List.find?_cons] at h
    by_cases hk : z.key = x.key
    · simp only [hk, decide_true, Option.some.injEq] at h
      subst h
      refine ⟨fun ho => by simp [takeL, hk, ho], fun ho => ?_⟩
      show put ((z.key, z.val) :: es l) _ _ = _
      rw [put, if_pos hk]
      simp [takeL, hk, ho, es]
    · simp only [hk, decide_false] at h
      obtain ⟨i1, i2⟩ := ih h
      refine ⟨fun ho => by simp [takeL, hk, i1 ho], fun ho => ?_⟩
      show put ((z.key, z.val) :: es l) _ _ = _
      rw [put, if_neg hk, i2 ho]
      simp [takeL, hk, es]

theorem zero46 (w : World) : (zeroValue 46).run Tryz.prog w = .ok (.agg #[.string ⟨#[]⟩, .string ⟨#[]⟩, .int .i64 0, .int .i64 0, .string ⟨#[]⟩]) w := by kernel_rfl

end Go.Proofs.YtpdbmpbmepkikaaGreatDoor

namespace Go.Proofs.YtpdbmpbmepkikaaGreatDoor
open Go.RowKit

theorem take_any (x : Reg) (hx : x.Ok) (m : Nat) (L : List Reg) (w : World) (hB : BookAt w m L) :
    Calls Tryz.prog 101 #[.map (some m), x.val] w fun e w' => e = .returned (.tuple #[]) ∧ BookAt w' m (takeL L x) ∧ Keep (fun b => b = m) w w' := by
  obtain ⟨n, f, c, r, v⟩ := x
  obtain ⟨hn, hf⟩ := hx
  simp only at hn hf
  have hmlt := hB.lt
  have HB := Lib.hid hB
  cases hfd : findK L (keyOf2 n f) with
  | none =>
    have H1 : Hid (look (es L) (keyOf2 n f) = none) := Lib.hid (by rw [look_es, hfd]; rfl)
    have H2 := Lib.hid (takeL_none (L := L) (x := ⟨n, f, c, r, v⟩) hfd)
    clear hB hfd
    unfold Reg.val
    go_enter Tryz.func101, Tryz.ntmps101
    go_wp2_with fail
    refine (key_any _ _ _ _ _ _ hn hf).mono ?_; rintro e w1 ⟨rfl, hb⟩
    have HM := Lib.hid (MapAt.below (MapAt.alloc HB.out _) hb)
    clear HB
    obtain ⟨hc1, hf1⟩ := bcell hb
    have hz : w.heap.size < w1.heap.size := by have := hb.size; simp at this; omega
    simp only [World.size_alloc] at hc1 hf1
    have HB := Lib.hid hb
    clear hb
    go_wp2_with (first
      | (at_lookup; refine wpList_lookOk _ keS rfl _ _ 107 rfl 9 46 Tryz.underlying107 Tryz.underlying9 _ (zero46 _) m (es L) (keyOf2 n f) rfl HM.out rfl ?_; rw [H1.out])
      | (at_mapUpdate; refine wpList_upd _ keS rfl _ _ _ 107 rfl 9 46 Tryz.underlying107 Tryz.underlying9 m (es L) (keyOf2 n f) (Reg.val ⟨n, f, c, r, v⟩) rfl (MapAt.alloc HM.out _) rfl rfl ?_; intro w2 hM2 hk2 hs2))
    go_end0
    refine ⟨rfl, ?_, ?_⟩
    · show MapAt keS w2 m (es _); rw [← H2.out.2]; exact hM2
    exact ((Keep.alloc _ _ _).trans' (Keep.of_below' (F := fun b => b = m) HB.out) (fun _ _ h => h) (fun _ _ h => h)).trans' ((Keep.alloc _ _ _).trans hk2) (fun _ _ h => h) (fun _ _ h => h)
  | some y =>
    obtain ⟨n', f', c', r', v'⟩ := y
    have H1 : Hid (look (es L) (keyOf2 n f) = some (Reg.val ⟨n', f', c', r', v'⟩)) := Lib.hid (by rw [look_es, hfd]; rfl)
    have H2 := Lib.hid (takeL_some (L := L) (x := ⟨n, f, c, r, v⟩) hfd)
    clear hB hfd
    cases ho : overR ⟨n, f, c, r, v⟩ ⟨n', f', c', r', v'⟩ with
    | true =>
      have HO := Lib.hid ho
      clear ho
      unfold Reg.val
      go_enter Tryz.func101, Tryz.ntmps101
      go_wp2_with fail
      refine (key_any _ _ _ _ _ _ hn hf).mono ?_; rintro e w1 ⟨rfl, hb⟩
      have HM := Lib.hid (MapAt.below (MapAt.alloc HB.out _) hb)
      clear HB
      obtain ⟨hc1, hf1⟩ := bcell hb
      have hz : w.heap.size < w1.heap.size := by have := hb.size; simp at this; omega
      simp only [World.size_alloc] at hc1 hf1
      have HB := Lib.hid hb
      clear hb
      go_wp2_with (first
        | (at_lookup; refine wpList_lookOk _ keS rfl _ _ 107 rfl 9 46 Tryz.underlying107 Tryz.underlying9 _ (zero46 _) m (es L) (keyOf2 n f) rfl HM.out rfl ?_; rw [H1.out]; simp only [Option.getD_some, Option.isSome_some, Reg.val])
        | (go_at_call 157; fail))
      refine (over_any ⟨n, f, c, r, v⟩ ⟨n', f', c', r', v'⟩ _).mono ?_; rintro e w2 ⟨rfl, hb2⟩
      rw [HO.out]
      have HM2 := Lib.hid (MapAt.below (MapAt.alloc HM.out _) hb2)
      clear HM
      obtain ⟨hc2, hf2⟩ := bcell hb2
      have hz2 : w1.heap.size < w2.heap.size := by have := hb2.size; simp at this; omega
      simp only [World.size_alloc] at hc2 hf2
      have HB2 := Lib.hid hb2
      clear hb2
      go_wp2_with (at_mapUpdate; refine wpList_upd _ keS rfl _ _ _ 107 rfl 9 46 Tryz.underlying107 Tryz.underlying9 m (es L) (keyOf2 n f) (Reg.val ⟨n, f, c, r, v⟩) rfl HM2.out rfl rfl ?_; intro w3 hM2 hk2 hs2)
      go_end0
      refine ⟨rfl, ?_, ?_⟩
      · show MapAt keS w3 m (es _); rw [← H2.out.2 HO.out]; exact hM2
      exact (((Keep.alloc _ _ _).trans (Keep.of_below' HB.out)).trans ((Keep.alloc _ _ _).trans (Keep.of_below' HB2.out))).trans hk2
    | false =>
      have HO := Lib.hid ho
      clear ho
      unfold Reg.val
      go_enter Tryz.func101, Tryz.ntmps101
      go_wp2_with fail
      refine (key_any _ _ _ _ _ _ hn hf).mono ?_; rintro e w1 ⟨rfl, hb⟩
      have HM := Lib.hid (MapAt.below (MapAt.alloc HB.out _) hb)
      clear HB
      obtain ⟨hc1, hf1⟩ := bcell hb
      have hz : w.heap.size < w1.heap.size := by have := hb.size; simp at this; omega
      simp only [World.size_alloc] at hc1 hf1
      have HB := Lib.hid hb
      clear hb
      go_wp2_with (first
        | (at_lookup; refine wpList_lookOk _ keS rfl _ _ 107 rfl 9 46 Tryz.underlying107 Tryz.underlying9 _ (zero46 _) m (es L) (keyOf2 n f) rfl HM.out rfl ?_; rw [H1.out]; simp only [Option.getD_some, Option.isSome_some, Reg.val])
        | (go_at_call 157; fail))
      refine (over_any ⟨n, f, c, r, v⟩ ⟨n', f', c', r', v'⟩ _).mono ?_; rintro e w2 ⟨rfl, hb2⟩
      rw [HO.out]
      have HM2 := Lib.hid (MapAt.below (MapAt.alloc HM.out _) hb2)
      have HB2 := Lib.hid hb2
      clear hb2
      go_wp2_with fail
      go_end0
      refine ⟨rfl, ?_, ?_⟩
      · show MapAt keS w2 m (es _); rw [H2.out.1 HO.out]; exact HM2.out
      exact (((Keep.alloc _ _ _).trans (Keep.of_below' HB.out)).trans ((Keep.alloc _ _ _).trans (Keep.of_below' HB2.out)))
end Go.Proofs.YtpdbmpbmepkikaaGreatDoor

namespace Go.Proofs.YtpdbmpbmepkikaaGreatDoor
open Go.RowKit
section
variable {κ : Type} [DecidableEq κ]

theorem KE.inj (K : KE κ) {a b : κ} (h : K.enc a = K.enc b) : a = b := by
  have h1 := K.same a a
  have h2 := K.same a b
  rw [← h] at h2
  rw [h1] at h2
  simp at h2
  exact h2

/-- A range over the map m is under way: its iterator lies at it; the keys of done have come. -/
def RangeAt (K : KE κ) (w : World) (m it : Nat) (es : List (κ × Value)) (done : List κ) : Prop :=
  ∃ (en : Array MapEntry) (clock : Nat) (seen : Array Nat), w.heap[m]? = some (.map en clock) ∧ Reads K en clock es ∧ w.heap[it]? = some (.mapIter (some m) clock seen clock) ∧
    seen.toList.map (fun b => (en.toList.find? (·.born == b)).map (·.key)) = done.map (fun k => some (K.enc k))

theorem RangeAt.map {K : KE κ} {w : World} {m it : Nat} {es : List (κ × Value)} {done : List κ} (h : RangeAt K w m it es done) : MapAt K w m es := by
  obtain ⟨en, clock, seen, h1, h2, _⟩ := h; exact ⟨en, clock, h1, h2⟩
theorem RangeAt.lt {K : KE κ} {w : World} {m it : Nat} {es : List (κ × Value)} {done : List κ} (h : RangeAt K w m it es done) : it < w.heap.size := by
  obtain ⟨en, clock, seen, h1, h2, h3, _⟩ := h; exact (Array.getElem?_eq_some_iff.1 h3).1
theorem RangeAt.of_blocks {K : KE κ} {w w' : World} {m it : Nat} {es : List (κ × Value)} {done : List κ} (h : RangeAt K w m it es done) (hm : w'.heap[m]? = w.heap[m]?) (hi : w'.heap[it]? = w.heap[it]?) : RangeAt K w' m it es done := by
  obtain ⟨en, clock, seen, h1, h2, h3, h4⟩ := h; exact ⟨en, clock, seen, hm.trans h1, h2, hi.trans h3, h4⟩

theorem run_range {P : Program} {w : World} {T kt et : TypeId} (K : KE κ) (hT : P.underlying T = some (.map kt et)) {m : Nat} {es : List (κ × Value)} (h : MapAt K w m es) :
    ∃ o, (Instr.range T (.map (some m))).run P w = .ok (.pointer (some ⟨w.heap.size, 0, none⟩)) (w.alloc o) ∧ RangeAt K (w.alloc o) m w.heap.size es [] := by
  obtain ⟨en, clock, hb, hr⟩ := h
  have hg : (getObj m).run P w = .ok (.map en clock) w := by simp [getObj, Sem.run, hb]
  refine ⟨.mapIter (some m) clock #[] clock, ?_, en, clock, #[], (Below.heap_alloc _ _ _ (Array.getElem?_eq_some_iff.1 hb).1).trans hb, hr, World.alloc_heap_new w _, by simp⟩
  simp only [Instr.range, Sem.run_bind, run_underlying hT, Result.andThen, hg, Sem.run_pure, run_newObj_alloc]

theorem rise_find {en : List MapEntry} (h : (en.map (·.born)).Pairwise (· < ·)) {e : MapEntry} (he : e ∈ en) : en.find? (·.born == e.born) = some e := by
  induction en with
  | nil => cases he
  | cons a l ih =>
    simp only [List.map_cons, List.pairwise_cons] at h
    rw [List.find?_cons]
    rcases List.mem_cons.1 he with rfl | he
    · simp
    · have : a.born < e.born := h.1 _ (List.mem_map_of_mem he)
      have hne : (a.born == e.born) = false := by rw [beq_eq_false_iff_ne]; omega
      rw [hne]
      exact ih h.2 he

theorem reads_mem {K : KE κ} {en : Array MapEntry} {clock : Nat} {es : List (κ × Value)} (h : Reads K en clock es) {e : MapEntry} (he : e ∈ en.toList) : ∃ k, (k, e.val) ∈ es ∧ e.key = K.enc k := by
  have : (e.key, e.val) ∈ en.toList.map (fun e => (e.key, e.val)) := List.mem_map_of_mem (f := fun e : MapEntry => (e.key, e.val)) he
  rw [h.read] at this
  obtain ⟨p, hp, heq⟩ := List.mem_map.1 this
  simp only [Prod.mk.injEq] at heq
  exact ⟨p.1, by rw [← heq.2]; exact hp, heq.1.symm⟩
theorem reads_entry {K : KE κ} {en : Array MapEntry} {clock : Nat} {es : List (κ × Value)} (h : Reads K en clock es) {p : κ × Value} (hp : p ∈ es) : ∃ e ∈ en.toList, e.key = K.enc p.1 ∧ e.val = p.2 := by
  have : (K.enc p.1, p.2) ∈ es.map (fun p => (K.enc p.1, p.2)) := List.mem_map_of_mem (f := fun p : κ × Value => (K.enc p.1, p.2)) hp
  rw [← h.read] at this
  obtain ⟨e, he, heq⟩ := List.mem_map.1 this
  simp only [Prod.mk.injEq] at heq
  exact ⟨e, he, heq.1, heq.2⟩
/-- Two entries of one key are one. -/
theorem reads_one {K : KE κ} {en : Array MapEntry} {clock : Nat} {es : List (κ × Value)} (h : Reads K en clock es) {e e' : MapEntry} (he : e ∈ en.toList) (he' : e' ∈ en.toList) (hk : e.key = e'.key) : e.born = e'.born := by
  have gen : ∀ (l : List MapEntry) (es : List (κ × Value)), l.map (fun e => (e.key, e.val)) = es.map (fun p => (K.enc p.1, p.2)) → (es.map (·.1)).Nodup → ∀ e ∈ l, ∀ e' ∈ l, e.key = e'.key → e.born = e'.born := by
    intro l
    induction l with
    | nil => intro _ _ _ e he; cases he
    | cons a l ih =>
      intro es hr hn
      cases es with
      | nil => simp at hr
      | cons p es =>
        simp only [List.map_cons, List.cons.injEq, Prod.mk.injEq, List.nodup_cons] at hr hn
        have other : ∀ e ∈ l, e.key ≠ a.key := fun e he hk => by
          have : (e.key, e.val) ∈ l.map (fun e => (e.key, e.val)) := List.mem_map_of_mem (f := fun e : MapEntry => (e.key, e.val)) he
          rw [hr.2] at this
          obtain ⟨q, hq, heq⟩ := List.mem_map.1 this
          simp only [Prod.mk.injEq] at heq
          have : q.1 = p.1 := K.inj (by rw [heq.1, hk, hr.1.1])
          exact hn.1 (this ▸ List.mem_map_of_mem hq)
        intro e he e' he' hk
        rcases List.mem_cons.1 he with h1 | h1 <;> rcases List.mem_cons.1 he' with h2 | h2
        · rw [h1, h2]
        · exact absurd (h1 ▸ hk.symm) (other e' h2)
        · exact absurd (h2 ▸ hk) (other e h1)
        · exact ih es hr.2 hn.2 e h1 e' h2 hk
  exact gen en.toList es h.read h.nodup e he e' he' hk

theorem seen_iff {K : KE κ} {en : Array MapEntry} {clock : Nat} {es : List (κ × Value)} (h : Reads K en clock es) {seen : List Nat} {done : List κ}
    (hs : seen.map (fun b => (en.toList.find? (·.born == b)).map (·.key)) = done.map (fun k => some (K.enc k))) {e : MapEntry} (he : e ∈ en.toList) {k : κ} (hk : e.key = K.enc k) : e.born ∈ seen ↔ k ∈ done := by
  constructor
  · intro hb
    have : (en.toList.find? (·.born == e.born)).map (·.key) ∈ seen.map (fun b => (en.toList.find? (·.born == b)).map (·.key)) := List.mem_map_of_mem (f := fun b => (en.toList.find? (·.born == b)).map (·.key)) hb
    rw [hs, rise_find h.rise he] at this
    obtain ⟨k', hk', heq⟩ := List.mem_map.1 this
    simp only [Option.map_some, Option.some.injEq] at heq
    exact K.inj (heq.trans hk) ▸ hk'
  · intro hd
    have : some (K.enc k) ∈ done.map (fun k => some (K.enc k)) := List.mem_map_of_mem (f := fun k => some (K.enc k)) hd
    rw [← hs] at this
    obtain ⟨b, hb, heq⟩ := List.mem_map.1 this
    cases hf : en.toList.find? (·.born == b) with
    | none => rw [hf] at heq; cases heq
    | some e' =>
      rw [hf] at heq
      simp only [Option.map_some, Option.some.injEq] at heq
      have hm := List.mem_of_find?_eq_some hf
      have hb' : e'.born = b := by have := List.find?_some hf; simpa using this
      have := reads_one h he hm (by rw [hk, heq])
      rw [this, hb']; exact hb

/-- One step of the range: it is over, all have come; or one more comes. -/
theorem run_next {P : Program} {w : World} (K : KE κ) {m it : Nat} {es : List (κ × Value)} {done : List κ} (h : RangeAt K w m it es done) (hne : m ≠ it) (T : TypeId) :
    ((∀ p ∈ es, p.1 ∈ done) ∧ (Instr.next (.pointer (some ⟨it, 0, none⟩)) false T).run P w = .ok (.tuple #[.bool false]) w) ∨
    (∃ k v w', (k, v) ∈ es ∧ k ∉ done ∧ (Instr.next (.pointer (some ⟨it, 0, none⟩)) false T).run P w = .ok (.tuple #[.bool true, K.enc k, v]) w' ∧ RangeAt K w' m it es (done ++ [k]) ∧ Keep (fun b => b = it) w w' ∧ w'.heap.size = w.heap.size) := by
  obtain ⟨en, clock, seen, hb, hr, hi, hs⟩ := h
  have hg : (getObj m).run P w = .ok (.map en clock) w := by simp [getObj, Sem.run, hb]
  have hgi : (getObj it).run P w = .ok (.mapIter (some m) clock seen clock) w := by simp [getObj, Sem.run, hi]
  have hlt := (Array.getElem?_eq_some_iff.1 hi).1
  -- no entry is new
  have hall : (!seen.isEmpty && !en.isEmpty && en.all (·.born ≥ clock)) = false := by
    rw [Bool.and_eq_false_iff]
    by_cases he : en.isEmpty
    · left; simp [he]
    · right
      cases hl : en.toList with
      | nil => simp at hl; simp [hl] at he
      | cons e l =>
        rw [← Array.all_toList, hl]
        have := hr.below e (by rw [hl]; simp)
        simp; omega
  obtain ⟨left, hleft⟩ : ∃ left, left = en.filter fun e => !seen.contains e.born := ⟨_, rfl⟩
  have hmem : ∀ e, e ∈ left.toList ↔ e ∈ en.toList ∧ e.born ∉ seen.toList := fun e => by
    rw [hleft]; simp
  have hold : left.filter (·.born < clock) = left := by
    rw [Array.filter_eq_self]
    intro e he
    have := hr.below e ((hmem e).1 (by simpa using he)).1
    simpa using this
  have hnew : left.filter (·.born ≥ clock) = #[] := by
    rw [Array.filter_eq_empty_iff]
    intro e he
    have := hr.below e ((hmem e).1 (by simpa using he)).1
    simp; omega
  have hnextrun : ∀ (r : Result Value), (Instr.next (.pointer (some ⟨it, 0, none⟩)) false T).run P w = r ↔
      ((do
        match ((if left.isEmpty then #[none] else #[]) ++ left.map some)[← choose (.mapNext ((if left.isEmpty then #[none] else #[]) ++ left.map some : Array (Option MapEntry)).size)]? with
        | some (some e) =>
          setObj it (.mapIter (some m) clock (seen.push e.born) clock)
          pure (.tuple #[.bool true, e.key, e.val])
        | some none => pure (.tuple #[.bool false])
        | none => stuck "Next: no such candidate" : Sem Value).run P w = r) := fun r => by
    unfold Instr.next
    simp only [Sem.run_bind, hgi, hg, Result.andThen, hall, Bool.false_eq_true, if_false]
    rw [← hleft, hold, hnew, Array.append_empty]
    exact Iff.rfl
  by_cases hempty : left.isEmpty
  · left
    refine ⟨fun p hp => ?_, (hnextrun _).2 ?_⟩
    · obtain ⟨e, he, hk, _⟩ := reads_entry hr hp
      refine (seen_iff hr hs he hk).1 (Classical.byContradiction fun hn => ?_)
      have := (hmem e).2 ⟨he, hn⟩
      have h0 : left.toList = [] := by simpa using hempty
      rw [h0] at this; cases this
    · have h0 : left = #[] := by simpa using hempty
      rw [h0]
      simp [Sem.run_bind, choose, Sem.run, Question.forced, Result.andThen]
  · right
    have hsz : 0 < left.size := by
      rcases Nat.eq_zero_or_pos left.size with h0 | h0
      · exact absurd (by simpa using h0) hempty
      · exact h0
    -- the draw
    have hd : ∃ (j : Nat) (w1 : World), j < left.size ∧ (choose (.mapNext ((if left.isEmpty then #[none] else #[]) ++ left.map some : Array (Option MapEntry)).size)).run P w = .ok j w1 ∧ w1.heap = w.heap ∧ w1.os = w.os ∧ w1.tape = w.tape ∧ w1.output = w.output := by
      have hsize : ((if left.isEmpty then #[none] else #[]) ++ left.map some : Array (Option MapEntry)).size = left.size := by simp [hempty]
      rw [hsize]
      by_cases h1 : left.size ≤ 1
      · exact ⟨0, w, hsz, by simp [choose, Sem.run, Question.forced, h1], rfl, rfl, rfl, rfl⟩
      · exact ⟨(w.tape w.drawn (.mapNext left.size)) % left.size, { w with drawn := w.drawn + 1 }, Nat.mod_lt _ hsz, by simp [choose, Sem.run, Question.forced, h1, Question.cut], rfl, rfl, rfl, rfl⟩
    obtain ⟨j, w1, hj, hch, hw1, ho1, ht1, hu1⟩ := hd
    have hel : left[j] ∈ left.toList := by simp
    obtain ⟨hen, hns⟩ := (hmem _).1 hel
    obtain ⟨k, hkm, hkk⟩ := reads_mem hr hen
    have hkd : k ∉ done := fun hkd => hns ((seen_iff hr hs hen hkk).2 hkd)
    have hset : (setObj it (.mapIter (some m) clock (seen.push left[j].born) clock)).run P w1 = .ok () (w1.putObj it (.mapIter (some m) clock (seen.push left[j].born) clock)) := by
      have : w1.heap[it]? = some (.mapIter (some m) clock seen clock) := by rw [hw1]; exact hi
      simp [setObj, Sem.run, this, World.putObj]
    refine ⟨k, left[j].val, w1.putObj it (.mapIter (some m) clock (seen.push left[j].born) clock), hkm, hkd, (hnextrun _).2 ?_, ?_, ?_, by simp [hw1]⟩
    · have hcand : ((if left.isEmpty then #[none] else #[]) ++ left.map some : Array (Option MapEntry))[j]? = some (some left[j]) := by
        simp [hempty, hj]
      simp only [Sem.run_bind, hch, Result.andThen, hcand, hset, Sem.run_pure, hkk]
    · refine ⟨en, clock, seen.push left[j].born, (World.putObj_heap_other hne).trans (by rw [hw1]; exact hb), hr, World.putObj_heap_same (by rw [hw1]; exact hlt), ?_⟩
      simp only [Array.toList_push, List.map_append, List.map_cons, List.map_nil, hs, rise_find hr.rise hen, Option.map_some, hkk]
    · refine ⟨ho1, ht1, hu1, by simp [hw1], fun b _ hn => (World.putObj_heap_other hn).trans (by rw [hw1])⟩

/-- The entry at which the range stands. -/
theorem run_entry {P : Program} {w : World} (K : KE κ) {m it : Nat} {es : List (κ × Value)} {done : List κ} {k : κ} (h : RangeAt K w m it es (done ++ [k])) :
    ∃ v, (k, v) ∈ es ∧ (Instr.entry (.pointer (some ⟨it, 0, none⟩))).run P w = .ok (.tuple #[K.enc k, v]) w := by
  obtain ⟨en, clock, seen, hb, hr, hi, hs⟩ := h
  have hg : (getObj m).run P w = .ok (.map en clock) w := by simp [getObj, Sem.run, hb]
  have hgi : (getObj it).run P w = .ok (.mapIter (some m) clock seen clock) w := by simp [getObj, Sem.run, hi]
  have hne : seen.toList ≠ [] := fun h0 => by rw [h0] at hs; simp at hs
  have hlast : (seen.toList.map (fun b => (en.toList.find? (·.born == b)).map (·.key))).getLast? = some (some (K.enc k)) := by rw [hs]; simp
  rw [List.getLast?_map] at hlast
  obtain ⟨b, hbk, hb2⟩ := Option.map_eq_some_iff.1 hlast
  cases hf : en.toList.find? (·.born == b) with
  | none => rw [hf] at hb2; cases hb2
  | some e =>
    rw [hf] at hb2
    simp only [Option.map_some, Option.some.injEq] at hb2
    have hm := List.mem_of_find?_eq_some hf
    obtain ⟨k', hk', hkk⟩ := reads_mem hr hm
    have : k' = k := K.inj (hkk.symm.trans hb2)
    subst this
    refine ⟨e.val, hk', ?_⟩
    have hback : seen.back? = some b := by rw [← Array.getLast?_toList]; exact hbk
    have hfa : en.find? (·.born == b) = some e := by rw [← Array.find?_toList]; exact hf
    unfold Instr.entry
    simp only [Sem.run_bind, hgi, hg, Result.andThen, hback, bne_self_eq_false, Bool.false_eq_true, if_false, hfa, hkk, Sem.run_pure]
end
end Go.Proofs.YtpdbmpbmepkikaaGreatDoor
