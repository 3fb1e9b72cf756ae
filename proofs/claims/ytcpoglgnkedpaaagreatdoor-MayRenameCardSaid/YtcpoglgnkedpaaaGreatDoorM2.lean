/-
  DERIVED: THE SHELF's CONTRACTS AT THIS DUMP, IN PLAIN WORDS (tools/lay-plain.mjs out of 'YtcpoglgnkedpaaaGreatDoorShelfA.lean', which tools/lay-shelf.mjs wrote): THE SAME DECLARATIONS UNDER THE SAME NAMES: 'import', 'namespace', 'open', 'def', 'theorem' AND NOTHING ELSE: no command of the shelf's: FOR A HAND-IN. Each laying: the table of numbers ('.._ren') and one theorem, a field a fact of the dump's own or the kernel's comparison; each contract: ONE APPLICATION.
-/
import Derived.Shelf.Strings.Builder1
import Derived.Shelf.Strings.Builder2
import Derived.Shelf.Strings.OnBuilder
import Derived.Shelf.Small.Bits
import Derived.Shelf.Small.Strs
import Derived.Shelf.Strconv.Itoa0
import Derived.Shelf.LaysM
import Derived.Shelf.Strconv.Clone
import Derived.Shelf.Strings.Search1
import Derived.Shelf.Strings.Search2
import Derived.Shelf.Strings.Search3
import Derived.Shelf.Strings.Count
import Derived.Shelf.Strings.Shaped
import Derived.Shelf.Strings.LastIndex
import Derived.Shelf.Strings.Prefix
import Derived.Shelf.Strings.Split
import Derived.Shelf.Unicode.DecodeSlow
import Derived.Ground.SlgmProg
import Derived.Shelf.SortM.Plain
import Derived.Shelf.SortM.SortNone
import Derived.Test.YtcpoglgnkedpaaaGreatDoorProg
import Derived.Test.YtcpoglgnkedpaaaGreatDoorVY
import Derived.Test.YtcpoglgnkedpaaaGreatDoorFX
import Derived.Test.YtcpoglgnkedpaaaGreatDoorFY
import Derived.Shelf.SlGeneric
import Derived.Shelf.SlIterI.Nil
import Derived.Test.YtcpoglgnkedpaaaGreatDoorM1
import Derived.Test.YtcpoglgnkedpaaaGreatDoorFZ
namespace Go.Proofs
open Go.Shelf
def Tryz.lays156_ren : Go.Shelf.Ren := ⟨fun | 156 => 216 | 165 => 239 | 166 => 240 | 169 => 241 | 240 => 254 | 241 => 255 | 276 => 262 | 277 => 263 | n => n, fun | 31 => 41 | 9 => 9 | 3 => 3 | 4 => 4 | 0 => 0 | 20 => 20 | 72 => 282 | 76 => 285 | 70 => 280 | 37 => 22 | 75 => 284 | 127 => 293 | 164 => 302 | 5 => 5 | 80 => 287 | n => n, fun | n => n⟩
theorem Tryz.lays156 : Go.Proofs.Lays.n156 Tryz.prog Tryz.lays156_ren := {
  mixed := by kernel_rfl
  f156 := Tryz.func216.trans (congrArg some (by kernel_rfl))
  f165 := Tryz.func239.trans (congrArg some (by kernel_rfl))
  f166 := Tryz.func240.trans (congrArg some (by kernel_rfl))
  f169 := Tryz.func241.trans (congrArg some (by kernel_rfl))
  f240 := Tryz.func254.trans (congrArg some (by kernel_rfl))
  f241 := Tryz.func255.trans (congrArg some (by kernel_rfl))
  f276 := Tryz.func262.trans (congrArg some (by kernel_rfl))
  f277 := Tryz.func263.trans (congrArg some (by kernel_rfl))
  t0 := Tryz.underlying0
  a0 := Tryz.isAgg0
  z0 := Tryz.sizeOf0
  v0 := Tryz.zeroValue0
  t3 := Tryz.underlying3
  a3 := Tryz.isAgg3
  z3 := Tryz.sizeOf3
  v3 := Tryz.zeroValue3
  t4 := Tryz.underlying4
  a4 := Tryz.isAgg4
  z4 := Tryz.sizeOf4
  v4 := Tryz.zeroValue4
  t9 := Tryz.underlying9
  a9 := Tryz.isAgg9
  z9 := Tryz.sizeOf9
  v9 := Tryz.zeroValue9
  t20 := Tryz.underlying20
  a20 := Tryz.isAgg20
  z20 := Tryz.sizeOf20
  v20 := Tryz.zeroValue20
  t31 := Tryz.underlying41
  a31 := Tryz.isAgg41
  z31 := Tryz.sizeOf41
  v31 := Tryz.zeroValue41
  t37 := Tryz.underlying22
  a37 := Tryz.isAgg22
  z37 := Tryz.sizeOf22
  v37 := Tryz.zeroValue22
  t70 := Tryz.underlying280
  a70 := Tryz.isAgg280
  z70 := Tryz.sizeOf280
  v70 := Tryz.zeroValue280
  t72 := Tryz.underlying282
  a72 := Tryz.isAgg282
  z72 := Tryz.sizeOf282
  v72 := Tryz.zeroValue282
  t75 := Tryz.underlying284
  a75 := Tryz.isAgg284
  z75 := Tryz.sizeOf284
  v75 := Tryz.zeroValue284
  t76 := Tryz.underlying285
  a76 := Tryz.isAgg285
  z76 := Tryz.sizeOf285
  v76 := Tryz.zeroValue285
  t127 := Tryz.underlying293
  a127 := Tryz.isAgg293
  z127 := Tryz.sizeOf293
  v127 := Tryz.zeroValue293
  t164 := Tryz.underlying302
  a164 := Tryz.isAgg302
  z164 := Tryz.sizeOf302
  v164 := Tryz.zeroValue302 }
theorem Tryz.Builder_Extra_156 : Builder.Extra Tryz.prog Tryz.lays156_ren := {
  sizeBuilder := by kernel_rfl
  liesBuilder := by kernel_rfl
  t5 := Tryz.underlying5
  a5 := Tryz.isAgg5
  z5 := Tryz.sizeOf5
  v5 := Tryz.zeroValue5
  infoByte := by kernel_rfl
  cellsByte := by kernel_rfl
  sizeByte := by kernel_rfl
  neB5 := by decide }
open Go.RowKit in
/-- No element: the empty string; the world is as it was. (Whatever the slice's address and capacity: a nil slice too.) (LAID: no walk: one application.) -/
theorem Tryz.strings_Join_none (a : Option Addr) (c : Nat) (sep : ByteArray) (w : World) :
    Calls Tryz.prog 216 #[.slice a 0 c, .string sep] w fun e w' => e = .returned (.string ⟨#[]⟩) ∧ w' = w := Any.strings_Join_none Tryz.lays156 Tryz.Builder_Extra_156 a c sep w
open Go.RowKit in
/-- strings.Join: "Join concatenates the elements of its first argument to create a single string. The separator string sep is placed between elements in the resulting string.": HOWEVER MANY ELEMENTS. Below the heap's end the world is as it was. (LAID: no walk: one application.) -/
theorem Tryz.strings_Join (bk o c : Nat) (xs : List ByteArray) (sep : ByteArray) (w : World) (hcells : ∀ (j : Nat) x, xs[j]? = some x → w.cell? ⟨bk, o + j, none⟩ = some (.string x)) (hbk : bk < w.heap.size) (hN : xs.length ≤ 140737488355328) (hcap : xs.length ≤ c) (hlen : (Lib.join (xs.map (·.data.toList)) sep.data.toList).length ≤ 140737488355328) :
    Calls Tryz.prog 216 #[.slice (some ⟨bk, o, none⟩) xs.length c, .string sep] w fun e w' => e = .returned (.string ⟨(Lib.join (xs.map (·.data.toList)) sep.data.toList).toArray⟩) ∧ Below w.heap.size w w' := Any.strings_Join Tryz.lays156 Tryz.Builder_Extra_156 bk o c xs sep w hcells hbk hN hcap hlen
def Tryz.lays125_ren : Go.Shelf.Ren := ⟨fun | 125 => 162 | 128 => 196 | 129 => 197 | n => n, fun | 46 => 122 | 3 => 3 | 51 => 248 | 53 => 250 | 4 => 4 | 5 => 5 | 9 => 9 | n => n, fun | n => n⟩
theorem Tryz.lays125 : Go.Proofs.Lays.n125 Tryz.prog Tryz.lays125_ren := {
  mixed := by kernel_rfl
  f125 := Tryz.func162.trans (congrArg some (by kernel_rfl))
  f128 := Tryz.func196.trans (congrArg some (by kernel_rfl))
  f129 := Tryz.func197.trans (congrArg some (by kernel_rfl))
  t3 := Tryz.underlying3
  a3 := Tryz.isAgg3
  z3 := Tryz.sizeOf3
  v3 := Tryz.zeroValue3
  t4 := Tryz.underlying4
  a4 := Tryz.isAgg4
  z4 := Tryz.sizeOf4
  v4 := Tryz.zeroValue4
  t5 := Tryz.underlying5
  a5 := Tryz.isAgg5
  z5 := Tryz.sizeOf5
  v5 := Tryz.zeroValue5
  t9 := Tryz.underlying9
  a9 := Tryz.isAgg9
  z9 := Tryz.sizeOf9
  v9 := Tryz.zeroValue9
  t46 := Tryz.underlying122
  a46 := Tryz.isAgg122
  z46 := Tryz.sizeOf122
  v46 := Tryz.zeroValue122
  t51 := Tryz.underlying248
  a51 := Tryz.isAgg248
  z51 := Tryz.sizeOf248
  v51 := Tryz.zeroValue248
  t53 := Tryz.underlying250
  a53 := Tryz.isAgg250
  z53 := Tryz.sizeOf250
  v53 := Tryz.zeroValue250 }
/-- bits.Len: "Len returns the minimum number of bits required to represent x; the result is 0 for x == 0.": IT RETURNS 'Lib.bitLen x'; the world is as it was. (A uint has 64 bits in the model.) ITS CALLEE bits.Len64 IS MET BY ITS OWN CONTRACT OFF THE SHELF (lay that first). (LAID: no walk: one application.) -/
theorem Tryz.bits_Len (x : Int) (w : World) (h0 : 0 ≤ x) (h1 : x ≤ 18446744073709551615) :
    Calls Tryz.prog 162 #[.int .u64 x] w fun e w' => e = .returned (.int .i64 (Lib.bitLen x.toNat)) ∧ w' = w := Any.bits_Len Tryz.lays125 x w h0 h1
def Tryz.lays106_ren : Go.Shelf.Ren := ⟨fun | 106 => 112 | 213 => 163 | 265 => 198 | n => n, fun | 9 => 9 | 3 => 3 | n => n, fun | n => n⟩
theorem Tryz.lays106 : Go.Proofs.Lays.n106 Tryz.prog Tryz.lays106_ren := {
  mixed := by kernel_rfl
  f106 := Tryz.func112.trans (congrArg some (by kernel_rfl))
  f213 := Tryz.func163.trans (congrArg some (by kernel_rfl))
  f265 := Tryz.func198.trans (congrArg some (by kernel_rfl))
  t3 := Tryz.underlying3
  a3 := Tryz.isAgg3
  z3 := Tryz.sizeOf3
  v3 := Tryz.zeroValue3
  t9 := Tryz.underlying9
  a9 := Tryz.isAgg9
  z9 := Tryz.sizeOf9
  v9 := Tryz.zeroValue9 }
open Go.RowKit in
/-- strings.Compare: "Compare returns an integer comparing two strings lexicographically. The result will be 0 if a == b, -1 if a < b, and +1 if a > b.": IT RETURNS 'Lib.compareBytes a b'; the world is as it was. (LAID: no walk: one application.) -/
theorem Tryz.strings_Compare (a b : ByteArray) (w : World) :
    Calls Tryz.prog 112 #[.string a, .string b] w fun e w' => e = .returned (.int .i64 (Lib.compareBytes a.data.toList b.data.toList)) ∧ w' = w := Any.strings_Compare Tryz.lays106 a b w
def Tryz.laysM316_ren : Go.Shelf.Ren := ⟨fun | 316 => 229 | n => n, fun | 9 => 9 | 3 => 3 | 4 => 4 | 37 => 22 | 0 => 0 | 127 => 293 | 5 => 5 | n => n, fun | n => n⟩
theorem Tryz.laysM316 : Go.Proofs.LaysM.n316 Tryz.prog Tryz.laysM316_ren := {
  mixed := by kernel_rfl
  f316 := Tryz.func229.trans (congrArg some (by kernel_rfl))
  t0 := Tryz.underlying0
  a0 := Tryz.isAgg0
  z0 := Tryz.sizeOf0
  v0 := Tryz.zeroValue0
  t3 := Tryz.underlying3
  a3 := Tryz.isAgg3
  z3 := Tryz.sizeOf3
  v3 := Tryz.zeroValue3
  t4 := Tryz.underlying4
  a4 := Tryz.isAgg4
  z4 := Tryz.sizeOf4
  v4 := Tryz.zeroValue4
  t9 := Tryz.underlying9
  a9 := Tryz.isAgg9
  z9 := Tryz.sizeOf9
  v9 := Tryz.zeroValue9
  t37 := Tryz.underlying22
  a37 := Tryz.isAgg22
  z37 := Tryz.sizeOf22
  v37 := Tryz.zeroValue22
  t127 := Tryz.underlying293
  a127 := Tryz.isAgg293
  z127 := Tryz.sizeOf293
  v127 := Tryz.zeroValue293
  t5 := Tryz.underlying5
  a5 := Tryz.isAgg5
  z5 := Tryz.sizeOf5
  v5 := Tryz.zeroValue5
  i0 := by kernel_rfl
  i3 := by kernel_rfl
  i4 := by kernel_rfl
  i5 := by kernel_rfl
  i9 := by kernel_rfl
  i37 := by kernel_rfl
  i127 := by kernel_rfl }
open Go.RowKit in
/-- internal/stringslite.Clone (what strings.Clone calls): "Clone returns a fresh copy of s.": THE SAME BYTES. Of what was there nothing has turned (a new row is laid, and frozen, where s is not empty). (LAID: no walk: one application.) -/
theorem Tryz.stringslite_Clone (s : ByteArray) (w : World) (hlim : s.size ≤ 281474976710656) :
    Calls Tryz.prog 229 #[.string s] w fun e w' => e = .returned (.string s) ∧ Below w.heap.size w w' := Any.stringslite_Clone Tryz.laysM316 s w hlim
def Tryz.lays143_ren : Go.Shelf.Ren := ⟨fun | 143 => 210 | 219 => 227 | 217 => 244 | 225 => 245 | 224 => 246 | 267 => 247 | 266 => 256 | 314 => 257 | n => n, fun | 9 => 9 | 3 => 3 | 4 => 4 | 5 => 5 | 46 => 122 | 146 => 296 | 51 => 248 | n => n, fun | 1 => 0 | n => n⟩
theorem Tryz.lays143 : Go.Proofs.Lays.n143 Tryz.prog Tryz.lays143_ren := {
  mixed := by kernel_rfl
  f143 := Tryz.func210.trans (congrArg some (by kernel_rfl))
  f217 := Tryz.func244.trans (congrArg some (by kernel_rfl))
  f219 := Tryz.func227.trans (congrArg some (by kernel_rfl))
  f224 := Tryz.func246.trans (congrArg some (by kernel_rfl))
  f225 := Tryz.func245.trans (congrArg some (by kernel_rfl))
  f266 := Tryz.func256.trans (congrArg some (by kernel_rfl))
  f267 := Tryz.func247.trans (congrArg some (by kernel_rfl))
  f314 := Tryz.func257.trans (congrArg some (by kernel_rfl))
  t3 := Tryz.underlying3
  a3 := Tryz.isAgg3
  z3 := Tryz.sizeOf3
  v3 := Tryz.zeroValue3
  t4 := Tryz.underlying4
  a4 := Tryz.isAgg4
  z4 := Tryz.sizeOf4
  v4 := Tryz.zeroValue4
  t5 := Tryz.underlying5
  a5 := Tryz.isAgg5
  z5 := Tryz.sizeOf5
  v5 := Tryz.zeroValue5
  t9 := Tryz.underlying9
  a9 := Tryz.isAgg9
  z9 := Tryz.sizeOf9
  v9 := Tryz.zeroValue9
  t46 := Tryz.underlying122
  a46 := Tryz.isAgg122
  z46 := Tryz.sizeOf122
  v46 := Tryz.zeroValue122
  t51 := Tryz.underlying248
  a51 := Tryz.isAgg248
  z51 := Tryz.sizeOf248
  v51 := Tryz.zeroValue248
  t146 := Tryz.underlying296
  a146 := Tryz.isAgg296
  z146 := Tryz.sizeOf296
  v146 := Tryz.zeroValue296
  g1 := by kernel_rfl }
open Go.RowKit Go.Lib in
/-- strings.Index: "Index returns the index of the first instance of substr in s, or -1 if substr is not present in s.": AT A substr OF ONE BYTE c: IT RETURNS 'Lib.indexByte s c'; the world is as it was. (LAID: no walk: one application.) -/
theorem Tryz.strings_Index_one (s : ByteArray) (c : UInt8) (w : World) :
    Calls Tryz.prog 210 #[.string s, .string ⟨#[c]⟩] w fun e w' => e = .returned (.int .i64 (Lib.indexByte s.data.toList c)) ∧ w' = w := Any.strings_Index_one Tryz.lays143 s c w
def Tryz.lays144_ren : Go.Shelf.Ren := ⟨fun | 144 => 175 | 143 => 210 | 219 => 227 | 217 => 244 | 225 => 245 | 224 => 246 | 267 => 247 | 266 => 256 | 314 => 257 | n => n, fun | 9 => 9 | 4 => 4 | 3 => 3 | 5 => 5 | 46 => 122 | 146 => 296 | 51 => 248 | n => n, fun | 1 => 0 | n => n⟩
theorem Tryz.lays144 : Go.Proofs.Lays.n144 Tryz.prog Tryz.lays144_ren := {
  mixed := by kernel_rfl
  f143 := Tryz.func210.trans (congrArg some (by kernel_rfl))
  f144 := Tryz.func175.trans (congrArg some (by kernel_rfl))
  f217 := Tryz.func244.trans (congrArg some (by kernel_rfl))
  f219 := Tryz.func227.trans (congrArg some (by kernel_rfl))
  f224 := Tryz.func246.trans (congrArg some (by kernel_rfl))
  f225 := Tryz.func245.trans (congrArg some (by kernel_rfl))
  f266 := Tryz.func256.trans (congrArg some (by kernel_rfl))
  f267 := Tryz.func247.trans (congrArg some (by kernel_rfl))
  f314 := Tryz.func257.trans (congrArg some (by kernel_rfl))
  t3 := Tryz.underlying3
  a3 := Tryz.isAgg3
  z3 := Tryz.sizeOf3
  v3 := Tryz.zeroValue3
  t4 := Tryz.underlying4
  a4 := Tryz.isAgg4
  z4 := Tryz.sizeOf4
  v4 := Tryz.zeroValue4
  t5 := Tryz.underlying5
  a5 := Tryz.isAgg5
  z5 := Tryz.sizeOf5
  v5 := Tryz.zeroValue5
  t9 := Tryz.underlying9
  a9 := Tryz.isAgg9
  z9 := Tryz.sizeOf9
  v9 := Tryz.zeroValue9
  t46 := Tryz.underlying122
  a46 := Tryz.isAgg122
  z46 := Tryz.sizeOf122
  v46 := Tryz.zeroValue122
  t51 := Tryz.underlying248
  a51 := Tryz.isAgg248
  z51 := Tryz.sizeOf248
  v51 := Tryz.zeroValue248
  t146 := Tryz.underlying296
  a146 := Tryz.isAgg296
  z146 := Tryz.sizeOf296
  v146 := Tryz.zeroValue296
  g1 := by kernel_rfl }
open Go.RowKit Go.Lib in
/-- strings.Contains: "Contains reports whether substr is within s.": AT A substr OF ONE BYTE c: IT RETURNS 'decide (0 ≤ Lib.indexByte s c)'; the world is as it was. (LAID: no walk: one application.) -/
theorem Tryz.strings_Contains_one (s : ByteArray) (c : UInt8) (w : World) :
    Calls Tryz.prog 175 #[.string s, .string ⟨#[c]⟩] w fun e w' => e = .returned (.bool (decide (0 ≤ Lib.indexByte s.data.toList c))) ∧ w' = w := Any.strings_Contains_one Tryz.lays144 s c w
def Tryz.lays138_ren : Go.Shelf.Ren := ⟨fun | 138 => 249 | 195 => 258 | 218 => 260 | 143 => 210 | 219 => 227 | 217 => 244 | 225 => 245 | 224 => 246 | 267 => 247 | 266 => 256 | 314 => 257 | n => n, fun | 9 => 9 | 3 => 3 | 4 => 4 | 5 => 5 | 0 => 0 | 46 => 122 | 146 => 296 | 51 => 248 | n => n, fun | 1 => 0 | n => n⟩
theorem Tryz.lays138 : Go.Proofs.Lays.n138 Tryz.prog Tryz.lays138_ren := {
  mixed := by kernel_rfl
  f138 := Tryz.func249.trans (congrArg some (by kernel_rfl))
  f143 := Tryz.func210.trans (congrArg some (by kernel_rfl))
  f195 := Tryz.func258.trans (congrArg some (by kernel_rfl))
  f217 := Tryz.func244.trans (congrArg some (by kernel_rfl))
  f218 := Tryz.func260.trans (congrArg some (by kernel_rfl))
  f219 := Tryz.func227.trans (congrArg some (by kernel_rfl))
  f224 := Tryz.func246.trans (congrArg some (by kernel_rfl))
  f225 := Tryz.func245.trans (congrArg some (by kernel_rfl))
  f266 := Tryz.func256.trans (congrArg some (by kernel_rfl))
  f267 := Tryz.func247.trans (congrArg some (by kernel_rfl))
  f314 := Tryz.func257.trans (congrArg some (by kernel_rfl))
  t0 := Tryz.underlying0
  a0 := Tryz.isAgg0
  z0 := Tryz.sizeOf0
  v0 := Tryz.zeroValue0
  t3 := Tryz.underlying3
  a3 := Tryz.isAgg3
  z3 := Tryz.sizeOf3
  v3 := Tryz.zeroValue3
  t4 := Tryz.underlying4
  a4 := Tryz.isAgg4
  z4 := Tryz.sizeOf4
  v4 := Tryz.zeroValue4
  t5 := Tryz.underlying5
  a5 := Tryz.isAgg5
  z5 := Tryz.sizeOf5
  v5 := Tryz.zeroValue5
  t9 := Tryz.underlying9
  a9 := Tryz.isAgg9
  z9 := Tryz.sizeOf9
  v9 := Tryz.zeroValue9
  t46 := Tryz.underlying122
  a46 := Tryz.isAgg122
  z46 := Tryz.sizeOf122
  v46 := Tryz.zeroValue122
  t51 := Tryz.underlying248
  a51 := Tryz.isAgg248
  z51 := Tryz.sizeOf248
  v51 := Tryz.zeroValue248
  t146 := Tryz.underlying296
  a146 := Tryz.isAgg296
  z146 := Tryz.sizeOf296
  v146 := Tryz.zeroValue296
  g1 := by kernel_rfl }
open Go.RowKit Go.Lib in
/-- strings.Count AT A substr OF ONE BYTE ('hp'): "Count counts the number of non-overlapping instances of substr in s.": IT RETURNS 'Lib.countByte s (that byte)'; the world is as it was. ✋ NO CONTRACT HERE YET at an empty substr (utf8.RuneCountInString) or at a longer one (a loop over strings.Index). (LAID: no walk: one application.) -/
theorem Tryz.strings_Count_one (s : ByteArray) (c : UInt8) (w : World) :
    Calls Tryz.prog 249 #[.string s, .string ⟨#[c]⟩] w fun e w' => e = .returned (.int .i64 (Lib.countByte s.data.toList c)) ∧ w' = w := Any.strings_Count_one Tryz.lays138 s c w
def Tryz.lays149_ren : Go.Shelf.Ren := ⟨fun | 149 => 113 | 222 => 164 | n => n, fun | 9 => 9 | 5 => 5 | 3 => 3 | 4 => 4 | n => n, fun | n => n⟩
theorem Tryz.lays149 : Go.Proofs.Lays.n149 Tryz.prog Tryz.lays149_ren := {
  mixed := by kernel_rfl
  f149 := Tryz.func113.trans (congrArg some (by kernel_rfl))
  f222 := Tryz.func164.trans (congrArg some (by kernel_rfl))
  t3 := Tryz.underlying3
  a3 := Tryz.isAgg3
  z3 := Tryz.sizeOf3
  v3 := Tryz.zeroValue3
  t4 := Tryz.underlying4
  a4 := Tryz.isAgg4
  z4 := Tryz.sizeOf4
  v4 := Tryz.zeroValue4
  t5 := Tryz.underlying5
  a5 := Tryz.isAgg5
  z5 := Tryz.sizeOf5
  v5 := Tryz.zeroValue5
  t9 := Tryz.underlying9
  a9 := Tryz.isAgg9
  z9 := Tryz.sizeOf9
  v9 := Tryz.zeroValue9 }
open Go.RowKit Go.Lib in
/-- strings.LastIndexByte: "LastIndexByte returns the index of the last instance of c in s, or -1 if c is not present in s." (LAID: no walk: one application.) -/
theorem Tryz.strings_LastIndexByte (s : ByteArray) (c : Int) (hs : s.size < 4611686018427387904) (w : World) :
    Calls Tryz.prog 113 #[.string s, .int .u8 c] w fun e w' => e = .returned (.int .i64 (Lib.lastIndexByte s c)) ∧ w' = w := Any.strings_LastIndexByte Tryz.lays149 s c hs w
def Tryz.lays99_ren : Go.Shelf.Ren := ⟨fun | 99 => 177 | 206 => 213 | n => n, fun | 9 => 9 | 4 => 4 | 3 => 3 | n => n, fun | n => n⟩
theorem Tryz.lays99 : Go.Proofs.Lays.n99 Tryz.prog Tryz.lays99_ren := {
  mixed := by kernel_rfl
  f99 := Tryz.func177.trans (congrArg some (by kernel_rfl))
  f206 := Tryz.func213.trans (congrArg some (by kernel_rfl))
  t3 := Tryz.underlying3
  a3 := Tryz.isAgg3
  z3 := Tryz.sizeOf3
  v3 := Tryz.zeroValue3
  t4 := Tryz.underlying4
  a4 := Tryz.isAgg4
  z4 := Tryz.sizeOf4
  v4 := Tryz.zeroValue4
  t9 := Tryz.underlying9
  a9 := Tryz.isAgg9
  z9 := Tryz.sizeOf9
  v9 := Tryz.zeroValue9 }
open Go.RowKit Go.Lib in
/-- strings.HasPrefix: "HasPrefix reports whether the string s begins with prefix.": IT RETURNS 'Lib.hasPrefix s prefix'; the world is as it was. (LAID: no walk: one application.) -/
theorem Tryz.strings_HasPrefix (s p : ByteArray) (w : World) :
    Calls Tryz.prog 177 #[.string s, .string p] w fun e w' => e = .returned (.bool (Lib.hasPrefix s.data.toList p.data.toList)) ∧ w' = w := Any.strings_HasPrefix Tryz.lays99 s p w
def Tryz.lays102_ren : Go.Shelf.Ren := ⟨fun | 102 => 30 | 209 => 66 | 207 => 127 | n => n, fun | 9 => 9 | 4 => 4 | 3 => 3 | n => n, fun | n => n⟩
theorem Tryz.lays102 : Go.Proofs.Lays.n102 Tryz.prog Tryz.lays102_ren := {
  mixed := by kernel_rfl
  f102 := Tryz.func30.trans (congrArg some (by kernel_rfl))
  f207 := Tryz.func127.trans (congrArg some (by kernel_rfl))
  f209 := Tryz.func66.trans (congrArg some (by kernel_rfl))
  t3 := Tryz.underlying3
  a3 := Tryz.isAgg3
  z3 := Tryz.sizeOf3
  v3 := Tryz.zeroValue3
  t4 := Tryz.underlying4
  a4 := Tryz.isAgg4
  z4 := Tryz.sizeOf4
  v4 := Tryz.zeroValue4
  t9 := Tryz.underlying9
  a9 := Tryz.isAgg9
  z9 := Tryz.sizeOf9
  v9 := Tryz.zeroValue9 }
open Go.RowKit Go.Lib in
/-- strings.TrimSuffix: "TrimSuffix returns s without the provided trailing suffix string. If s doesn't end with suffix, s is returned unchanged.": IT RETURNS 'Lib.trimSuffix s suffix'; the world is as it was. (LAID: no walk: one application.) -/
theorem Tryz.strings_TrimSuffix (s p : ByteArray) (w : World) (hs : s.size ≤ 9223372036854775807) :
    Calls Tryz.prog 30 #[.string s, .string p] w fun e w' => e = .returned (.string ⟨(Lib.trimSuffix s.data.toList p.data.toList).toArray⟩) ∧ w' = w := Any.strings_TrimSuffix Tryz.lays102 s p w hs
end Go.Proofs

/-
  Strings: the library's calls; strings.Split at one byte.
-/
namespace Go.Proofs.YtcpoglgnkedpaaaGreatDoor
open Go Go.Vc Go.Proofs

/-- A call by a contract. -/
theorem callP.of {P : Program} {f : FuncId} {fn : Func} {args : Array Value} {ts : List Ty} {w : World} {K : Tup ts → World → Prop} {Q : Ending → World → Prop} (hf : P.funcs[f]? = some fn) (h1 : (fn.name == "runtime.NumGoroutine") = false) (h2 : fn.body.isNone = false)
    (hc : Calls P f args w Q) (hk : ∀ e w', Q e w' → ∃ c, e = .returned (Tup.res ts c) ∧ K c w') : callP P f args ts w K :=
  .inl ⟨⟨fn, hf, h1, h2⟩, hc.mono hk⟩

theorem Eff.of_below {w w' : World} (h : Go.RowKit.Below w.heap.size w w') : Eff No w w' := ⟨h.os, h.tape, h.output, h.size, fun b hb _ => h.block b hb⟩

section
variable {w : World}

theorem HasPrefix_spec {s p : ByteArray} {K : Bool → World → Prop} (k : K (Lib.hasPrefix s.data.toList p.data.toList) w) : strings_HasPrefix_177 s p w K :=
  callP.of Tryz.func177 (by kernel_rfl) (by kernel_rfl) (Tryz.strings_HasPrefix s p w) fun e w' he => ⟨_, he.1, by rw [he.2]; exact k⟩

theorem Contains_spec {s : ByteArray} {c : UInt8} {K : Bool → World → Prop} (k : K (decide (0 ≤ Lib.indexByte s.data.toList c)) w) : strings_Contains_175 s ⟨#[c]⟩ w K :=
  callP.of Tryz.func175 (by kernel_rfl) (by kernel_rfl) (Tryz.strings_Contains_one s c w) fun e w' he => ⟨_, he.1, by rw [he.2]; exact k⟩

theorem Index_spec {s : ByteArray} {c : UInt8} {K : Int → World → Prop} (k : K (Lib.indexByte s.data.toList c) w) : strings_Index_210 s ⟨#[c]⟩ w K :=
  callP.of Tryz.func210 (by kernel_rfl) (by kernel_rfl) (Tryz.strings_Index_one s c w) fun e w' he => ⟨_, he.1, by rw [he.2]; exact k⟩

theorem Count_spec {s : ByteArray} {c : UInt8} {K : Int → World → Prop} (k : K (Lib.countByte s.data.toList c : Nat) w) : strings_Count_249 s ⟨#[c]⟩ w K :=
  callP.of Tryz.func249 (by kernel_rfl) (by kernel_rfl) (Tryz.strings_Count_one s c w) fun e w' he => ⟨_, he.1, by rw [he.2]; exact k⟩

theorem LastIndexByte_spec {s : ByteArray} {c : Int} {K : Int → World → Prop} (hs : s.size < 4611686018427387904) (k : K (Lib.lastIndexByte s c) w) : strings_LastIndexByte_113 s c w K :=
  callP.of Tryz.func113 (by kernel_rfl) (by kernel_rfl) (Tryz.strings_LastIndexByte s c hs w) fun e w' he => ⟨_, he.1, by rw [he.2]; exact k⟩

theorem TrimSuffix_spec {s p : ByteArray} {K : ByteArray → World → Prop} (hs : s.size ≤ 9223372036854775807) (k : K ⟨(Lib.trimSuffix s.data.toList p.data.toList).toArray⟩ w) : strings_TrimSuffix_30 s p w K :=
  callP.of Tryz.func30 (by kernel_rfl) (by kernel_rfl) (Tryz.strings_TrimSuffix s p w hs) fun e w' he => ⟨_, he.1, by rw [he.2]; exact k⟩

/-- The elements, slashes between them. -/
def joinS (ps : List ByteArray) (sep : ByteArray) : ByteArray := ⟨(Lib.join (ps.map (·.data.toList)) sep.data.toList).toArray⟩

theorem Join_spec {s : Sl} {ps : List ByteArray} {sep : ByteArray} {K : ByteArray → World → Prop} (h : RowAt w 9 1 s (ps.map kStr)) (hN : ps.length ≤ 1000000) (hl : (joinS ps sep).size ≤ 1000000) (k : ∀ w', Eff No w w' → K (joinS ps sep) w') : strings_Join_216 s sep w K := by
  have hlen : s.len = ps.length := by simpa using h.len1
  have hl' : (Lib.join (ps.map (·.data.toList)) sep.data.toList).length ≤ 140737488355328 := by
    have : (joinS ps sep).size = (Lib.join (ps.map (·.data.toList)) sep.data.toList).length := by
      show ((Lib.join (ps.map (·.data.toList)) sep.data.toList).toArray).size = _
      simp
    omega
  obtain ⟨a, n, c⟩ := s
  simp only at hlen
  subst hlen
  rcases h.2.2 with ⟨h1, h2, h3⟩ | ⟨g, o, cur, h1, h2, _⟩
  · simp only at h1 h2
    subst h1
    have hp : ps = [] := List.eq_nil_of_length_eq_zero h2
    subst hp
    refine callP.of Tryz.func216 (by kernel_rfl) (by kernel_rfl) (Tryz.strings_Join_none none c sep w) fun e w' he => ⟨_, he.1, ?_⟩
    rw [he.2]
    exact k w (Eff.refl _ _)
  · simp only at h1
    subst h1
    refine callP.of Tryz.func216 (by kernel_rfl) (by kernel_rfl) (Tryz.strings_Join g o c ps sep w (fun j x hj => ?_) h2.lt (by omega) h.2.1 hl') fun e w' he => ⟨_, he.1, k w' (Eff.of_below he.2)⟩
    have := h.cell rfl j (kStr x) (by rw [List.getElem?_map, hj]; rfl)
    rw [addr_add] at this
    exact this

/-! ### Split -/

/-- What stands between the bytes c. -/
def splitL (c : UInt8) : List UInt8 → List (List UInt8)
  | [] => [[]]
  | x :: r => if x = c then [] :: splitL c r else match splitL c r with
    | [] => [[x]]
    | h :: t => (x :: h) :: t

theorem splitL_len (c : UInt8) (l : List UInt8) : (splitL c l).length = l.count c + 1 := by
  induction l with
  | nil => rfl
  | cons x r ih =>
    simp only [splitL]
    split
    · rename_i e
      subst e
      simp [ih]
    · rename_i e
      rw [List.count_cons_of_ne e]
      cases h : splitL c r with
      | nil => rw [h] at ih; simp at ih
      | cons a t => rw [h] at ih; simpa using ih

theorem splitL_none (c : UInt8) (l : List UInt8) (h : (splitL c l).length = 1) : splitL c l = [l] := by
  rw [splitL_len] at h
  induction l with
  | nil => rfl
  | cons x r ih =>
    have hx : x ≠ c := by rintro rfl; simp at h
    rw [List.count_cons_of_ne hx] at h
    simp only [splitL]
    rw [if_neg hx, ih h]

theorem splitL_some (c : UInt8) (l : List UInt8) (h : 2 ≤ (splitL c l).length) : ∃ m : Nat, Lib.indexByte l c = m ∧ m < l.length ∧ splitL c l = l.take m :: splitL c (l.drop (m + 1)) := by
  rw [splitL_len] at h
  induction l with
  | nil => simp at h
  | cons x r ih =>
    by_cases hx : x = c
    · subst hx
      refine ⟨0, by simp [Lib.indexByte], by simp, ?_⟩
      simp [splitL]
    · rw [List.count_cons_of_ne hx] at h
      obtain ⟨m, h1, h2, h3⟩ := ih h
      refine ⟨m + 1, ?_, by simpa using h2, ?_⟩
      · simp only [Lib.indexByte]
        rw [if_neg (by simpa using hx), h1, if_neg (by simp)]
        rfl
      · simp only [splitL]
        rw [if_neg hx, h3]
        simp

def mkS (l : List UInt8) : ByteArray := ⟨l.toArray⟩
theorem mkS_list (s : ByteArray) : mkS s.data.toList = s := rfl

def splitS (s : ByteArray) : List ByteArray := (splitL 47 s.data.toList).map mkS

theorem extract_mkS (s : ByteArray) (a b : Nat) : s.extract a b = mkS ((s.data.toList.drop a).take (b - a)) := Lib.extract_eq s a b

theorem blk_ite {c : Prop} [Decidable c] (a : Option Addr) (m l k : Nat) : (Sl.mk (if c then a else a.map (·.add m)) l k).blk = a.map (·.block) := by
  unfold Sl.blk
  simp only
  split
  · rfl
  · cases a with
    | none => rfl
    | some A =>
      simp only [Option.map_some, Addr.add]
      split <;> rfl

theorem zrow_size (z : Array Value) (n : Nat) : (zrow z n).size = n := by simp [zrow]

theorem Split_spec {s : ByteArray} {K : Sl → World → Prop} (hs : s.size ≤ 1000000) (k : ∀ r w', Eff No w w' → RowAt w' 9 1 r ((splitS s).map kStr) → (∀ b, r.blk = some b → w.heap.size ≤ b) → K r w') : strings_Split_211 s ⟨#[47]⟩ w K := by
  refine strings_Split_211_of _ _ w K ?_
  unfold F211
  refine strings_genSplit_228_of _ _ _ _ w _ ?_
  unfold F228
  refine cnd_f (by decide) ?_
  refine cnd_f (by rw [bytesEq]; decide) ?_
  have hsz : s.size = s.data.toList.length := Lib.size_eq s
  have hcount : s.data.toList.count 47 ≤ s.data.toList.length := List.count_le_length
  have hN : (splitS s).length = s.data.toList.count 47 + 1 := by simp [splitS, splitL_len]
  refine ⟨fun n w1 => w = w1 ∧ n = ((splitS s).length : Int), ?_, ?_⟩
  · refine cnd_t (by decide) ?_
    have e0 : w64 (((s.data.toList.count 47 : Nat) : Int) + 1) = ((splitS s).length : Int) := by
      rw [w64_id (by omega) (by omega), hN]; rfl
    exact Count_spec ⟨rfl, e0⟩
  rintro n w1 ⟨rfl, rfl⟩
  have hw : minI ((splitS s).length : Int) (w64 ((s.size : Int) + 1)) = ((splitS s).length : Int) := by
    rw [w64_id (by omega) (by omega), minI, if_neg (show ¬ (s.size : Int) + 1 < ((splitS s).length : Int) by omega)]
  rw [hw]
  generalize hP : splitS s = P at hN hw k ⊢
  refine ⟨by omega, Int.le_refl _, by omega, by omega, ?_⟩
  refine newP_at fun b8 w9 e8 a8 E8 => ?_
  have hw1 : w64 ((P.length : Int) - 1) = ((P.length - 1 : Nat) : Int) := by rw [w64_id (by omega) (by omega)]; omega
  rw [hw1]
  have hz : (zrow #[.string (⟨#[]⟩ : ByteArray)] (Int.toNat (P.length : Int) * 1)).size = P.length := by rw [zrow_size]; simp
  refine loopP_count (fun n st w1 => ∃ (done : List ByteArray) (cs : Array Value), n = P.length - done.length ∧ st.2 = (done.length : Int) ∧ done ++ splitS st.1 = P ∧ At w1 b8 (.cells cs 9 (0, 0)) ∧ cs.size = P.length ∧
      (∀ (j : Nat) (x : ByteArray), done[j]? = some x → cs[j]? = some (.string x)) ∧ Eff No w w1 ∧ st.1.size ≤ 1000000)
    ⟨_, [], _, rfl, rfl, by simpa using hP, a8, hz, by simp, E8, hs⟩ ?_
  rintro n ⟨rem', i⟩ w12 ⟨done, cs, rfl, hi, hd, ha, hcs, hj, E12, hrs⟩
  obtain ⟨rem, hrem⟩ : ∃ r : ByteArray, r = rem' := ⟨rem', rfl⟩
  subst hrem
  replace hi : i = (done.length : Int) := hi
  replace hd : done ++ splitS rem = P := hd
  replace hrs : rem.size ≤ 1000000 := hrs
  subst hi
  have hrl : rem.size = rem.data.toList.length := Lib.size_eq rem
  have hdl : done.length + (splitL 47 rem.data.toList).length = P.length := by
    have := congrArg List.length hd
    simpa [splitS] using this
  have hrem1 : 1 ≤ (splitL 47 rem.data.toList).length := by rw [splitL_len]; omega
  have hb8 : w.heap.size ≤ b8 := by omega
  refine cnd_intro (fun hn => ?_) (fun hn => ?_)
  · have hn' : (done.length : Int) < ((P.length - 1 : Nat) : Int) := of_decide_eq_true hn
    obtain ⟨m, q1, q2, q3⟩ := splitL_some 47 rem.data.toList (by omega)
    refine Index_spec ?_
    rw [q1]
    refine cnd_f (by simp) ?_
    have e0 : w64 ((m : Int) + 0) = (m : Int) := by rw [w64_id] <;> omega
    have e1 : w64 ((m : Int) + ((⟨#[47]⟩ : ByteArray).size : Int)) = ((m + 1 : Nat) : Int) := by
      show w64 ((m : Int) + ((1 : Nat) : Int)) = _
      rw [w64_id] <;> omega
    rw [e0, e1]
    refine ⟨?_, Int.le_refl _, ?_, ?_⟩
    · exact ⟨by omega, by show (m : Int) ≤ (rem.size : Int); omega⟩
    · show (0 : Int) ≤ (((m : Int).toNat : Nat) : Int); omega
    refine ⟨by omega, by simp only [Int.toNat_natCast]; omega, ?_⟩
    have eA : ((⟨b8, 0, none⟩ : Addr).add (Int.toNat (done.length : Int) * 1)) = ⟨b8, done.length, none⟩ := by rw [addr_add]; simp
    simp only
    rw [eA]
    refine stP_at ha (by omega) rfl fun w18 a18 E18 => ?_
    refine ⟨trivial, by omega, by simp only [hiOf]; omega, ?_⟩
    have e2 : w64 ((done.length : Int) + 1) = ((done.length + 1 : Nat) : Int) := by rw [w64_id] <;> omega
    rw [e2]
    have x1 : rem.extract (Int.toNat 0) (hiOf (some (m : Int)) rem.size) = mkS (rem.data.toList.take m) := by
      rw [extract_mkS]; simp [hiOf]
    have x2 : rem.extract (Int.toNat ((m + 1 : Nat) : Int)) (hiOf none rem.size) = mkS (rem.data.toList.drop (m + 1)) := by
      rw [extract_mkS]
      simp only [hiOf, Int.toNat_natCast]
      congr 1
      rw [List.take_of_length_le]
      simp
    rw [x1] at a18
    rw [x2]
    refine ⟨_, ?_, done ++ [mkS (rem.data.toList.take m)], _, rfl, by simp, ?_, a18, by simpa using hcs, ?_, E12.fresh E18 hb8, ?_⟩
    · simp; omega
    · rw [← hd]
      simp only [splitS, q3, List.map_cons, List.append_assoc, List.cons_append, List.nil_append]
      rfl
    · intro j x hjx
      rw [Array.getElem?_setIfInBounds]
      by_cases hje : done.length = j
      · subst hje
        rw [if_pos rfl, if_pos (by omega)]
        simp at hjx
        rw [hjx]
      · rw [if_neg hje]
        rw [List.getElem?_append] at hjx
        split at hjx
        · exact hj j x hjx
        · have hx := (List.getElem?_eq_some_iff.1 hjx).1
          simp at hx
          omega
    · show (mkS _).size ≤ _
      rw [Lib.size_eq]
      simp [mkS]
      omega
  · have hn' : ¬ (done.length : Int) < ((P.length - 1 : Nat) : Int) := of_decide_eq_false hn
    have hone := splitL_none 47 rem.data.toList (by omega)
    have hdone : done.length + 1 = P.length := by rw [hone] at hdl; simpa using hdl
    refine ⟨by omega, by simp only [Int.toNat_natCast]; omega, ?_⟩
    have eA : ((⟨b8, 0, none⟩ : Addr).add (Int.toNat (done.length : Int) * 1)) = ⟨b8, done.length, none⟩ := by rw [addr_add]; simp
    simp only
    rw [eA]
    refine stP_at ha (by omega) rfl fun w18 a18 E18 => ?_
    have e2 : w64 ((done.length : Int) + 1) = (P.length : Int) := by rw [w64_id] <;> omega
    rw [e2]
    refine ⟨⟨by omega, by simp⟩, Int.le_refl _, by simp only [hiOf, Int.toNat_natCast]; omega, ?_⟩
    have hsplit : splitS rem = [rem] := by simp [splitS, hone, mkS_list]
    rw [hsplit] at hd
    refine k _ w18 (E12.fresh E18 hb8) ?_ ?_
    · have hpos : P.length ≠ 0 := by omega
      refine ⟨by simp [hiOf], by simp [hiOf], .inr ⟨b8, 0, _, ?_, a18, by simp [hcs], fun i hi => ?_⟩⟩
      · have : ¬ P.length = (Int.toNat 0) := hpos
        show (if (Int.toNat (P.length : Int)) = Int.toNat 0 then (some (⟨b8, 0, none⟩ : Addr)) else _) = _
        rw [Int.toNat_natCast]
        show (if P.length = Int.toNat 0 then (some (⟨b8, 0, none⟩ : Addr)) else _) = _
        rw [if_neg this]
        simp [Addr.add]
      · simp only [hiOf, Int.toNat_natCast, Int.toNat_zero, Nat.sub_zero, Nat.mul_one] at hi
        rw [Nat.zero_add, Array.getElem?_setIfInBounds, ← hd]
        by_cases hje : done.length = i
        · subst hje
          rw [if_pos rfl, if_pos (by omega)]
          simp [kStr]
        · rw [if_neg hje]
          have : i < done.length := by omega
          rw [List.map_append, List.getElem?_append_left (by simpa using this), List.getElem?_map]
          have hx : done[i]? = some done[i] := by simp [this]
          rw [hx]
          exact hj i _ hx
    · intro b hb
      have hb' := (blk_ite _ _ _ _).symm.trans hb
      cases hb'
      exact hb8

end
end Go.Proofs.YtcpoglgnkedpaaaGreatDoor

/-
  DERIVED: THE SHELF's CONTRACTS AT THIS DUMP, IN PLAIN WORDS (tools/lay-plain.mjs out of 'YtcpoglgnkedpaaaGreatDoorShelfS.lean', which tools/lay-shelf.mjs wrote): THE SAME DECLARATIONS UNDER THE SAME NAMES: 'import', 'namespace', 'open', 'def', 'theorem' AND NOTHING ELSE: no command of the shelf's: FOR A HAND-IN. Each laying: the table of numbers ('.._ren') and one theorem, a field a fact of the dump's own or the kernel's comparison; each contract: ONE APPLICATION.
-/
namespace Go.Proofs
open Go.Shelf
def Tryz.keysA_ren : Go.Shelf.Ren := ⟨fun | 7 => 147 | 10 => 184 | n => n, fun | 23 => 127 | 26 => 3 | 3 => 124 | 28 => 114 | 0 => 0 | 27 => 113 | 33 => 103 | 4 => 4 | n => n, fun | n => n⟩
theorem Tryz.keysA : Go.Proofs.SlLaysZI.n7 Tryz.prog Tryz.keysA_ren := {
  mixed := by kernel_rfl
  f7 := ⟨Tryz.f147.name, by decide, Tryz.func147.trans (congrArg some (by kernel_rfl))⟩
  f10 := ⟨Tryz.f184.name, by decide, Tryz.func184.trans (congrArg some (by kernel_rfl))⟩
  t0 := Tryz.underlying0
  a0 := Tryz.isAgg0
  z0 := Tryz.sizeOf0
  v0 := Tryz.zeroValue0
  t4 := Tryz.underlying4
  a4 := Tryz.isAgg4
  z4 := Tryz.sizeOf4
  v4 := Tryz.zeroValue4
  t23 := Tryz.underlying127
  a23 := Tryz.isAgg127
  z23 := Tryz.sizeOf127
  v23 := Tryz.zeroValue127
  t26 := Tryz.underlying3
  a26 := Tryz.isAgg3
  z26 := Tryz.sizeOf3
  v26 := Tryz.zeroValue3
  t27 := Tryz.underlying113
  a27 := Tryz.isAgg113
  z27 := Tryz.sizeOf113
  v27 := Tryz.zeroValue113
  t28 := Tryz.underlying114
  a28 := Tryz.isAgg114
  z28 := Tryz.sizeOf114
  v28 := Tryz.zeroValue114
  t33 := Tryz.underlying103
  a33 := Tryz.isAgg103
  z33 := Tryz.sizeOf103
  v33 := Tryz.zeroValue103 }
def Tryz.sortedA_ren : Go.Shelf.Ren := ⟨fun | 6 => 52 | 8 => 114 | 9 => 115 | 11 => 165 | 13 => 162 | 12 => 166 | 23 => 196 | 24 => 197 | 14 => 199 | 15 => 200 | 16 => 201 | 17 => 202 | 18 => 203 | 19 => 204 | 20 => 205 | 21 => 206 | 22 => 207 | 25 => 223 | 26 => 219 | 27 => 220 | 28 => 224 | 29 => 225 | 30 => 226 | 31 => 243 | n => n, fun | 26 => 3 | 28 => 114 | 24 => 53 | 0 => 0 | 3 => 3 | 37 => 122 | 48 => 248 | 50 => 250 | 4 => 4 | 40 => 242 | 39 => 241 | 45 => 79 | 5 => 5 | 9 => 9 | 51 => 266 | 55 => 270 | 57 => 288 | 58 => 289 | 33 => 103 | n => n, fun | n => n⟩
theorem Tryz.sortedA : Go.Proofs.SlLaysZI.n6 Tryz.prog Tryz.sortedA_ren := {
  mixed := by kernel_rfl
  f6 := ⟨Tryz.f52.name, by decide, Tryz.func52.trans (congrArg some (by kernel_rfl))⟩
  f8 := ⟨Tryz.f114.name, by decide, Tryz.func114.trans (congrArg some (by kernel_rfl))⟩
  f11 := ⟨Tryz.f165.name, by decide, Tryz.func165.trans (congrArg some (by kernel_rfl))⟩
  t0 := Tryz.underlying0
  a0 := Tryz.isAgg0
  z0 := Tryz.sizeOf0
  v0 := Tryz.zeroValue0
  t24 := Tryz.underlying53
  a24 := Tryz.isAgg53
  z24 := Tryz.sizeOf53
  v24 := Tryz.zeroValue53
  t26 := Tryz.underlying3
  a26 := Tryz.isAgg3
  z26 := Tryz.sizeOf3
  v26 := Tryz.zeroValue3
  t28 := Tryz.underlying114
  a28 := Tryz.isAgg114
  z28 := Tryz.sizeOf114
  v28 := Tryz.zeroValue114
  i26 := by kernel_rfl }
def Tryz.sortA_ren : Go.Shelf.Ren := ⟨fun | 5 => 115 | 8 => 162 | 7 => 166 | 19 => 196 | 20 => 197 | 10 => 199 | 11 => 200 | 12 => 201 | 13 => 202 | 14 => 203 | 15 => 204 | 16 => 205 | 17 => 206 | 18 => 207 | 30 => 223 | 31 => 219 | 32 => 220 | 33 => 224 | 34 => 225 | 35 => 226 | 40 => 243 | n => n, fun | 23 => 53 | 25 => 3 | 3 => 3 | 32 => 122 | 22 => 53 | 0 => 0 | 44 => 248 | 46 => 250 | 4 => 4 | 36 => 242 | 35 => 241 | 41 => 79 | 5 => 5 | 9 => 9 | 53 => 266 | 57 => 270 | 63 => 288 | 64 => 289 | n => n, fun | n => n⟩
theorem Tryz.sortA : Go.Proofs.SlLaysM.n5 Tryz.prog Tryz.sortA_ren := {
  mixed := by kernel_rfl
  f5 := ⟨Tryz.f115.name, by decide, Tryz.func115.trans (congrArg some (by kernel_rfl))⟩
  f7 := ⟨Tryz.f166.name, by decide, Tryz.func166.trans (congrArg some (by kernel_rfl))⟩
  f8 := Tryz.func162.trans (congrArg some (by kernel_rfl))
  f10 := ⟨Tryz.f199.name, by decide, Tryz.func199.trans (congrArg some (by kernel_rfl))⟩
  f11 := ⟨Tryz.f200.name, by decide, Tryz.func200.trans (congrArg some (by kernel_rfl))⟩
  f12 := ⟨Tryz.f201.name, by decide, Tryz.func201.trans (congrArg some (by kernel_rfl))⟩
  f13 := ⟨Tryz.f202.name, by decide, Tryz.func202.trans (congrArg some (by kernel_rfl))⟩
  f14 := ⟨Tryz.f203.name, by decide, Tryz.func203.trans (congrArg some (by kernel_rfl))⟩
  f15 := ⟨Tryz.f204.name, by decide, Tryz.func204.trans (congrArg some (by kernel_rfl))⟩
  f16 := ⟨Tryz.f205.name, by decide, Tryz.func205.trans (congrArg some (by kernel_rfl))⟩
  f17 := ⟨Tryz.f206.name, by decide, Tryz.func206.trans (congrArg some (by kernel_rfl))⟩
  f18 := ⟨Tryz.f207.name, by decide, Tryz.func207.trans (congrArg some (by kernel_rfl))⟩
  f19 := Tryz.func196.trans (congrArg some (by kernel_rfl))
  f20 := Tryz.func197.trans (congrArg some (by kernel_rfl))
  f30 := ⟨Tryz.f223.name, by decide, Tryz.func223.trans (congrArg some (by kernel_rfl))⟩
  f31 := Tryz.func219.trans (congrArg some (by kernel_rfl))
  f32 := Tryz.func220.trans (congrArg some (by kernel_rfl))
  f33 := ⟨Tryz.f224.name, by decide, Tryz.func224.trans (congrArg some (by kernel_rfl))⟩
  f34 := ⟨Tryz.f225.name, by decide, Tryz.func225.trans (congrArg some (by kernel_rfl))⟩
  f35 := ⟨Tryz.f226.name, by decide, Tryz.func226.trans (congrArg some (by kernel_rfl))⟩
  f40 := ⟨Tryz.f243.name, by decide, Tryz.func243.trans (congrArg some (by kernel_rfl))⟩
  t0 := Tryz.underlying0
  a0 := Tryz.isAgg0
  z0 := Tryz.sizeOf0
  v0 := Tryz.zeroValue0
  t3 := Tryz.underlying3
  a3 := Tryz.isAgg3
  z3 := Tryz.sizeOf3
  v3 := Tryz.zeroValue3
  t4 := Tryz.underlying4
  a4 := Tryz.isAgg4
  z4 := Tryz.sizeOf4
  v4 := Tryz.zeroValue4
  t5 := Tryz.underlying5
  a5 := Tryz.isAgg5
  z5 := Tryz.sizeOf5
  v5 := Tryz.zeroValue5
  t9 := Tryz.underlying9
  a9 := Tryz.isAgg9
  z9 := Tryz.sizeOf9
  v9 := Tryz.zeroValue9
  t22 := Tryz.underlying53
  a22 := Tryz.isAgg53
  z22 := Tryz.sizeOf53
  v22 := Tryz.zeroValue53
  t23 := Tryz.underlying53
  a23 := Tryz.isAgg53
  z23 := Tryz.sizeOf53
  v23 := Tryz.zeroValue53
  t25 := Tryz.underlying3
  a25 := Tryz.isAgg3
  z25 := Tryz.sizeOf3
  v25 := Tryz.zeroValue3
  t32 := Tryz.underlying122
  a32 := Tryz.isAgg122
  z32 := Tryz.sizeOf122
  v32 := Tryz.zeroValue122
  t35 := Tryz.underlying241
  a35 := Tryz.isAgg241
  z35 := Tryz.sizeOf241
  v35 := Tryz.zeroValue241
  t36 := Tryz.underlying242
  a36 := Tryz.isAgg242
  z36 := Tryz.sizeOf242
  v36 := Tryz.zeroValue242
  t41 := Tryz.underlying79
  a41 := Tryz.isAgg79
  z41 := Tryz.sizeOf79
  v41 := Tryz.zeroValue79
  t44 := Tryz.underlying248
  a44 := Tryz.isAgg248
  z44 := Tryz.sizeOf248
  v44 := Tryz.zeroValue248
  t46 := Tryz.underlying250
  a46 := Tryz.isAgg250
  z46 := Tryz.sizeOf250
  v46 := Tryz.zeroValue250
  t53 := Tryz.underlying266
  a53 := Tryz.isAgg266
  z53 := Tryz.sizeOf266
  v53 := Tryz.zeroValue266
  t57 := Tryz.underlying270
  a57 := Tryz.isAgg270
  z57 := Tryz.sizeOf270
  v57 := Tryz.zeroValue270
  t63 := Tryz.underlying288
  a63 := Tryz.isAgg288
  z63 := Tryz.sizeOf288
  v63 := Tryz.zeroValue288
  t64 := Tryz.underlying289
  a64 := Tryz.isAgg289
  z64 := Tryz.sizeOf289
  v64 := Tryz.zeroValue289 }
end Go.Proofs

/-
  slices.Sorted(maps.Keys(m)) of a map of ints.
-/
namespace Go.Proofs.YtcpoglgnkedpaaaGreatDoor
open Go Go.Vc Go.Proofs Go.RowKit Go.Maps Go.Sort Go.Shelf

theorem row_of_owns {w : World} {base : Nat} {e : TypeId} {v : Value} {n : Nat} {xs : List Value} (h : w.ownsRow base e 1 v n xs) : ∃ s : Sl, v = s.v ∧ RowAt w e 1 s xs ∧ ∀ b, s.blk = some b → base ≤ b := by
  obtain ⟨h1, h2⟩ := h
  rcases h2 with ⟨rfl, rfl⟩ | ⟨g, cap, cur, rfl, hb, hg, hn, hc, hs, ht⟩
  · have : xs = [] := List.eq_nil_of_length_eq_zero (by simpa using h1)
    subst this
    exact ⟨⟨none, 0, 0⟩, rfl, RowAt.nil, fun b hb => by cases hb⟩
  · refine ⟨⟨some ⟨g, 0, none⟩, n, cap⟩, rfl, ⟨h1, hn, .inr ⟨g, 0, cur, rfl, hg, by simp only [Nat.zero_add]; omega, fun i hi => ?_⟩⟩, fun b hb' => ?_⟩
    · simp only at hi
      rw [Nat.zero_add, ← ht, List.getElem?_take, if_pos hi, Array.getElem?_toList]
    · simp [Sl.blk] at hb'; omega

def sortI (l : List Int) : List Int := l.mergeSort fun x y => decide (x ≤ y)

theorem sortsA (m : Nat) : AnyZI.SortsIn Tryz.prog Tryz.sortedA_ren Fence.wide m :=
  ⟨fun blk off cap ss W hH hblk hsz => callsIn_wide.2 (AnyM.slices_Sort_int Tryz.sortA blk off cap ss W hH hblk hsz),
   fun p cap W => callsIn_wide.2 (AnyM.slices_Sort_int_none Tryz.sortA p cap W)⟩

def anyR (_ : Value) : Option (DataW Unit × List MemPlace) := some (.nil, [])

theorem rd_int {e : MapEntry} {a : Int} (he : e.key = iT.mk a) (hw : (Lit.int .i64 a).wf = true) : Go.WideElems.rd (H := Unit) Tryz.prog 3 anyR e = some (.int .i64 a, .nil) := by
  unfold Go.WideElems.rd
  have hu : Tryz.prog.underlying 3 = some (.int .i64) := by kernel_rfl
  have : keyOf Tryz.prog 3 e.key = some (.int .i64 a) := by
    rw [he]
    simp [keyOf, hu, mapKey, Ty.mk, Leaf.mk, hw]
  rw [this]
  rfl

theorem owns_of {w : World} {mb : Nat} {lp : List (Int × Option Addr)} (h : MapAt iT.mk pT.mk w mb lp) (hl : lp.length ≤ 1000000) (hk : ∀ p ∈ lp, 0 ≤ p.1 ∧ p.1 ≤ 1000000000) :
    ∃ D : DataW Unit, w.ownsMap Tryz.prog 3 anyR mb 1000000 D ∧ Maps.size D ≤ 1000000 ∧ (intKeys D).Perm (lp.map (·.1)) := by
  obtain ⟨es, c, h1, h2, h3⟩ := h
  have hsz : es.size = lp.length := by
    have := congrArg List.length h3
    simpa using this
  have hkey : ∀ x ∈ es.toList, ∃ a, x.key = iT.mk a ∧ (Lit.int .i64 a).wf = true := by
    intro x hx
    have : (x.key, x.val) ∈ lp.map (fun p => (iT.mk p.1, pT.mk p.2)) := h3 ▸ List.mem_map.2 ⟨x, hx, rfl⟩
    obtain ⟨p, hp, hpe⟩ := List.mem_map.1 this
    refine ⟨p.1, (Prod.mk.inj hpe).1.symm, ?_⟩
    have := hk p hp
    simp only [Lit.wf, IntKind.min, IntKind.max, IntKind.signed, IntKind.bits]
    simp
    omega
  refine ⟨_, ⟨es, c, h1, ⟨by simp only [maxLen]; omega, h2, fun x hx => ?_⟩, by omega, rfl⟩, ?_, ?_⟩
  · obtain ⟨a, ha, hw⟩ := hkey x hx
    exact ⟨_, rd_int ha hw⟩
  · rw [Maps.size_eq, length_sorted]
    simp; omega
  · show (((es.toList.map (Go.WideElems.rg Tryz.prog 3 anyR)).foldr DataW.insert []).map fun p => _root_.Go.intOf p.1).Perm _
    refine ((Go.WideShapes.sorted_perm _).map _).trans ?_
    have e1 : ((es.toList.map (Go.WideElems.rg (H := Unit) Tryz.prog 3 anyR)).map fun p => _root_.Go.intOf p.1) = lp.map (·.1) := by
      have hks := h3.keys
      have : ∀ (l1 : List MapEntry) (l2 : List (Int × Option Addr)), l1.map (·.key) = l2.map (fun p => iT.mk p.1) → (∀ x ∈ l1, ∃ a, x.key = iT.mk a ∧ (Lit.int .i64 a).wf = true) → ((l1.map (Go.WideElems.rg (H := Unit) Tryz.prog 3 anyR)).map fun p => _root_.Go.intOf p.1) = l2.map (·.1) := by
        intro l1
        induction l1 with
        | nil =>
          intro l2 h _
          cases l2 with
          | nil => rfl
          | cons y r => cases h
        | cons x r ih =>
          intro l2 h hall
          cases l2 with
          | nil => cases h
          | cons y t =>
            simp only [List.map_cons, List.cons.injEq] at h ⊢
            obtain ⟨a, ha, hw⟩ := hall x (by simp)
            refine ⟨?_, ih t h.2 fun z hz => hall z (by simp [hz])⟩
            rw [Go.WideElems.rg_of (rd_int ha hw)]
            have : a = y.1 := by
              have := ha.symm.trans h.1
              simpa [Ty.mk, Leaf.mk] using this
            rw [← this]
            rfl
      exact this _ _ hks hkey
    rw [e1]

section
variable {w : World}

theorem SortedKeys_spec {mb : Nat} {lp : List (Int × Option Addr)} {K : Sl → World → Prop} (h : MapAt iT.mk pT.mk w mb lp) (hl : lp.length ≤ 1000000) (hk : ∀ p ∈ lp, 0 ≤ p.1 ∧ p.1 ≤ 1000000000)
    (k : ∀ r w', Eff No w w' → RowAt w' 3 1 r ((sortI (lp.map (·.1))).map kInt) → (∀ b, r.blk = some b → w.heap.size ≤ b) → K r w') : maps_Keys_147 (some mb) w fun r3 w4 => slices_Sorted_52 r3 w4 K := by
  refine maps_Keys_147_of _ w _ ?_
  unfold F147
  rintro b1 w2 rfl rfl
  obtain ⟨D, hD, hDs, hDp⟩ := owns_of h hl hk
  have hbl := h.lt
  have hE : Eff No w (w.alloc (.cells #[.map (some mb)] 127)) := Eff.alloc w _
  have hseq : SeqGives Fence.wide 2 Tryz.prog 184 #[.pointer (some ⟨w.heap.size, 0, none⟩)] encZ (fun ss => ss.Perm (intKeys D)) (Maps.size D) (w.alloc (.cells #[.map (some mb)] 127)) :=
    AnyZI.keys_gives (ρ := Tryz.keysA_ren) { Tryz.keysA with } Fence.wide _ trivial rfl (by omega) w.heap.size mb 1000000 D _ (by simp) (by simp) (by
      obtain ⟨es, clock, hb, Ft, hs, hD'⟩ := hD
      exact ⟨es, clock, hE.at0 hb, Ft, hs, hD'⟩)
  have cS := AnyZI.sorted_in Tryz.sortedA Fence.wide 5 trivial trivial trivial trivial rfl (by omega) (sortsA _) (enters_of Tryz.func115 (by kernel_rfl) rfl) 184 #[.pointer (some ⟨w.heap.size, 0, none⟩)] trivial (enters_of Tryz.func184 (by kernel_rfl) rfl) _ _ (by simp only [maxLen]; omega) (by omega) _ hseq
  change CallsIn _ _ Tryz.prog 52 _ _ _ at cS
  refine callP.of Tryz.func52 (by kernel_rfl) (by kernel_rfl) (callsIn_wide.1 cS) ?_
  rintro e w' ⟨v, ss, rfl, hS, hrow, hnil, hb⟩
  obtain ⟨s, rfl, q1, q2⟩ := row_of_owns hrow
  refine ⟨s, rfl, ?_⟩
  have hE2 : Eff No (w.alloc (.cells #[.map (some mb)] 127)) w' := ⟨hb.os, hb.tape, hb.output, hb.size, fun b h1 _ => hb.block b h1⟩
  refine k s w' (hE.trans hE2) ?_ fun b hb' => ?_
  · have : ss.mergeSort (fun x y => decide (x ≤ y)) = sortI (lp.map (·.1)) := mergeSort_of_perm_i (hS.trans hDp)
    rw [← this]
    exact q1
  · have := q2 b hb'
    have h2 : (w.alloc (.cells #[.map (some mb)] 127)).heap.size = w.heap.size + 1 := by show (w.heap.push _).size = _; simp
    omega

end
end Go.Proofs.YtcpoglgnkedpaaaGreatDoor

/-
  tree: Files.
-/
namespace Go.Proofs.YtcpoglgnkedpaaaGreatDoor
open Go Go.Vc Go.Proofs

abbrev fLs : List Leaf := [.int .i64, .int .i64, .int .i64, .slice, .slice, .map]
/-- A file, as it is told: number, kind, links, bytes, written, names. -/
abbrev FileC := Carr fLs
abbrev FilesAt (w : World) (s : Sl) (cs : List FileC) : Prop := RowAt w 108 6 s (cs.flatMap (Carr.cells fLs))

theorem slFiles : SlT Tryz.prog 111 108 6 80 where
  und := by kernel_rfl
  info := by
    obtain ⟨i, h1, h2, h3, h4⟩ := ti108_ok.info
    exact ⟨i, _, h1, h4, h2, h3, rfl⟩

structure FileOk (w : World) (c : FileC) (v : NodeV) : Prop where
  kind : c.2.1 = v.kind
  links : c.2.2.1 = v.links
  data : RowAt w 5 1 c.2.2.2.1 (v.data.map kB)
  names : MapO sT.mk iT.mk w c.2.2.2.2.2 v.names

theorem FileOk.kept {w w' : World} {c : FileC} {v : NodeV} {S : Nat → Prop} (h : FileOk w c v) (hE : Eff S w w') (h1 : ∀ b, c.2.2.2.1.blk = some b → ¬ S b) (h2 : ∀ b, c.2.2.2.2.2 = some b → ¬ S b) : FileOk w' c v :=
  ⟨h.kind, h.links, h.data.kept hE h1, h.names.kept hE h2⟩

theorem FileOk.kept0 {w w' : World} {c : FileC} {v : NodeV} (h : FileOk w c v) (hE : Eff No w w') : FileOk w' c v := h.kept hE (fun _ _ h => h) (fun _ _ h => h)

/-- The numbers of a tree's nodes, rising. -/
def numsV (T : TreeV) : List Int := sortI (T.nodes.map (·.1))

section
variable {w : World} {own : Owner} {tb : Nat} {X : TreeX} {T : TreeV}

theorem TreeAt.keys_perm (h : TreeAt w own tb X T) : (X.lp.map (·.1)).Perm (T.nodes.map (·.1)) := by
  refine perm_of_nodup (h.map.nodup keyI) h.nd fun k => ⟨fun hk => ?_, fun hk => ?_⟩
  · obtain ⟨p, hp⟩ := aget_key hk
    obtain ⟨v, _, _, _, _, hv, _⟩ := h.key hp
    exact key_of_aget hv
  · obtain ⟨v, hv⟩ := aget_key hk
    obtain ⟨_, _, _, _, hp, _⟩ := h.som k v hv
    exact key_of_aget hp

/-- What is asked of a tree: few nodes, no great numbers. -/
structure Small (T : TreeV) : Prop where
  len : T.nodes.length ≤ 1000000
  keys : ∀ p ∈ T.nodes, 0 ≤ p.1 ∧ p.1 ≤ 1000000000

theorem Files_spec {K : Sl → World → Prop} (h : TreeAt w own tb X T) (hs : Small T)
    (k : ∀ r cs w', Eff No w w' → FilesAt w' r cs → cs.map (·.1) = numsV T → (∀ c ∈ cs, ∃ v, aget T.nodes c.1 = some v ∧ FileOk w' c v ∧ (∀ b, c.2.2.2.1.blk = some b → w.heap.size ≤ b) ∧ (∀ b, c.2.2.2.2.2 = some b → w.heap.size ≤ b)) → (∀ b, r.blk = some b → w.heap.size ≤ b) → K r w') : tree_Tree_Files_86 (some ⟨tb, 0, none⟩) w K := by
  refine tree_Tree_Files_86_of _ w K ?_
  unfold F86
  refine cnd_f rfl ?_
  refine onSome_some ?_
  refine ldP_at (some X.mb) h.top rfl ?_
  have hkp := h.keys_perm
  have hlen : X.lp.length = T.nodes.length := by simpa using hkp.length_eq
  refine SortedKeys_spec h.map (by have := hs.len; omega) (fun p hp => ?_) fun r5 w6 E6 hr hrb => ?_
  · have : p.1 ∈ T.nodes.map (·.1) := (hkp.mem_iff).1 (List.mem_map.2 ⟨p, hp, rfl⟩)
    obtain ⟨q, hq, e⟩ := List.mem_map.1 this
    rw [← e]
    exact hs.keys q hq
  have hks : sortI (X.lp.map (·.1)) = numsV T := mergeSort_of_perm_i hkp
  rw [hks] at hr
  have hmemk : ∀ n ∈ numsV T, ∃ v, aget T.nodes n = some v := fun n hn => aget_key ((List.mergeSort_perm _ _).mem_iff.1 hn)
  have hkl : (numsV T).length = T.nodes.length := by simp [numsV, sortI]
  have hTl := hs.len
  generalize numsV T = ks at hr hmemk hkl k
  have hrl : r5.len = ks.length := by simpa using hr.len1
  refine loopP_count (fun n st w1 => ∃ (i : Nat) (done : List FileC), st.2 = (i : Int) ∧ i ≤ ks.length ∧ n = ks.length - i ∧ (Eff No w w1 ∧ w6.heap.size ≤ w1.heap.size) ∧ RowAt w1 3 1 r5 (ks.map kInt) ∧ FilesAt w1 st.1 done ∧ done.map (·.1) = ks.take i ∧
      (∀ c ∈ done, ∃ v, aget T.nodes c.1 = some v ∧ FileOk w1 c v ∧ (∀ b, c.2.2.2.1.blk = some b → w6.heap.size ≤ b ∧ st.1.blk ≠ some b) ∧ (∀ b, c.2.2.2.2.2 = some b → w6.heap.size ≤ b ∧ st.1.blk ≠ some b)) ∧ (∀ b, st.1.blk = some b → w6.heap.size ≤ b))
    ⟨_, 0, [], rfl, by omega, rfl, ⟨E6, Nat.le_refl _⟩, hr, RowAt.nil, rfl, by simp, fun b hb => (by cases hb)⟩ ?_
  rintro n ⟨out', j⟩ w9 ⟨i, done, hj, hi, rfl, ⟨E9, h69⟩, hr9, ho', hd, hfo', hob'⟩
  obtain ⟨out, hout⟩ : ∃ o : Sl, o = out' := ⟨out', rfl⟩
  subst hout
  replace hj : j = (i : Int) := hj
  replace ho : FilesAt w9 out done := ho'
  replace hob : ∀ b, out.blk = some b → w6.heap.size ≤ b := hob'
  replace hfo : ∀ c ∈ done, ∃ v, aget T.nodes c.1 = some v ∧ FileOk w9 c v ∧ (∀ b, c.2.2.2.1.blk = some b → w6.heap.size ≤ b ∧ out.blk ≠ some b) ∧ (∀ b, c.2.2.2.2.2 = some b → w6.heap.size ≤ b ∧ out.blk ≠ some b) := hfo'
  subst hj
  have s6 := E6.size
  have hdl : done.length = i := by
    have := congrArg List.length hd
    simp at this
    omega
  have hol : out.len = done.length := RowAt.lenN (ls := fLs) (by decide) ho
  refine cnd_intro (fun hc => ?_) (fun hc => ?_)
  · have hc' : (i : Int) < (r5.len : Int) := of_decide_eq_true hc
    have hip : i < ks.length := by omega
    refine ⟨by show (0 : Int) ≤ (i : Int); omega, hc', ?_⟩
    have hg : ks[i]? = some ks[i] := by simp [hip]
    have hkmem : ks[i] ∈ ks := List.getElem_mem hip
    have htake : ks.take (i + 1) = ks.take i ++ [ks[i]] := by rw [List.take_add_one, hg]; rfl
    generalize ks[i] = m at hg hkmem htake
    obtain ⟨v, hv⟩ := hmemk m hkmem
    refine ldP_row (l := .int .i64) m hr9 (by rw [Int.toNat_natCast, List.getElem?_map, hg]; rfl) ?_
    have h9 := h.kept0 E9
    refine onSome_some ?_
    refine ldP_at (some X.mb) h9.top rfl ?_
    obtain ⟨nb, ds, ws, mp, l1, nA, l2⟩ := h9.look hv
    refine ⟨_, l1, ?_⟩
    have nA2 : NodeAt w9.drew own m nb ds ws mp v := nA.kept (Eff.drew w9) (fun _ _ => rfl) fun _ _ _ _ h => h
    refine onSome_some ?_
    refine ldP_at v.kind nA2.cells rfl ?_
    refine onSome_some ?_
    refine ldP_at v.links nA2.cells rfl ?_
    refine onSome_some ?_
    refine ldP_at ds nA2.cells rfl ?_
    refine onSome_some ?_
    refine ldP_at ws nA2.cells rfl ?_
    refine onSome_some ?_
    refine ldP_at mp nA2.cells rfl ?_
    refine Clone67_spec nA2.row (fun u hu => by obtain ⟨x, _, rfl⟩ := List.mem_map.1 hu; rfl) (by simpa using nA2.dl.1) fun r25 w26 E26 q1 q2 => ?_
    have c26 := E26.at0 nA2.cells
    refine ⟨c26.cell.trans rfl, c26.cell.trans rfl, c26.cell.trans rfl, c26.cell.trans rfl, ?_⟩
    refine Clone68_spec (nA2.wrow.kept0 E26) (fun u hu => by obtain ⟨x, _, rfl⟩ := List.mem_map.1 hu; rfl) (by simpa using nA2.dl.2) fun r27 w28 E28 q3 q4 => ?_
    have c28 := E28.at0 c26
    refine ⟨c28.cell.trans rfl, c28.cell.trans rfl, c28.cell.trans rfl, ?_⟩
    refine MapsClone_spec (nA2.nm.kept0 (E26.trans E28)) fun r29 w30 E30 q5 q6 q7 => ?_
    have c30 := E30.at0 c28
    refine ⟨c30.cell.trans rfl, c30.cell.trans rfl, ?_⟩
    refine newP_at fun b31 w32 e31 a31 E31 => ?_
    have E932 : Eff No w9 w32 := (Eff.drew w9).trans (((E26.trans E28).trans E30).trans E31)
    have s932 := E932.size
    have s26 := E26.size
    have s28 := E28.size
    have s30 := E30.size
    have hd9 : w9.drew.heap.size = w9.heap.size := rfl
    have hb31 := a31.lt
    obtain ⟨s', w34, u1, u2, u3, u4, u5⟩ := append_row (ty := 111) slFiles (ho.kept0 E932) (x := ⟨some ⟨b31, 0, none⟩, 1, 1⟩) (news := Carr.cells fLs ((m, v.kind, v.links, r25, r27, r29) : FileC)) (RowAt.new a31 rfl)
      (fun u hu => by simp [Carr.cells, Leaf.mk] at hu; rcases hu with rfl | rfl | rfl | rfl | rfl | rfl <;> rfl) (by simp [hol, maxLen]; omega) (by simp [hol]; omega)
    have E34 : Eff No w w34 := (E9.trans E932).comp u4 fun b hb e => by have := hob b e; omega
    have hw : w64 ((i : Int) + 1) = ((i + 1 : Nat) : Int) := by rw [w64_id] <;> omega
    have lob : ∀ b, out.blk = some b → b < w9.heap.size := fun b hb => ho.lt hb
    refine ⟨s', w34, u1, _, ?_, i + 1, done ++ [(m, v.kind, v.links, r25, r27, r29)], hw, hip, rfl, ⟨E34, Nat.le_trans h69 (Nat.le_trans s932 u4.size)⟩, ?_, ?_, ?_, ?_, ?_⟩
    · omega
    · exact (hr9.kept0 E932).kept u4 fun b h1 h2 => by
        have := hr.lt h1
        have := hob b h2
        omega
    · show RowAt w34 108 6 s' ((done ++ [((m, v.kind, v.links, r25, r27, r29) : FileC)]).flatMap (Carr.cells fLs))
      rw [List.flatMap_append, List.flatMap_singleton]
      exact u2
    · rw [List.map_append, hd, htake]; rfl
    · have key : ∀ b, w9.heap.size ≤ b → b < w32.heap.size → s'.blk ≠ some b := fun b h1 h2 e => by
        rcases u5 with u5 | u5
        · rw [u5] at e
          have := lob b e
          omega
        · rw [u5] at e; cases e; omega
      have key2 : ∀ b, b < w9.heap.size → out.blk ≠ some b → s'.blk ≠ some b := fun b h1 h2 e => by
        rcases u5 with u5 | u5
        · rw [u5] at e; exact h2 e
        · rw [u5] at e; cases e; omega
      intro c hcm
      rcases List.mem_append.1 hcm with hcm | hcm
      · obtain ⟨v', g1, g2, g3, g4⟩ := hfo c hcm
        refine ⟨v', g1, (g2.kept0 E932).kept u4 (fun b hb e => (g3 b hb).2 e) (fun b hb e => (g4 b hb).2 e), fun b hb => ⟨(g3 b hb).1, key2 b (g2.data.lt hb) (g3 b hb).2⟩, fun b hb => ⟨(g4 b hb).1, key2 b (g2.names.lt hb) (g4 b hb).2⟩⟩
      · rw [List.mem_singleton] at hcm
        subst hcm
        have e25 : ∀ b, r25.blk = some b → w9.heap.size ≤ b ∧ b < w26.heap.size := fun b hb => ⟨q2 b hb, q1.lt hb⟩
        have e29 : ∀ b, r29 = some b → w28.heap.size ≤ b ∧ b < w30.heap.size := fun b hb => ⟨q6 b hb, q5.lt hb⟩
        have s31 := E31.size
        refine ⟨v, hv, ⟨rfl, rfl, ?_, ?_⟩, fun b hb => ?_, fun b hb => ?_⟩
        · refine (q1.kept0 ((E28.trans E30).trans E31)).kept u4 fun b h1 h2 => ?_
          have := e25 b h1
          have := lob b h2
          omega
        · refine (q5.kept0 E31).kept u4 fun b h1 h2 => ?_
          have := e29 b h1
          have := lob b h2
          omega
        · have := e25 b hb
          exact ⟨by omega, key b (by omega) (by omega)⟩
        · have := e29 b hb
          exact ⟨by omega, key b (by omega) (by omega)⟩
    · intro b hb
      rcases u5 with u5 | u5
      · rw [u5] at hb; exact hob b hb
      · rw [u5] at hb; cases hb; omega
  · have hc' : ¬ (i : Int) < (r5.len : Int) := of_decide_eq_false hc
    have hip : i = ks.length := by omega
    subst hip
    rw [List.take_length] at hd
    refine k out done w9 E9 ho hd (fun c hc => ?_) fun b hb => by have := hob b hb; omega
    obtain ⟨v, g1, g2, g3, g4⟩ := hfo c hc
    exact ⟨v, g1, g2, fun b hb => by have := (g3 b hb).1; omega, fun b hb => by have := (g4 b hb).1; omega⟩

end
end Go.Proofs.YtcpoglgnkedpaaaGreatDoor

/-
  may: what 'note' makes: in plain words; a new file; a write of nothing.
-/
namespace Go.Proofs.YtcpoglgnkedpaaaGreatDoor
open Go Go.Vc Go.Proofs

def newFile (kind : Int) : FileV := ⟨kind, ⟨#[]⟩, [0], []⟩
def noteF (F : List (Int × FileV)) (N : List (Int × NodeV)) : List (Int × FileV) := N.foldl (fun F p => if (aget F p.1).isSome = true then F else aset F p.1 (newFile p.2.kind)) F
/-- The entries that are there. -/
def thereL (N : List (Int × NodeV)) : List (Ent × Int) := N.flatMap fun p => p.2.names.map fun q => ((p.1, q.1), q.2)
def setAll (E : List (Ent × List Int)) (R : List (Ent × Int)) : List (Ent × List Int) := R.foldl (fun E q => aset E q.1 (setL ((aget E q.1).getD [0]) q.2)) E
def noteE (E : List (Ent × List Int)) (N : List (Int × NodeV)) : List (Ent × List Int) := setAll (E.map fun p => (p.1, setL p.2 ((aget (thereL N) p.1).getD 0))) (thereL N)
def linkT (N : List (Int × NodeV)) (n : Int) : Int := ((aget N n).map (·.links)).getD 0
def markN (N : List (Int × NodeV)) (n : Int) (m : Mark) : Mark := (m.1, m.2.1 && decide (linkT N n > 0), m.2.2 && (linkT N n == 1))
def noteM (M : List (Int × Mark)) (N : List (Int × NodeV)) : List (Int × Mark) := M.map fun p => (p.1, markN N p.1 p.2)
def noteV (H : HistV) (T : TreeV) : HistV := { H with files := noteF H.files T.nodes, entries := noteE H.entries T.nodes, marks := noteM H.marks T.nodes }

theorem noteF_nd : ∀ (N : List (Int × NodeV)) (F : List (Int × FileV)), (F.map (·.1)).Nodup → ((noteF F N).map (·.1)).Nodup
  | [], _, h => h
  | p :: N, F, h => by
    unfold noteF
    rw [List.foldl_cons]
    refine noteF_nd N _ ?_
    split
    · exact h
    · exact nodup_aset h _ _

theorem noteF_get : ∀ (N : List (Int × NodeV)) (F : List (Int × FileV)) (k : Int), aget (noteF F N) k = match aget F k with | some f => some f | none => (aget N k).map fun v => newFile v.kind
  | [], F, k => by
    simp only [noteF, List.foldl_nil, aget]
    cases aget F k <;> rfl
  | (n, v) :: N, F, k => by
    have ih := noteF_get N (if (aget F n).isSome = true then F else aset F n (newFile v.kind)) k
    have e : noteF F ((n, v) :: N) = noteF (if (aget F n).isSome = true then F else aset F n (newFile v.kind)) N := rfl
    rw [e, ih]
    by_cases hs : (aget F n).isSome = true
    · rw [if_pos hs]
      cases hk : aget F k with
      | some f => rfl
      | none =>
        simp only [aget]
        rw [if_neg (fun h => by subst h; rw [hk] at hs; cases hs)]
    · rw [if_neg hs, aget_aset]
      by_cases hk : k = n
      · subst hk
        rw [if_pos rfl]
        cases hkk : aget F k with
        | some f => rw [hkk] at hs; exact absurd rfl hs
        | none => simp [aget]
      · rw [if_neg hk]
        cases aget F k with
        | some f => rfl
        | none =>
          simp only [aget]
          rw [if_neg fun h => hk h.symm]

theorem aget_append {α β : Type} [DecidableEq α] (l l' : List (α × β)) (k : α) : aget (l ++ l') k = match aget l k with | some v => some v | none => aget l' k := by
  induction l with
  | nil => rfl
  | cons x r ih =>
    obtain ⟨a, b⟩ := x
    simp only [List.cons_append, aget]
    split
    · rfl
    · exact ih

theorem aget_names (n : Int) (names : List (Str × Int)) (e : Ent) : aget (names.map fun q => (((n, q.1) : Ent), q.2)) e = if e.1 = n then aget names e.2 else none := by
  induction names with
  | nil => simp [aget]
  | cons x r ih =>
    obtain ⟨a, b⟩ := x
    obtain ⟨d, nm⟩ := e
    simp only [List.map_cons, aget, ih]
    by_cases h : d = n
    · subst h
      simp only [if_true, Prod.mk.injEq, true_and]
    · rw [if_neg h, if_neg fun h' => h (Prod.mk.inj h').1.symm, if_neg h]

theorem thereL_get : ∀ (N : List (Int × NodeV)), (N.map (·.1)).Nodup → ∀ e : Ent, aget (thereL N) e = (aget N e.1).bind fun v => aget v.names e.2
  | [], _, e => rfl
  | (n, v) :: N, hn, e => by
    simp only [List.map_cons, List.nodup_cons] at hn
    have e1 : thereL ((n, v) :: N) = (v.names.map fun q => (((n, q.1) : Ent), q.2)) ++ thereL N := rfl
    rw [e1, aget_append, aget_names, thereL_get N hn.2 e]
    simp only [aget]
    by_cases h : e.1 = n
    · rw [if_pos h, if_pos h.symm]
      have : aget N e.1 = none := by rw [h]; exact aget_eq_none.2 hn.1
      rw [this]
      cases hx : aget v.names e.2 <;> simp [hx]
    · rw [if_neg h, if_neg fun h' => h h'.symm]

theorem thereL_nd : ∀ (N : List (Int × NodeV)), (N.map (·.1)).Nodup → (∀ p ∈ N, (p.2.names.map (·.1)).Nodup) → ((thereL N).map (·.1)).Nodup
  | [], _, _ => .nil
  | (n, v) :: N, hn, hv => by
    simp only [List.map_cons, List.nodup_cons] at hn
    have e1 : thereL ((n, v) :: N) = (v.names.map fun q => (((n, q.1) : Ent), q.2)) ++ thereL N := rfl
    rw [e1, List.map_append]
    refine List.nodup_append.2 ⟨?_, thereL_nd N hn.2 fun p hp => hv p (List.mem_cons_of_mem _ hp), fun x hx y hy e => ?_⟩
    · have h1 := hv (n, v) (by simp)
      have : (v.names.map fun q => (((n, q.1) : Ent), q.2)).map (·.1) = (v.names.map (·.1)).map fun s => ((n, s) : Ent) := by simp [List.map_map, Function.comp_def]
      rw [this]
      exact List.pairwise_map.2 (h1.imp fun hab e => hab (Prod.mk.inj e).2)
    · subst e
      obtain ⟨q, hq, rfl⟩ := List.mem_map.1 hx
      obtain ⟨q', hq', rfl⟩ := List.mem_map.1 hq
      obtain ⟨p, hp, hpe⟩ := List.mem_map.1 hy
      obtain ⟨u, hu, hpu⟩ := List.mem_flatMap.1 hp
      obtain ⟨q2, hq2, rfl⟩ := List.mem_map.1 hpu
      have : u.1 = n := (Prod.mk.inj hpe).1
      exact hn.1 (List.mem_map.2 ⟨u, hu, this⟩)

theorem setAll_nd : ∀ (R : List (Ent × Int)) (E : List (Ent × List Int)), (E.map (·.1)).Nodup → ((setAll E R).map (·.1)).Nodup
  | [], _, h => h
  | q :: R, E, h => by
    unfold setAll
    rw [List.foldl_cons]
    exact setAll_nd R _ (nodup_aset h _ _)

theorem setAll_get : ∀ (R : List (Ent × Int)) (E : List (Ent × List Int)), (R.map (·.1)).Nodup → ∀ k, aget (setAll E R) k = match aget R k with | some n => some (setL ((aget E k).getD [0]) n) | none => aget E k
  | [], E, _, k => rfl
  | (e, n) :: R, E, hn, k => by
    simp only [List.map_cons, List.nodup_cons] at hn
    have e1 : setAll E ((e, n) :: R) = setAll (aset E e (setL ((aget E e).getD [0]) n)) R := rfl
    rw [e1, setAll_get R _ hn.2 k]
    simp only [aget]
    by_cases h : e = k
    · subst h
      rw [if_pos rfl, aget_eq_none.2 hn.1, aget_aset, if_pos rfl]
    · rw [if_neg h, aget_aset, if_neg fun h' => h h'.symm]

section
variable {w w1 : World} {own : HOwner} {hb : Nat} {tp : Option Addr} {X : HistX} {le : List (Ent × Sl)} {lf : List (Int × Option Addr)} {lm : List (Int × Mark)} {H : HistV}

theorem HistAt.addFile (h : HistAt w own {} hb tp X le lf lm H) {n kind : Int} {sb bb fb : Nat} (hn : aget H.files n = none) (hE : Eff No w w1) (hsb : At w1 sb (.cells #[.int .i64 0] 3)) (ab : At w1 bb (.map #[] 0))
    (af : At w1 fb (.cells #[.int .i64 kind, .string ⟨#[]⟩, .slice (some ⟨sb, 0, none⟩) 1 1, .map (some bb)] 135)) (h1 : w.heap.size ≤ sb) (h2 : w.heap.size ≤ bb) (h3 : w.heap.size ≤ fb) :
    ∃ w2 own' lf', (Instr.mapUpdate 70 (.map (some X.fb)) (.int .i64 n) (.pointer (some ⟨fb, 0, none⟩))).run Tryz.prog w1 = .ok () w2 ∧ Eff (fun b => b = X.fb) w w2 ∧ (∀ b, b < w.heap.size → own' b = own b) ∧ (∀ b, own' b = some .entries → own b = some .entries) ∧ (∀ b, b ≠ sb → b ≠ bb → b ≠ fb → own' b = own b) ∧
      HistAt w2 own' {} hb tp X le lf' lm { H with files := aset H.files n (newFile kind) } := by
  obtain ⟨w2, r1, r2, r3⟩ := update (vf := pT.mk) keyI und70 (h.fil.map.kept0 hE) n (some ⟨fb, 0, none⟩)
  have E2 : Eff (fun b => b = X.fb) w w2 := hE.up.comp r3 fun _ _ h => h
  have hfb := h.fil.map.lt
  have d1 : sb ≠ bb := fun e => by subst e; cases hsb.det ab
  have d2 : fb ≠ bb := fun e => by subst e; cases af.det ab
  have d3 : fb ≠ sb := fun e => by subst e; cases af.det hsb
  let own' : HOwner := fun b => if b = fb then some (.file n) else if b = sb then some (.sizes n) else if b = bb then some (.blocks n) else own b
  have ho : ∀ b, b < w.heap.size → own' b = own b := fun b hb => by
    simp only [own']
    rw [if_neg (by omega), if_neg (by omega), if_neg (by omega)]
  have hS : ∀ b t, own b = some t → b = X.fb → t = .files := fun b t hb e => by rw [e, h.fil.o] at hb; cases hb; rfl
  refine ⟨w2, own', aset lf n (some ⟨fb, 0, none⟩), r1, E2, ho, fun b hb => ?_, fun b x1 x2 x3 => by simp only [own']; rw [if_neg x3, if_neg x1, if_neg x2], ?_⟩
  · simp only [own'] at hb
    split at hb
    · cases hb
    · split at hb
      · cases hb
      · split at hb
        · cases hb
        · exact hb
  have hfil : FilC w2 own' X.fb (aset lf n (some ⟨fb, 0, none⟩)) (aset H.files n (newFile kind)) := by
    refine { o := (ho _ hfb).trans h.fil.o, map := r2, nd := nodup_aset h.fil.nd _ _, non := fun k hk => ?_, som := fun k f hk => ?_ }
    · rw [aget_aset] at hk ⊢
      split at hk
      · cases hk
      · rename_i e; rw [if_neg e]; exact h.fil.non k hk
    · rw [aget_aset] at hk ⊢
      split at hk
      · rename_i e
        subst e
        cases hk
        rw [if_pos rfl]
        refine ⟨fb, ⟨some ⟨sb, 0, none⟩, 1, 1⟩, bb, [], rfl, ?_⟩
        have a1 := r3.at af (show ¬ fb = X.fb by omega)
        exact
          { cells := a1
            o := by simp [own']
            row := RowAt.new (vs := [kInt 0]) (r3.at hsb (show ¬ sb = X.fb by omega)) rfl
            rowO := ⟨sb, rfl, by simp [own', Ne.symm d3]⟩
            ne := ⟨by simp [newFile], by simp [newFile]⟩
            map := MapAt.new (r3.at ab (show ¬ bb = X.fb by omega))
            mapO := by simp [own', Ne.symm d2, Ne.symm d1]
            nd := .nil
            non := fun _ _ => rfl
            som := fun _ _ hk => by cases hk }
      · rename_i e
        rw [if_neg e]
        obtain ⟨b1, ss, bb1, lb, q1, q2⟩ := h.fil.som k f hk
        exact ⟨b1, ss, bb1, lb, q1, q2.kept E2 ho fun b t hb ht hs => by rw [hS b t hb hs] at ht; cases ht⟩
  exact
    { lt := fun b t hb => by
        have := r3.size
        have := E2.size
        simp only [own'] at hb
        split at hb
        · rename_i e; have := af.lt; omega
        · split at hb
          · rename_i e; have := hsb.lt; omega
          · split at hb
            · rename_i e; have := ab.lt; omega
            · have := h.lt b t hb; omega
      top := E2.at h.top fun e => by have := hS _ _ h.topO e; cases this
      topO := (ho _ h.top.lt).trans h.topO
      num := h.num.kept E2 fun e => by have := hS _ _ h.numO e; cases this
      numO := (ho _ h.num.lt).trans h.numO
      fil := hfil
      mar := h.mar.kept E2 ho (fun b hb e => by have := hS _ _ hb e; cases this) fun p hp => by cases hp
      ent := h.ent.kept E2 ho (fun b t hb ht e => by rw [hS _ _ hb e] at ht; cases ht) fun p hp => by cases hp
      ope := h.ope.kept E2 fun e => by have := hS _ _ h.opeO e; cases this
      opeO := (ho _ h.ope.lt).trans h.opeO
      itE := fun p hp => by cases hp
      itM := fun p hp => by cases hp }

/-- A write of nothing where nothing is. -/
theorem write0_spec {n : Int} {fb : Nat} {ss : Sl} {bb : Nat} {lb : List (Int × Sl)} {f : FileV} {d : Sl} {K : Tup [] → World → Prop} (h : FileAt w own n fb ss bb lb f) (h0 : lastI f.sizes = 0) (hd : d.len = 0) (k : K () w) : may_file_write_89 (some ⟨fb, 0, none⟩) d w K := by
  refine may_file_write_89_of _ _ w K ?_
  unfold F89
  refine onSome_some ?_
  refine ldP_at ss h.cells rfl ?_
  refine value_spec h.row (by have := h.ne.2; omega) ?_
  rw [h0, hd]
  refine ⟨fun _ w' => w = w', cnd_f (by decide) rfl, ?_⟩
  rintro _ w' rfl
  refine inode_Need_50_of _ w _ ?_
  unfold F50
  refine cnd_t (by decide) ?_
  refine loopP_count (fun _ st w1 => st = (0 : Int) ∧ w = w1) ⟨0, rfl, rfl⟩ ?_
  rintro m st w1 ⟨rfl, rfl⟩
  exact cnd_f (by decide) k

end
end Go.Proofs.YtcpoglgnkedpaaaGreatDoor

/-
  may: note.
-/
namespace Go.Proofs.YtcpoglgnkedpaaaGreatDoor
open Go Go.Vc Go.Proofs

noncomputable def pick {α β : Type} (seen : List α) (k : α) (x y : β) : β := @ite _ (k ∈ seen) (Classical.propDecidable _) x y
theorem pick_in {α β : Type} {seen : List α} {k : α} {x y : β} (h : k ∈ seen) : pick seen k x y = x := if_pos h
theorem pick_out {α β : Type} {seen : List α} {k : α} {x y : β} (h : k ∉ seen) : pick seen k x y = y := if_neg h
theorem pick_cons {α β : Type} {seen : List α} {k a : α} {x y : β} (h : k ≠ a) : pick (a :: seen) k x y = pick seen k x y := by
  by_cases hk : k ∈ seen
  · rw [pick_in hk, pick_in (List.mem_cons_of_mem _ hk)]
  · rw [pick_out hk, pick_out fun h' => (List.mem_cons.1 h').elim h hk]

/-- What is asked ahead of 'note'. -/
structure NoteOk (H : HistV) (T : TreeV) : Prop where
  kinds : ∀ n v, aget T.nodes n = some v → v.kind = 1 ∨ v.kind = 2
  data : ∀ n v, aget T.nodes n = some v → v.kind = 1 → v.data = []
  sizes : ∀ n f, aget H.files n = some f → lastI f.sizes = 0
  rows : ∀ e xs, aget H.entries e = some xs → xs.length ≤ 999990

theorem setL_len (l : List Int) (n : Int) : (setL l n).length ≤ l.length + 1 := by
  unfold setL
  split
  · omega
  · simp

section
variable {w : World} {own : HOwner} {hb : Nat} {tp : Option Addr} {X : HistX} {le : List (Ent × Sl)} {lf : List (Int × Option Addr)} {lm : List (Int × Mark)} {H : HistV}

theorem HistAt.own_fresh {it : Its} (h : HistAt w own it hb tp X le lf lm H) {b : Nat} (hb' : w.heap.size ≤ b) : own b = none := by
  cases hh : own b with
  | none => rfl
  | some t => have := h.lt _ _ hh; omega

theorem note_spec {ownT : Owner} {tb : Nat} {XT : TreeX} {T : TreeV} {K : Tup [] → World → Prop} (h : HistAt w own {} hb tp X le lf lm H) (hT : TreeAt w ownT tb XT T) (hs : Small T) (hn : NoteOk H T)
    (k : ∀ own' le' lf' lm' w', Eff (fun b => ∃ t, own b = some t) w w' → (∀ b, b < w.heap.size → own' b = own b) → HistAt w' own' {} hb tp X le' lf' lm' (noteV H T) → K () w') : may_History_note_34 (some ⟨hb, 0, none⟩) (some ⟨tb, 0, none⟩) w K := by
  refine may_History_note_34_of _ _ w K ?_
  unfold F34
  refine newP_at fun b1 w2 e1 a1 E1 => ?_
  refine newP_at fun b3 w4 e3 a3 E3 => ?_
  have E04 := E1.trans E3
  have s1 := E1.size
  have l1 := a1.lt
  have l3 := a3.lt
  refine Files_spec (hT.kept0 E04) hs fun r5 cs w6 E46 hr5 hck hcs hrb => ?_
  have E06 := E04.trans E46
  have s6 := E46.size
  have h6 := h.kept0 E06
  have b13 : b1 ≠ b3 := by omega
  have ob1 : own b1 = none := h.own_fresh (by omega)
  have ob3 : own b3 = none := h.own_fresh (by omega)
  have hXf : X.fb < w.heap.size := h.fil.map.lt
  have hlen : r5.len = cs.length := RowAt.lenN (ls := fLs) (by decide) hr5
  have hNd : ∀ p ∈ T.nodes, (p.2.names.map (·.1)).Nodup := fun p hp => by
    obtain ⟨_, _, _, _, _, nA⟩ := hT.som p.1 p.2 (aget_of_mem hT.nd hp)
    exact nA.nm.nd
  have hkeys : ∀ n, n ∈ T.nodes.map (·.1) ↔ n ∈ cs.map (·.1) := fun n => by
    rw [hck]
    exact ((List.mergeSort_perm _ _).mem_iff).symm
  have hcnd : (cs.map (·.1)).Nodup := by
    rw [hck]
    exact ((List.mergeSort_perm _ _).nodup_iff).2 hT.nd
  have hcl : cs.length ≤ 1000000 := by
    have := congrArg List.length hck
    simp [numsV, sortI] at this
    have := hs.len
    omega
  -- the files, one by one
  refine loopP_count (fun n st w9 => ∃ i : Nat, st = (i : Int) ∧ i ≤ cs.length ∧ n = cs.length - i ∧ Eff (fun b => b = b1 ∨ b = b3 ∨ b = X.fb) w6 w9 ∧ ∃ (own' : HOwner) (lf' : List (Int × Option Addr)) (F' : List (Int × FileV)) (L : List (Int × Int)) (R : List (Ent × Int)),
      (∀ b, b < w6.heap.size → own' b = own b) ∧ HistAt w9 own' {} hb tp X le lf' lm { H with files := F' } ∧ MapF iT.mk iT.mk w9 b1 L ∧ MapF kE.mk iT.mk w9 b3 R ∧
      (∀ n, aget L n = if n ∈ (cs.take i).map (·.1) then (aget T.nodes n).map (·.links) else none) ∧
      (∀ e : Ent, aget R e = if e.1 ∈ (cs.take i).map (·.1) then (aget T.nodes e.1).bind (fun v => aget v.names e.2) else none) ∧
      (∀ n, aget F' n = match aget H.files n with | some f => some f | none => if n ∈ (cs.take i).map (·.1) then (aget T.nodes n).map (fun v => newFile v.kind) else none))
    ⟨_, 0, rfl, by omega, rfl, Eff.refl _ _, own, lf, H.files, [], [], fun _ _ => rfl, h6, (MapF.new (E3.at0 a1)).kept0 E46, (MapF.new a3).kept0 E46, fun n => by simp [aget], fun e => by simp [aget], fun n => by cases aget H.files n <;> simp⟩ ?_
  rintro n st w9 ⟨i, rfl, hi, rfl, E9, own', lf', F', L, R, ho, hH, hL, hR, gL, gR, gF⟩
  have s9 := E9.size
  have o1 : own' b1 = none := (ho b1 (by omega)).trans ob1
  have o3 : own' b3 = none := (ho b3 (by omega)).trans ob3
  have oXf : own' X.fb = some .files := hH.fil.o
  have hnot : ∀ b, w4.heap.size ≤ b → ¬ (b = b1 ∨ b = b3 ∨ b = X.fb) := fun b hb' e => by
    have := E3.size
    rcases e with e | e | e <;> omega
  have hr9 : FilesAt w9 r5 cs := hr5.kept E9 fun b hb' => hnot b (hrb b hb')
  refine cnd_intro (fun hc => ?_) (fun hc => ?_)
  · have hc' : (i : Int) < (r5.len : Int) := of_decide_eq_true hc
    have hip : i < cs.length := by omega
    refine ⟨by omega, hc', ?_⟩
    have hg : cs[i]? = some cs[i] := by simp [hip]
    have hmem : cs[i] ∈ cs := List.getElem_mem hip
    have htake : cs.take (i + 1) = cs.take i ++ [cs[i]] := by rw [List.take_add_one, hg]; rfl
    have hnin : cs[i].1 ∉ (cs.take i).map (·.1) := by
      have h1 : cs.map (·.1) = (cs.take i).map (·.1) ++ cs[i].1 :: (cs.drop (i + 1)).map (·.1) := by
        have h2 : cs[i].1 :: (cs.drop (i + 1)).map (·.1) = (cs[i] :: cs.drop (i + 1)).map (·.1) := rfl
        rw [h2, ← List.drop_eq_getElem_cons hip, ← List.map_append, List.take_append_drop]
      rw [h1] at hcnd
      intro hx
      exact (List.nodup_append.1 hcnd).2.2 _ hx _ (by simp) rfl
    generalize cs[i] = c at hg hmem htake hnin
    obtain ⟨v, hv, hok, hd1, hd2⟩ := hcs c hmem
    have hok9 := hok.kept E9 (fun b hb' => hnot b (hd1 b hb')) (fun b hb' => hnot b (hd2 b hb'))
    refine ldA_row (ls := fLs) (by decide) hr9 (by rw [Int.toNat_natCast]; exact hg) ?_
    refine newP_at fun b12 w13 e12 a12 E12 => ?_
    refine stN_all a12 rfl rfl fun w14 a14 E14 => ?_
    have E914 : Eff No w9 w14 := E12.fresh E14 (by omega)
    have l12 := a12.lt
    have s14 := E914.size
    refine ldP_at c.1 a14 rfl ?_
    refine ldP_at c.2.2.1 a14 rfl ?_
    obtain ⟨w17, r1, r2, r3⟩ := (hL.kept0 E914).put keyI und65 c.1 c.2.2.1
    refine ⟨w17, r1, ?_⟩
    have E917 : Eff (fun b => b = b1) w9 w17 := E914.up.comp r3 fun _ _ h => h
    have h17 : HistAt w17 own' {} hb tp X le lf' lm { H with files := F' } := hH.kept E917 (fun b t hb' e => by have e' : b = b1 := e; rw [e', o1] at hb'; cases hb') (fun p hp => by cases hp) (fun p hp => by cases hp)
    have hR17 := hR.kept E917 (Ne.symm b13)
    have a17 := r3.at a14 (show ¬ b12 = b1 by omega)
    have l12' := a17.lt
    have s17 := E917.size
    refine onSome_some ?_
    refine ldP_at (some X.fb) h17.top rfl ?_
    refine ⟨((aget lf' c.1).getD none), ?_, ?_⟩
    · have := lookup1 keyI und70 h17.fil.map c.1 (.pointer none) (run_zero ti132_ok w17)
      refine this.trans ?_
      cases aget lf' c.1 <;> rfl
    have hdat : c.2.2.2.1.len = v.data.length := by simpa using hok9.data.len1
    refine ⟨fun _ w23 => Eff (fun b => b = X.fb) w17 w23 ∧ ∃ (own2 : HOwner) (lf2 : List (Int × Option Addr)) (F2 : List (Int × FileV)), (∀ b, b < w17.heap.size → own2 b = own' b) ∧ HistAt w23 own2 {} hb tp X le lf2 lm { H with files := F2 } ∧
        ∀ k, aget F2 k = if k = c.1 then some ((aget F' c.1).getD (newFile v.kind)) else aget F' k, ?_, ?_⟩
    · refine cnd_intro (fun hz => ?_) (fun hz => ?_)
      · have hFn : aget F' c.1 = none := by
          cases hx : aget F' c.1 with
          | none => rfl
          | some f =>
            obtain ⟨_, _, _, _, q, _⟩ := h17.fil.som c.1 f hx
            rw [q] at hz
            cases hz
        have h17d := h17.kept0 (Eff.drew w17)
        have fin : ∀ sb bb fb wx, Eff No w17.drew wx → At wx sb (.cells #[.int .i64 0] 3) → At wx bb (.map #[] 0) → At wx fb (.cells #[.int .i64 c.2.1, .string ⟨#[]⟩, .slice (some ⟨sb, 0, none⟩) 1 1, .map (some bb)] 135) → w17.heap.size ≤ sb → w17.heap.size ≤ bb → w17.heap.size ≤ fb →
            runU Tryz.prog (Instr.mapUpdate 70 (.map (some X.fb)) (.int .i64 c.1) (.pointer (some ⟨fb, 0, none⟩))) wx fun w36 => Eff (fun b => b = X.fb) w17 w36 ∧ ∃ (own2 : HOwner) (lf2 : List (Int × Option Addr)) (F2 : List (Int × FileV)), (∀ b, b < w17.heap.size → own2 b = own' b) ∧ HistAt w36 own2 {} hb tp X le lf2 lm { H with files := F2 } ∧
              ∀ k, aget F2 k = if k = c.1 then some ((aget F' c.1).getD (newFile v.kind)) else aget F' k := by
          intro sb bb fb wx Ex xs xb xf y1 y2 y3
          obtain ⟨w36, own2, lf2, u1, u2, u3, _, _, u6⟩ := h17d.addFile hFn Ex xs xb xf y1 y2 y3
          refine ⟨w36, u1, (Eff.drew w17).up.trans u2, own2, lf2, _, u3, u6, fun k => ?_⟩
          rw [aget_aset, hFn, hok9.kind]
          rfl
        refine ⟨fun _ w36 => Eff (fun b => b = X.fb) w17 w36 ∧ ∃ (own2 : HOwner) (lf2 : List (Int × Option Addr)) (F2 : List (Int × FileV)), (∀ b, b < w17.heap.size → own2 b = own' b) ∧ HistAt w36 own2 {} hb tp X le lf2 lm { H with files := F2 } ∧
              ∀ k, aget F2 k = if k = c.1 then some ((aget F' c.1).getD (newFile v.kind)) else aget F' k, ?_, fun _ _ h => h⟩
        refine onSome_some ?_
        refine ldP_at (some X.fb) h17d.top rfl ?_
        refine ldP_at c.2.1 a17.drew rfl ?_
        have hd17 : w17.drew.heap.size = w17.heap.size := rfl
        refine ⟨?_, ?_⟩
        · refine newP_at fun b30 w31 e30 a30 E30 => ?_
          refine ⟨(E30.at0 a17.drew).cell.trans rfl, (E30.at0 h17d.top).cell.trans rfl, ?_⟩
          refine newP_at fun b32 w33 e32 a32 E32 => ?_
          have E3032 := E30.trans E32
          refine ⟨(E3032.at0 a17.drew).cell.trans rfl, (E3032.at0 h17d.top).cell.trans rfl, ?_⟩
          refine newP_at fun b34 w35 e34 a34 E34 => ?_
          have Ex := E3032.trans E34
          have := E30.size
          have := E32.size
          refine ⟨(Ex.at0 h17d.top).cell.trans rfl, ?_⟩
          exact fin b30 b32 b34 w35 Ex ((E32.trans E34).at0 a30) (E34.at0 a32) a34 (by omega) (by omega) (by omega)
        · refine newP_at fun b30 w31 e30 a30 E30 => ?_
          refine ⟨(E30.at0 a17.drew).cell.trans rfl, (E30.at0 h17d.top).cell.trans rfl, ?_⟩
          refine newP_at fun b32 w33 e32 a32 E32 => ?_
          have E3032 := E30.trans E32
          refine ⟨(E3032.at0 a17.drew).cell.trans rfl, (E3032.at0 h17d.top).cell.trans rfl, ?_⟩
          refine newP_at fun b34 w35 e34 a34 E34 => ?_
          have Ex := E3032.trans E34
          have := E30.size
          have := E32.size
          refine ⟨(Ex.at0 h17d.top).cell.trans rfl, ?_⟩
          exact fin b32 b30 b34 w35 Ex (E34.at0 a32) ((E32.trans E34).at0 a30) a34 (by omega) (by omega) (by omega)
      · have hFn : ∃ f, aget F' c.1 = some f := by
          cases hx : aget F' c.1 with
          | some f => exact ⟨f, rfl⟩
          | none =>
            rw [h17.fil.non c.1 hx] at hz
            cases hz
        obtain ⟨f, hf⟩ := hFn
        refine ⟨Eff.refl _ _, own', lf', F', fun _ _ => rfl, h17, fun k => ?_⟩
        split
        · rename_i e; subst e; rw [hf]; rfl
        · rfl
    rintro _ w23 ⟨E23, own2, lf2, F2, ho2, h23, gF2⟩
    have s23 := E23.size
    have a23 := E23.at a17 (show ¬ b12 = X.fb by omega)
    refine ldP_at c.2.1 a23 rfl ?_
    have hnode : aget F2 c.1 = some ((aget F' c.1).getD (newFile v.kind)) := by rw [gF2, if_pos rfl]
    refine ⟨fun _ w' => Eff No w23 w', ?_, ?_⟩
    · refine ⟨fun _ w' => Eff No w23 w', ?_, fun _ _ h => h⟩
      rw [hok9.kind]
      refine cnd_intro (fun hk => ?_) (fun hk => ?_)
      · have hk' : v.kind = 1 := by simpa using hk
        have h23d := h23.kept0 (Eff.drew w23)
        refine onSome_some ?_
        refine ldP_at (some X.fb) h23d.top rfl ?_
        obtain ⟨fb, ss, bb, lb, q1, fA, _⟩ := h23d.fil.look hnode
        refine ⟨_, q1, ?_⟩
        refine ldP_at c.2.2.2.1 a23.drew rfl ?_
        refine write0_spec fA ?_ ?_ (Eff.drew w23)
        · cases hx : aget F' c.1 with
          | none => rfl
          | some f =>
            show lastI f.sizes = 0
            rw [gF] at hx
            cases hy : aget H.files c.1 with
            | some g => rw [hy] at hx; cases hx; exact hn.sizes _ _ hy
            | none => rw [hy] at hx; rw [if_neg hnin] at hx; cases hx
        · rw [hdat, hn.data _ _ hv hk']; rfl
      · have hk' : ¬ v.kind = 1 := by simpa using hk
        have hk2 := (hn.kinds _ _ hv).resolve_left hk'
        refine ⟨fun _ w' => Eff No w23 w', cnd_f (by rw [hk2]; rfl) (Eff.refl _ _), fun _ _ h => h⟩
    rintro _ w47 E47
    refine ldP_at c.2.2.2.2.2 (E47.at0 a23) rfl ?_
    have h47 := h23.kept0 E47
    have E1747 : Eff (fun b => b = X.fb) w17 w47 := E23.thenNo E47
    have hR47 := hR17.kept E1747 (show ¬ b3 = X.fb by omega)
    have hL47 := r2.kept E1747 (show ¬ b1 = X.fb by omega)
    have E947 : Eff (fun b => b = b1 ∨ b = b3 ∨ b = X.fb) w9 w47 := (E917.mono fun b _ e => .inl e).comp E1747 fun b _ e => .inr (.inr e)
    have hnm := hok9.names.kept E947 fun b hb' => hnot b (hd2 b hb')
    have o23 : own2 b3 = none := (ho2 b3 (by omega)).trans o3
    have s47 := E1747.size
    have hw1 : w64 ((i : Int) + 1) = ((i + 1 : Nat) : Int) := by rw [w64_id] <;> omega
    have hmemk : ∀ m, m ∈ (cs.take (i + 1)).map (·.1) ↔ (m ∈ (cs.take i).map (·.1) ∨ m = c.1) := fun m => by
      rw [htake, List.map_append, List.mem_append]; simp
    refine range_ro und66 keyS hnm (fun ps _ w1 => Eff (fun b => b = b3) w47 w1 ∧ ∃ R' : List (Ent × Int), MapF kE.mk iT.mk w1 b3 R' ∧ ∀ e : Ent, aget R' e = if e.1 = c.1 then aget ps e.2 else aget R e) (fun w1 E => ⟨E.up, R, hR47.kept0 E, fun e => ?_⟩) ?_ ?_ ?_
    · split
      · rename_i he; rw [gR, he, if_neg hnin]; rfl
      · rfl
    · rintro ps _ w1 w1' ⟨Ex, R', q1, q2⟩ E'
      refine ⟨Ex.fresh E' (Nat.le_refl _), R', q1.kept E' (show ¬ b3 = w47.heap.size by omega), q2⟩
    · rintro ps _ w1 ⟨Ex, R', q1, q2⟩ hp
      have hpn : ∀ s, aget ps s = aget v.names s := fun s => (aget_of_perm hnm.nd hp.symm s).symm
      have hex := h47.kept Ex (fun b t hb' e => by have e' : b = b3 := e; rw [e', o23] at hb'; cases hb') (fun p hp => by cases hp) (fun p hp => by cases hp)
      have Ew : Eff (fun b => b = b1 ∨ b = b3 ∨ b = X.fb) w9 w1 := E947.comp Ex fun b _ e => .inr (.inl e)
      have sx := Ex.size
      refine ⟨_, by omega, i + 1, hw1, hip, rfl, E9.trans Ew, own2, lf2, F2, _, R', fun b hb' => (ho2 b (by omega)).trans (ho b hb'), hex, hL47.kept Ex b13, q1, fun m => ?_, fun e => ?_, fun m => ?_⟩
      · rw [aget_aset]
        by_cases hm : m = c.1
        · subst hm
          rw [if_pos rfl, if_pos ((hmemk _).2 (.inr rfl)), hv, hok9.links]; rfl
        · rw [if_neg hm, gL]
          by_cases hm2 : m ∈ (cs.take i).map (·.1)
          · rw [if_pos hm2, if_pos ((hmemk _).2 (.inl hm2))]
          · rw [if_neg hm2, if_neg fun h' => ((hmemk _).1 h').elim hm2 hm]
      · rw [q2]
        by_cases he : e.1 = c.1
        · rw [if_pos he, if_pos ((hmemk _).2 (.inr he)), he, hv, hpn]; rfl
        · rw [if_neg he, gR]
          by_cases hm2 : e.1 ∈ (cs.take i).map (·.1)
          · rw [if_pos hm2, if_pos ((hmemk _).2 (.inl hm2))]
          · rw [if_neg hm2, if_neg fun h' => ((hmemk _).1 h').elim hm2 he]
      · rw [gF2]
        by_cases hm : m = c.1
        · subst hm
          rw [if_pos rfl, if_pos ((hmemk _).2 (.inr rfl)), hv, gF, if_neg hnin]
          cases aget H.files c.1 <;> rfl
        · rw [if_neg hm, gF]
          cases aget H.files m with
          | some f => rfl
          | none =>
            show (if _ then _ else _) = (if _ then _ else _)
            by_cases hm2 : m ∈ (cs.take i).map (·.1)
            · rw [if_pos hm2, if_pos ((hmemk _).2 (.inl hm2))]
            · rw [if_neg hm2, if_neg fun h' => ((hmemk _).1 h').elim hm2 hm]
    · rintro ps _ w1 ⟨nm, ch⟩ again ⟨Ex, R', q1, q2⟩ hpm hnps _ hlt hag
      obtain ⟨w77, u1, u2, u3⟩ := q1.put keyE und158 ((c.1, nm) : Ent) ch
      refine ⟨w77, u1, hag (fun b => b = b3) () w77 u3 (show ¬ w47.heap.size = b3 by omega) (fun b hb' e => ?_) ⟨Ex.trans u3, _, u2, fun e => ?_⟩⟩
      · have e' : b = b3 := e
        have := hd2 b hb'
        omega
      · rw [aget_aset]
        by_cases he : e = (c.1, nm)
        · subst he
          rw [if_pos rfl, if_pos rfl]
          simp [aget]
        · rw [if_neg he, q2]
          by_cases h1 : e.1 = c.1
          · rw [if_pos h1, if_pos h1]
            have h2 : ¬ nm = e.2 := fun h' => he (Prod.ext h1 h'.symm)
            simp only [aget]
            rw [if_neg h2]
          · rw [if_neg h1, if_neg h1]
  · have hc' : ¬ (i : Int) < (r5.len : Int) := of_decide_eq_false hc
    have hip : i = cs.length := by omega
    subst hip
    rw [List.take_length] at gL gR gF
    have gL' : ∀ n, aget L n = (aget T.nodes n).map (·.links) := fun n => by
      rw [gL]
      split
      · rfl
      · rename_i hx
        rw [aget_eq_none.2 fun h' => hx ((hkeys n).1 h')]; rfl
    have gR' : ∀ e : Ent, aget R e = aget (thereL T.nodes) e := fun e => by
      rw [gR, thereL_get T.nodes hT.nd]
      split
      · rfl
      · rename_i hx
        rw [aget_eq_none.2 fun h' => hx ((hkeys e.1).1 h')]; rfl
    have gF' : ∀ n, aget (noteF H.files T.nodes) n = aget F' n := fun n => by
      rw [noteF_get, gF]
      cases aget H.files n with
      | some f => rfl
      | none =>
        show (aget T.nodes n).map (fun v => newFile v.kind) = if n ∈ cs.map (·.1) then (aget T.nodes n).map (fun v => newFile v.kind) else none
        by_cases hx : n ∈ cs.map (·.1)
        · rw [if_pos hx]
        · rw [if_neg hx, aget_eq_none.2 fun h' => hx ((hkeys n).1 h')]; rfl
    have nR := thereL_nd T.nodes hT.nd hNd
    have hR2 : MapF kE.mk iT.mk w9 b3 (thereL T.nodes) := hR.perm (perm_of_aget hR.1 nR gR')
    clear hR gR gR'
    generalize hthere : thereL T.nodes = Rl at hR2 nR
    have Ew9 : Eff (fun b => ∃ t, own b = some t) w w9 := E06.up.comp E9 fun b hb' e => by
      rcases e with e | e | e
      · omega
      · omega
      · exact ⟨_, by rw [e]; exact h.fil.o⟩
    -- the entries that were there
    refine onSome_some ?_
    refine ldP_at (some X.eb) hH.top rfl ?_
    obtain ⟨w81, r1, r2, r3⟩ := range_start (P := Tryz.prog) (kty := kE) (vty := vS) und72 hH.ent.map.map
    refine ⟨_, w81, r1, ?_⟩
    have inv0 : HistAt w81 own' { e := some (w9.heap.size, []) } hb tp X le lf' lm { H with files := F' } := HistAt.iterE (it := {}) hH r3 (Nat.le_refl _) r2
    have s81 := r3.size
    refine range_loop (fun (seen : List Ent) l _ w2 => Eff (fun b => ∃ t, own' b = some t) w9 w2 ∧ MapF iT.mk iT.mk w2 b1 L ∧ MapF kE.mk iT.mk w2 b3 Rl ∧ ∃ (own2 : HOwner) (E' : List (Ent × List Int)), (∀ b, b < w81.heap.size → own2 b = own' b) ∧ w81.heap.size ≤ w2.heap.size ∧
        HistAt w2 own2 { e := some (w9.heap.size, seen) } hb tp X l lf' lm { H with files := F', entries := E' } ∧ ∀ k : Ent, aget E' k = (aget H.entries k).map fun xs => pick seen k (setL xs ((aget Rl k).getD 0)) xs) r2
      ⟨r3.up, hL.kept0 r3, hR2.kept0 r3, own', H.entries, fun _ _ => rfl, Nat.le_refl _, inv0, fun k => by cases aget H.entries k <;> simp [pick_out]⟩ ?_ ?_
    · rintro seen l _ w85 hi ⟨E85, hL85, hR85, own2, E', ho2, hs2, h85, gE⟩ hall
      have hkeysE : ∀ k, k ∈ H.entries.map (·.1) → k ∈ seen := fun k hk => by
        have : k ∈ E'.map (·.1) := by
          obtain ⟨xs, hx⟩ := aget_key hk
          have h1 := gE k
          rw [hx] at h1
          exact key_of_aget h1
        obtain ⟨p, hp, rfl⟩ := List.mem_map.1 ((h85.ent.keys_perm.mem_iff).2 this)
        exact hall p hp
      have gE2 : ∀ k : Ent, aget E' k = aget (H.entries.map fun p => (p.1, setL p.2 ((aget Rl p.1).getD 0))) k := fun k => by
        have e1 : ∀ (Es : List (Ent × List Int)), aget (Es.map fun p => (p.1, setL p.2 ((aget Rl p.1).getD 0))) k = (aget Es k).map fun xs => setL xs ((aget Rl k).getD 0) := by
          intro Es
          induction Es with
          | nil => rfl
          | cons q r ih =>
            obtain ⟨a, b⟩ := q
            simp only [List.map_cons, aget]
            split
            · rename_i e; subst e; rfl
            · exact ih
        rw [e1, gE]
        cases hx : aget H.entries k with
        | none => rfl
        | some xs => simp only [Option.map_some]; rw [pick_in (hkeysE k (key_of_aget hx))]
      have h85' := HistAt.doneE (it := {}) h85
      have oo1 : own2 b1 = none := (ho2 b1 (by omega)).trans o1
      have oo3 : own2 b3 = none := (ho2 b3 (by omega)).trans o3
      -- those that are there
      have s85 := E85.size
      refine range_ro und158 keyE hR85.o (fun ps _ w2 => Eff (fun b => ∃ t, own' b = some t) w9 w2 ∧ MapF iT.mk iT.mk w2 b1 L ∧ ∃ (own3 : HOwner) (le3 : List (Ent × Sl)) (E3 : List (Ent × List Int)), (∀ b, b < w85.heap.size + 1 → own3 b = own2 b) ∧
          HistAt w2 own3 {} hb tp X le3 lf' lm { H with files := F', entries := E3 } ∧ ∀ k : Ent, aget E3 k = match aget ps k with | some n => some (setL ((aget E' k).getD [0]) n) | none => aget E' k)
        (fun w2 E2 => ⟨E85.thenNo E2, hL85.kept0 E2, own2, l, E', fun _ _ => rfl, h85'.kept0 E2, fun k => rfl⟩) ?_ ?_ ?_
      · rintro ps _ w2 w2' ⟨E2, q1, own3, le3, E3, q2, q3, q4⟩ Er
        have or3 : own3 w85.heap.size = none := (q2 _ (by omega)).trans (h85.own_fresh (Nat.le_refl _))
        refine ⟨E2.fresh Er (by omega), q1.kept Er (show ¬ b1 = w85.heap.size by omega), own3, le3, E3, q2, q3.kept Er (fun b t hb' e => ?_) (fun p hp => by cases hp) (fun p hp => by cases hp), q4⟩
        have e' : b = w85.heap.size := e
        rw [e', or3] at hb'; cases hb'
      · rintro ps _ w93 ⟨E93, hL93, own3, le3, E3, q2, h93, q4⟩ hp
        have hps : ∀ k, aget ps k = aget Rl k := fun k => (aget_of_perm nR hp.symm k).symm
        have gE3 : ∀ k : Ent, aget (noteE H.entries T.nodes) k = aget E3 k := fun k => by
          rw [noteE, hthere, setAll_get Rl _ nR, q4, hps, gE2]
          cases aget Rl k <;> rfl
        have nE3 : ((noteE H.entries T.nodes).map (·.1)).Nodup := by
          rw [noteE]
          refine setAll_nd _ _ ?_
          have : (H.entries.map fun p => (p.1, setL p.2 ((aget (thereL T.nodes) p.1).getD 0))).map (·.1) = H.entries.map (·.1) := by simp [List.map_map, Function.comp_def]
          rw [this]
          exact h.ent.nd
        have o31 : own3 b1 = none := (q2 _ (by omega)).trans oo1
        -- the marks
        refine onSome_some ?_
        refine ldP_at (some X.mb) h93.top rfl ?_
        obtain ⟨w99, t1, t2, t3⟩ := range_start (P := Tryz.prog) (kty := iT) (vty := mT) und71 h93.mar.map.map
        refine ⟨_, w99, t1, ?_⟩
        have s99 := t3.size
        have s93 := E93.size
        have inv1 : HistAt w99 own3 { m := some (w93.heap.size, []) } hb tp X le3 lf' lm { H with files := F', entries := E3 } := HistAt.iterM (it := {}) h93 t3 (Nat.le_refl _) t2
        refine range_loop (fun (seen : List Int) l _ w4 => Eff (fun b => ∃ t, own' b = some t) w9 w4 ∧ MapF iT.mk iT.mk w4 b1 L ∧ w99.heap.size ≤ w4.heap.size ∧ ∃ (M' : List (Int × Mark)), HistAt w4 own3 { m := some (w93.heap.size, seen) } hb tp X le3 lf' l { H with files := F', entries := E3, marks := M' } ∧
            ∀ k : Int, aget M' k = (aget H.marks k).map fun m => pick seen k (markN T.nodes k m) m) t2
          ⟨E93.thenNo t3, hL93.kept0 t3, Nat.le_refl _, H.marks, inv1, fun k => by cases aget H.marks k <;> simp [pick_out]⟩ ?_ ?_
        · rintro seen l4 _ w103 hi4 ⟨E103, _, _, M', h103, gM⟩ hall4
          have hkM : ∀ k, k ∈ H.marks.map (·.1) → k ∈ seen := fun k hk => by
            obtain ⟨m, hm⟩ := aget_key hk
            have h1 := gM k
            rw [hm, ← h103.mar.eq] at h1
            exact hall4 (k, _) (aget_mem h1)
          have h103' := HistAt.doneM (it := {}) h103
          have Ew : Eff (fun b => ∃ t, own b = some t) w w103 := Ew9.comp E103 fun b hb' hs => by
            obtain ⟨t, ht⟩ := hs
            rw [ho b (by have := E06.size; omega)] at ht
            exact ⟨t, ht⟩
          have hfin := h103'.cong (F' := noteF H.files T.nodes) (M' := noteM H.marks T.nodes) (E' := noteE H.entries T.nodes) gF' (noteF_nd _ _ h.fil.nd) (fun k => ?_) ?_ gE3 nE3
          · exact k own3 le3 lf' l4 w103 Ew (fun b hb' => by have := E06.size; rw [q2 b (by omega), ho2 b (by omega), ho b (by omega)]) hfin
          · show aget (noteM H.marks T.nodes) k = aget M' k
            have e1 : ∀ (Ms : List (Int × Mark)), aget (Ms.map fun p => (p.1, markN T.nodes p.1 p.2)) k = (aget Ms k).map fun m => markN T.nodes k m := by
              intro Ms
              induction Ms with
              | nil => rfl
              | cons q r ih =>
                obtain ⟨a, b⟩ := q
                simp only [List.map_cons, aget]
                split
                · rename_i e; subst e; rfl
                · exact ih
            rw [noteM, e1, gM]
            cases hx : aget H.marks k with
            | none => rfl
            | some m => simp only [Option.map_some]; rw [pick_in (hkM k (key_of_aget hx))]
          · have : (noteM H.marks T.nodes).map (·.1) = H.marks.map (·.1) := by simp [noteM, List.map_map, Function.comp_def]
            rw [this]
            exact h.mar.nd
        · rintro seen l4 _ w102 ⟨n, m⟩ w104 again4 hi4 ⟨E102, hL102, s102, M', h102, gM⟩ hp4 hns4 hi4' hEr4 hag4
          have h104 : HistAt w104 own3 { m := some (w93.heap.size, n :: seen) } hb tp X le3 lf' l4 { H with files := F', entries := E3, marks := M' } := HistAt.stepM h102 hEr4 hi4'
          have E104 : Eff (fun b => ∃ t, own' b = some t) w9 w104 := E102.fresh hEr4 (by omega)
          have s104 := hEr4.size
          have hL104 := hL102.kept hEr4 (show ¬ b1 = w93.heap.size by omega)
          have hmk : aget H.marks n = some m := by
            have h1 := aget_of_mem (k := n) (v := m) (h102.mar.map.map.nodup keyI) hp4
            have h2 := h102.mar.eq n
            rw [h1] at h2
            have h3 := gM n
            cases hx : aget H.marks n with
            | none => rw [hx] at h3; rw [h3] at h2; cases h2
            | some m' =>
              rw [hx] at h3
              simp only [Option.map_some, pick_out hns4] at h3
              rw [h3] at h2
              exact h2.symm
          have hlk : linkT T.nodes n = (aget L n).getD 0 := by rw [gL']; rfl
          refine newP_at fun b107 w108 e107 a107 E107 => ?_
          refine stN_all a107 rfl rfl fun w109 a109 E109 => ?_
          have Ex : Eff No w104 w109 := E107.fresh E109 (by omega)
          have sx := Ex.size
          have l107 := a107.lt
          refine ⟨fun _ w' => Eff (fun b => b = b107) w109 w' ∧ At w' b107 (.cells #[.bool m.1, .bool (m.2.1 && decide (linkT T.nodes n > 0)), .bool m.2.2] 82 (0, 0)), ?_, ?_⟩
          · refine ldP_at m.2.1 a109 rfl ?_
            refine cnd_intro (fun hq => ?_) (fun hq => ?_)
            · refine ⟨_, MapO.int1 keyI und65 (hL104.kept0 Ex).o n, ?_⟩
              refine stP_at (i := 1) a109 (by simp) rfl fun w115 a115 E115 => ⟨E115, ?_⟩
              rw [hq, Bool.true_and, hlk]
              exact a115
            · refine stP_at (i := 1) a109 (by simp) rfl fun w115 a115 E115 => ⟨E115, ?_⟩
              rw [hq, Bool.false_and]
              exact a115
          rintro _ w112 ⟨E112, a112⟩
          have Ey : Eff No w104 w112 := Ex.fresh E112 (by omega)
          have sy := E112.size
          -- how it ends
          have fin4 : ∀ w119, Eff (fun b => b = b107) w112 w119 → At w119 b107 (.cells #[.bool m.1, .bool (m.2.1 && decide (linkT T.nodes n > 0)), .bool (m.2.2 && (linkT T.nodes n == 1))] 82 (0, 0)) →
              ldP (.map) ⟨hb, 3, none⟩ w119.drew fun x121 => ldA [.bool, .bool, .bool] ⟨b107, 0, none⟩ w119.drew fun c122 =>
                runU Tryz.prog (Instr.mapUpdate 71 (.map x121) (.int .i64 n) (.agg #[(.bool c122.1), (.bool c122.2.1), (.bool c122.2.2)])) w119.drew fun w123 => again4 () w123 := by
            intro w119 E119 a119
            have Ez : Eff No w104 w119.drew := (Ey.fresh E119 (by omega)).thenDrew
            have h119 := h104.kept0 Ez
            refine ldP_at (some X.mb) h119.top rfl ?_
            refine ldA_all (markN T.nodes n m) a119.drew ?_
            obtain ⟨w123, u1, u2, u3⟩ := h119.putMark (n := n) (markN T.nodes n m) (.inr (List.mem_map.2 ⟨(n, m), hp4, rfl⟩))
            refine ⟨w123, u1, hag4 _ () w123 (aset_keys _ (List.mem_map.2 ⟨(n, m), hp4, rfl⟩)) u3.mar.map ⟨(E104.thenNo Ez).comp u2 fun b hb' hs => ⟨.marks, ?_⟩, (hL104.kept0 Ez).kept u2 (by rw [o31]; simp), by have := Ez.size; have := u2.size; omega, _, u3, fun k' => ?_⟩⟩
            · have hs' : own3 b = some .marks := hs
              rw [q2 b (by omega), ho2 b (by omega)] at hs'
              exact hs'
            · rw [aget_aset]
              by_cases e : k' = n
              · subst e
                rw [if_pos rfl, hmk]
                simp [pick_in]
              · rw [if_neg e, gM]
                cases aget H.marks k' with
                | none => rfl
                | some m' => simp only [Option.map_some]; rw [pick_cons e]
          refine ldP_at m.2.2 a112 rfl ?_
          refine cnd_intro (fun hq => ?_) (fun hq => ?_)
          · refine ⟨_, MapO.int1 keyI und65 (hL104.kept0 Ey).o n, ?_⟩
            refine stP_at (i := 2) a112 (by simp) rfl fun w119 a119 E119 => ?_
            refine fin4 w119 E119 ?_
            rw [← hlk] at a119
            rw [hq, Bool.true_and]
            exact a119
          · refine stP_at (i := 2) a112 (by simp) rfl fun w124 a124 E124 => ?_
            refine fin4 w124 E124 ?_
            rw [hq, Bool.false_and]
            exact a124
      · rintro ps _ w94 ⟨e, n⟩ again3 ⟨E94, q1, own3, le3, E3, q2, q3, q4⟩ hpm hnps hsub hlt hag3
        have or3 : own3 w85.heap.size = none := (q2 _ (by omega)).trans (h85.own_fresh (Nat.le_refl _))
        have o31 : own3 b1 = none := (q2 _ (by omega)).trans oo1
        have o33 : own3 b3 = none := (q2 _ (by omega)).trans oo3
        refine newP_at fun b130 w131 e130 a130 E130 => ?_
        refine stN_all a130 rfl rfl fun w132 a132 E132 => ?_
        have Ex : Eff No w94 w132 := E130.fresh E132 (by omega)
        have sx := Ex.size
        refine ldA_all e a132 ?_
        have hps0 : aget ps e = none := aget_eq_none.2 hnps
        have hE3e : aget E3 e = aget E' e := by rw [q4, hps0]
        have hlen3 : ((aget E3 e).getD [0]).length < 1000000 := by
          rw [hE3e, gE]
          cases hx : aget H.entries e with
          | none => simp
          | some xs =>
            have := hn.rows _ _ hx
            have h2 := setL_len xs ((aget Rl e).getD 0)
            simp only [Option.map_some, Option.getD_some]
            by_cases hq : e ∈ seen
            · rw [pick_in hq]; omega
            · rw [pick_out hq]; omega
        refine set_spec (q3.kept0 Ex) (.inl rfl) hlen3 fun own4 le4 w135 E135 ho4 _ h135 => ?_
        have hnoS : ∀ b, own3 b = none → ¬ (own3 b = some .entries ∨ own3 b = some (.erow e)) := fun b hb' => by rw [hb']; simp
        have E94' : Eff (fun b => own3 b = some .entries ∨ own3 b = some (.erow e)) w94 w135 := Ex.up.comp E135 fun _ _ h => h
        refine hag3 _ () w135 E94' (hnoS _ or3) (fun b hb' => by cases hb'; exact hnoS _ o33) ⟨E94.comp E94' fun b hb' hs => ?_, q1.kept E94' (hnoS _ o31), own4, le4, _, fun b hb' => (ho4 b (by omega)).trans (q2 b hb'), h135, fun k => ?_⟩
        · rw [q2 b (by omega), ho2 b (by omega)] at hs
          rcases hs with hs | hs <;> exact ⟨_, hs⟩
        · show aget (aset E3 e (setL ((aget E3 e).getD [0]) n)) k = _
          rw [aget_aset]
          simp only [aget]
          by_cases hk : k = e
          · subst hk
            rw [if_pos rfl, if_pos rfl, hE3e]
          · rw [if_neg hk, if_neg fun h' => hk h'.symm, q4]
    · rintro seen l _ w84 p w86 again hi ⟨E84, hL84, hR84, own2, E', ho2, hs2, h84, gE⟩ hp hns hi' hEr hag
      have h86 : HistAt w86 own2 { e := some (w9.heap.size, p.1 :: seen) } hb tp X l lf' lm { H with files := F', entries := E' } := HistAt.stepE h84 hEr hi'
      have E86 : Eff (fun b => ∃ t, own' b = some t) w9 w86 := E84.fresh hEr (Nat.le_refl _)
      have s86 := hEr.size
      have hL86 := hL84.kept hEr (show ¬ b1 = w9.heap.size by omega)
      have hR86 := hR84.kept hEr (show ¬ b3 = w9.heap.size by omega)
      refine newP_at fun b137 w138 e137 a137 E137 => ?_
      refine stN_all a137 rfl rfl fun w139 a139 E139 => ?_
      have Ex : Eff No w86 w139.drew := (E137.fresh E139 (by omega)).thenDrew
      have sx := Ex.size
      refine ldA_all p.1 a139.drew ?_
      refine ldA_all p.1 a139.drew ?_
      refine ⟨_, MapO.int1 keyE und158 (hR86.kept0 Ex).o p.1, ?_⟩
      have hpe : p.1 ∈ E'.map (·.1) := (h84.ent.keys_perm.mem_iff).1 (List.mem_map.2 ⟨p, hp, rfl⟩)
      obtain ⟨xs, hxs⟩ : ∃ xs, aget H.entries p.1 = some xs := by
        obtain ⟨v, hv⟩ := aget_key hpe
        rw [gE] at hv
        cases hx : aget H.entries p.1 with
        | none => rw [hx] at hv; cases hv
        | some xs => exact ⟨xs, rfl⟩
      have hE1 : aget E' p.1 = some xs := by rw [gE, hxs]; simp [pick_out hns]
      refine set_spec (h86.kept0 Ex) (.inr hpe) (by show ((aget E' p.1).getD [0]).length < 1000000; rw [hE1]; have := hn.rows _ _ hxs; simp; omega) fun own3 le3 w144 E144 ho3 hk3 h144 => ?_
      have hkk := hk3 (List.mem_map.2 ⟨p, hp, rfl⟩)
      have s144 := E144.size
      have hnoS : ∀ b, own2 b = none → ¬ (own2 b = some .entries ∨ own2 b = some (.erow p.1)) := fun b hb' => by rw [hb']; simp
      have oo1 : own2 b1 = none := (ho2 b1 (by omega)).trans o1
      have oo3 : own2 b3 = none := (ho2 b3 (by omega)).trans o3
      refine hag le3 () w144 hkk h144.ent.map ⟨(E86.thenNo Ex).comp E144 fun b hb' hs => ?_, (hL86.kept0 Ex).kept E144 (hnoS _ oo1), (hR86.kept0 Ex).kept E144 (hnoS _ oo3), own3, _, fun b hb' => (ho3 b (by omega)).trans (ho2 b hb'), by omega, h144, fun k => ?_⟩
      · rw [ho2 b (by omega)] at hs
        rcases hs with hs | hs <;> exact ⟨_, hs⟩
      · show aget (aset E' p.1 (setL ((aget E' p.1).getD [0]) ((aget Rl p.1).getD 0))) k = _
        rw [aget_aset]
        by_cases e : k = p.1
        · subst e
          rw [if_pos rfl, hE1, hxs]
          simp [pick_in]
        · rw [if_neg e, gE]
          cases aget H.entries k with
          | none => rfl
          | some ys => simp only [Option.map_some]; rw [pick_cons e]

end
end Go.Proofs.YtcpoglgnkedpaaaGreatDoor

/-
  path: parts, Split, Last, Join; tree: long.
-/
namespace Go.Proofs.YtcpoglgnkedpaaaGreatDoor
open Go Go.Vc Go.Proofs

theorem slStrs : SlT Tryz.prog 41 9 1 16 where
  und := by kernel_rfl
  info := by
    obtain ⟨i, h1, h2, h3, h4⟩ := ti9_ok.info
    exact ⟨i, _, h1, h4, h2, h3, rfl⟩

def slash : ByteArray := ⟨#[47]⟩
/-- A path's parts. -/
def keepPart (x : ByteArray) : Bool := !(decide (x = ⟨#[]⟩) || decide (x = ⟨#[46]⟩))
def partsV (p : ByteArray) : List ByteArray := (splitS p).filter keepPart
/-- A path that may be taken apart. -/
def okPath (p : ByteArray) : Bool := Lib.hasPrefix p.data.toList [47] && decide (Lib.indexByte p.data.toList 0 < 0) && (partsV p).all (fun x => decide (x.size ≤ 24)) && decide ((partsV p).length ≤ 20) && decide (p.size ≤ 200)
def joinV (ps : List ByteArray) : ByteArray := slash ++ joinS ps slash

section
variable {w : World}

theorem SClone_spec {s : ByteArray} {K : ByteArray → World → Prop} (hs : s.size ≤ 1000000) (k : ∀ w', Eff No w w' → K s w') : strings_Clone_212 s w K := by
  refine strings_Clone_212_of _ w K ?_
  unfold F212
  exact callP.of Tryz.func229 (by kernel_rfl) (by kernel_rfl) (Tryz.stringslite_Clone s w (by omega)) fun e w' he => ⟨_, he.1, k w' (Eff.of_below he.2)⟩

theorem parts_spec {s : ByteArray} {K : Tup [.one .slice, .one .bool] → World → Prop} (hs : s.size ≤ 1000000) (h24 : ∀ x ∈ partsV s, x.size ≤ 24) (hP : (splitS s).length ≤ 1000000)
    (k : ∀ r w', Eff No w w' → RowAt w' 9 1 r ((partsV s).map kStr) → (∀ b, r.blk = some b → w.heap.size ≤ b) → K (r, decide (((partsV s).length : Int) ≤ 20)) w') : path_parts_176 s w K := by
  refine path_parts_176_of _ w K ?_
  unfold F176
  refine Split_spec hs fun r w2 E2 hr hb => ?_
  have hlen : r.len = (splitS s).length := by simpa using hr.len1
  unfold partsV at k h24
  generalize splitS s = P at hr hlen hP k h24
  refine loopP_count (fun n st w1 => ∃ i : Nat, i ≤ P.length ∧ n = P.length - i ∧ st.2 = (i : Int) ∧ (Eff No w w1 ∧ w2.heap.size ≤ w1.heap.size) ∧ RowAt w1 9 1 r (P.map kStr) ∧ RowAt w1 9 1 st.1 (((P.take i).filter keepPart).map kStr) ∧ (∀ b, st.1.blk = some b → w2.heap.size ≤ b))
    ⟨_, 0, by omega, rfl, rfl, ⟨E2, Nat.le_refl _⟩, hr, by simpa using RowAt.nil, fun b hb => by cases hb⟩ ?_
  rintro n ⟨out', j⟩ w5 ⟨i, hi, rfl, hj, ⟨E5, h25⟩, hr5, ho', hob'⟩
  obtain ⟨out, hout⟩ : ∃ o : Sl, o = out' := ⟨out', rfl⟩
  subst hout
  replace hj : j = (i : Int) := hj
  replace ho : RowAt w5 9 1 out (((P.take i).filter keepPart).map kStr) := ho'
  replace hob : ∀ b, out.blk = some b → w2.heap.size ≤ b := hob'
  subst hj
  have s2 := E2.size
  have hfl : ((P.take i).filter keepPart).length ≤ P.length := Nat.le_trans (List.length_filter_le _ _) (by simp; omega)
  refine cnd_intro (fun hn => ?_) (fun hn => ?_)
  · have hn' : (i : Int) < (r.len : Int) := of_decide_eq_true hn
    have hip : i < P.length := by omega
    refine ⟨by show (0 : Int) ≤ (i : Int); omega, hn', ?_⟩
    obtain ⟨A, hA⟩ := hr5.some (by omega)
    rw [hA]
    refine onSome_some ?_
    have hx : P[i]? = some P[i] := by simp [hip]
    have hc := hr5.cell hA i (kStr P[i]) (by rw [List.getElem?_map, hx]; rfl)
    refine ⟨P[i], by show w5.cell? (A.add (Int.toNat (i : Int) * 1)) = _; rw [Int.toNat_natCast, Nat.mul_one]; exact hc, ?_⟩
    have htake : P.take (i + 1) = P.take i ++ [P[i]] := by rw [List.take_add_one, hx]; rfl
    have hw1 : w64 ((i : Int) + 1) = ((i + 1 : Nat) : Int) := by rw [w64_id] <;> omega
    refine ⟨fun b w1 => w5 = w1 ∧ b = !keepPart P[i], ?_, ?_⟩
    · refine cnd_intro (fun he => ⟨rfl, ?_⟩) (fun he => ⟨rfl, ?_⟩)
      · rw [bytesEq] at he
        simp [keepPart, of_decide_eq_true he]
      · rw [bytesEq] at he ⊢
        simp [keepPart, of_decide_eq_false he]
    rintro b w10 ⟨rfl, rfl⟩
    refine cnd_intro (fun hk => ?_) (fun hk => ?_)
    · refine ⟨_, ?_, i + 1, hip, rfl, hw1, ⟨E5, h25⟩, hr5, ?_, hob⟩
      · omega
      · rw [htake, List.filter_append]
        have : keepPart P[i] = false := by simpa using hk
        simp only [List.filter_cons, this, Bool.false_eq_true, if_false, List.filter_nil, List.append_nil]
        exact ho
    · have hkp : keepPart P[i] = true := by simpa using hk
      have h24' : P[i].size ≤ 24 := h24 _ (List.mem_filter.2 ⟨List.getElem_mem hip, hkp⟩)
      refine cnd_f (by simp; omega) ?_
      refine SClone_spec (by omega) fun w12 E12 => ?_
      refine newP_at fun b13 w14 e13 a13 E13 => ?_
      have hol : out.len = ((P.take i).filter keepPart).length := by simpa using ho.len1
      have E514 := E12.trans E13
      have s514 := E514.size
      have s5 := E5.size
      obtain ⟨s', w16, q1, q2, q3, q4, q5⟩ := append_row (ty := 41) slStrs (ho.kept0 E514) (x := ⟨some ⟨b13, 0, none⟩, 1, 1⟩) (news := [kStr P[i]]) (RowAt.new a13 rfl) (by simp [kStr, Value.oneCell']) (by simp [hol, maxLen]; omega) (by simp [hol]; omega)
      have q4' : Eff No w w16 := (E5.trans E514).comp q4 fun b hb e => by have := hob b e; omega
      have hrb : ∀ b, r.blk = some b → b < w2.heap.size := fun b hb => hr.lt hb
      refine ⟨s', w16, q1, _, ?_, i + 1, hip, rfl, hw1, ⟨q4', Nat.le_trans h25 (Nat.le_trans s514 q4.size)⟩, (hr5.kept0 E514).kept q4 fun b h1 h2 => ?_, ?_, fun b h1 => ?_⟩
      · omega
      · have := hrb b h1
        have := hob b h2
        omega
      · rw [htake, List.filter_append]
        simp only [List.filter_cons, hkp, if_true, List.filter_nil, List.map_append, List.map_cons, List.map_nil]
        exact q2
      · rcases q5 with q5 | q5
        · rw [q5] at h1; exact hob b h1
        · rw [q5] at h1; cases h1
          omega
  · have hn' : ¬ (i : Int) < (r.len : Int) := of_decide_eq_false hn
    have hip : i = P.length := by omega
    subst hip
    rw [List.take_length] at ho
    have hol : out.len = (P.filter keepPart).length := by simpa using ho.len1
    show K (out, decide ((out.len : Int) ≤ 20)) w5
    rw [hol]
    exact k out w5 E5 ho fun b hb => by have := hob b hb; omega

theorem PSplit_spec {p : ByteArray} {K : Tup [.one .slice, .one (.int .i64)] → World → Prop} (hp : okPath p = true)
    (k : ∀ r w', Eff No w w' → RowAt w' 9 1 r ((partsV p).map kStr) → (∀ b, r.blk = some b → w.heap.size ≤ b) → K (r, 0) w') : path_Split_151 p w K := by
  simp only [okPath, Bool.and_eq_true, decide_eq_true_eq, List.all_eq_true] at hp
  obtain ⟨⟨⟨⟨h1, h2⟩, h3⟩, h4⟩, h5⟩ := hp
  refine path_Split_151_of _ w K ?_
  unfold F151
  refine ⟨fun b w1 => w = w1 ∧ b = false, ?_, ?_⟩
  · refine HasPrefix_spec (cnd_f (by simpa using h1) ?_)
    refine Contains_spec ⟨rfl, ?_⟩
    simpa using h2
  rintro b w1 ⟨rfl, rfl⟩
  refine cnd_f rfl ?_
  have hsz : p.size = p.data.toList.length := Lib.size_eq p
  have hcount : p.data.toList.count 47 ≤ p.data.toList.length := List.count_le_length
  refine parts_spec (by omega) h3 (by have := splitL_len 47 p.data.toList; simp only [splitS, List.length_map]; omega) fun r w2 E2 hr hb => ?_
  refine cnd_f (by simp; omega) ?_
  refine cnd_f (by simp; omega) ?_
  exact k r w2 E2 hr hb

theorem PJoin_spec {s : Sl} {ps : List ByteArray} {K : ByteArray → World → Prop} (h : RowAt w 9 1 s (ps.map kStr)) (hN : ps.length ≤ 1000000) (hl : (joinS ps slash).size ≤ 1000000) (k : ∀ w', Eff No w w' → K (joinV ps) w') : path_Join_181 s w K := by
  refine path_Join_181_of _ w K ?_
  unfold F181
  refine Join_spec h hN hl fun w2 E2 => ⟨?_, k w2 E2⟩
  show (((1 + (joinS ps slash).size : Nat)) : Int) ≤ 9223372036854775807
  omega

/-- Is a path too long? -/
def longV (ps : List ByteArray) : Bool := decide ((ps.length : Int) > 20) || decide (((joinV ps).size : Int) > 200)

theorem long_spec {s : Sl} {ps : List ByteArray} {K : Bool → World → Prop} (h : RowAt w 9 1 s (ps.map kStr)) (hN : ps.length ≤ 1000000) (hl : (joinS ps slash).size ≤ 1000000) (k : ∀ w', Eff No w w' → K (longV ps) w') : tree_long_170 s w K := by
  refine tree_long_170_of _ w K ?_
  unfold F170
  have hlen : s.len = ps.length := by simpa using h.len1
  refine cnd_intro (fun hn => ?_) (fun hn => ?_)
  · have := k w (Eff.refl _ _)
    rw [longV] at this
    rw [hlen] at hn
    rw [hn] at this
    exact this
  · refine PJoin_spec h hN hl fun w2 E2 => ?_
    have := k w2 E2
    rw [longV] at this
    rw [hlen] at hn
    rw [hn, Bool.false_or] at this
    exact this

/-- A path without its last part, and that. -/
theorem Last_spec {p : ByteArray} {ini : List ByteArray} {l : ByteArray} {K : Tup [.one .str, .one .str, .one (.int .i64)] → World → Prop} (hp : okPath p = true) (hl : partsV p = ini ++ [l]) (hd : l ≠ ⟨#[46, 46]⟩) (hj : (joinS ini slash).size ≤ 1000000)
    (k : ∀ w', Eff No w w' → K (joinV ini, l, 0) w') : path_Last_142 p w K := by
  refine path_Last_142_of _ w K ?_
  unfold F142
  refine PSplit_spec hp fun r w2 E2 hr hb => ?_
  have hlen : r.len = (partsV p).length := by simpa using hr.len1
  have h20 : (partsV p).length ≤ 20 := by
    simp only [okPath, Bool.and_eq_true, decide_eq_true_eq] at hp
    exact hp.1.2
  have hil : (partsV p).length = ini.length + 1 := by rw [hl]; simp
  have hw : w64 ((r.len : Int) - 1) = (ini.length : Int) := by rw [w64_id] <;> omega
  refine cnd_f (by simp) ?_
  simp only
  rw [hw]
  refine cnd_f (by simp) ?_
  refine ⟨by omega, by omega, ?_⟩
  obtain ⟨A, hA⟩ := hr.some (by omega)
  rw [hA]
  refine onSome_some ?_
  have hget : (partsV p)[ini.length]? = some l := by rw [hl]; simp
  have hc := hr.cell hA ini.length (kStr l) (by rw [List.getElem?_map, hget]; rfl)
  have e1 : Int.toNat (ini.length : Int) * 1 = ini.length := by simp
  rw [e1]
  refine ⟨l, hc, ?_⟩
  refine cnd_f (by rw [bytesEq]; simpa using hd) ?_
  refine ⟨⟨by omega, ?_⟩, Int.le_refl _, ?_, ?_⟩
  · have := hr.2.1; omega
  · simp [hiOf]
  refine ⟨by omega, by omega, ?_⟩
  refine onSome_some ?_
  refine ⟨l, hc, ?_⟩
  have ht := hr.take (hi := ini.length) (by omega)
  have ht' : RowAt w2.drew 9 1 ⟨r.a, ini.length, r.cap⟩ (ini.map kStr) := by
    have : ((partsV p).map kStr).take (ini.length * 1) = ini.map kStr := by rw [hl]; simp
    rw [this] at ht
    exact ht.kept0 (Eff.drew w2)
  have hsl : (⟨if r.cap = Int.toNat 0 then r.a else r.a.map (·.add (Int.toNat 0 * 1)), hiOf (some (ini.length : Int)) r.len - Int.toNat 0, r.cap - Int.toNat 0⟩ : Sl) = ⟨r.a, ini.length, r.cap⟩ := by
    rw [hA]
    simp [hiOf, Addr.add]
  rw [hsl]
  refine PJoin_spec ht' (by omega) hj fun w9 E9 => ⟨?_, k w9 (E2.thenDrew.trans E9)⟩
  exact (hr.kept0 ((Eff.drew w2).trans E9)).cell hA ini.length (kStr l) (by rw [List.getElem?_map, hget]; rfl)

end
end Go.Proofs.YtcpoglgnkedpaaaGreatDoor

/-
  may: Contains, Or, youngest, node, parted.
-/
namespace Go.Proofs.YtcpoglgnkedpaaaGreatDoor
open Go Go.Vc Go.Proofs

section
variable {w : World}

/-- The place of an element; -1. -/
def indexV : List Int → Int → Nat → Int
  | [], _, _ => -1
  | x :: r, s, i => if s = x then (i : Int) else indexV r s (i + 1)

theorem indexV_mem (xs : List Int) (s : Int) (i : Nat) : decide (indexV xs s i ≥ 0) = decide (s ∈ xs) := by
  induction xs generalizing i with
  | nil => simp [indexV]
  | cons x r ih =>
    simp only [indexV]
    split
    · rename_i e; simp [e]
    · rename_i e; rw [ih]; simp [e]

theorem Index65_spec {s : Sl} {xs : List Int} {v : Int} {K : Int → World → Prop} (h : RowAt w 3 1 s (xs.map kInt)) (hl : xs.length ≤ 1000000) (k : K (indexV xs v 0) w) : slices_Index_65 s v w K := by
  refine slices_Index_65_of _ _ w K ?_
  unfold F65
  have hlen : s.len = xs.length := by simpa using h.len1
  refine loopP_count (fun n st w1 => w = w1 ∧ ∃ i : Nat, st = (i : Int) ∧ i ≤ xs.length ∧ n = xs.length - i ∧ indexV (xs.drop i) v i = indexV xs v 0) ⟨_, rfl, 0, rfl, by omega, rfl, rfl⟩ ?_
  rintro n st w1 ⟨rfl, i, rfl, hi, rfl, hx⟩
  refine cnd_intro (fun hn => ?_) (fun hn => ?_)
  · have hn' : (i : Int) < (s.len : Int) := of_decide_eq_true hn
    have hip : i < xs.length := by omega
    refine ⟨by omega, hn', ?_⟩
    have hg : xs[i]? = some xs[i] := by simp [hip]
    refine ldP_row (l := .int .i64) xs[i] h (by rw [Int.toNat_natCast, List.getElem?_map, hg]; rfl) ?_
    have hd : xs.drop i = xs[i] :: xs.drop (i + 1) := List.drop_eq_getElem_cons hip
    rw [hd] at hx
    simp only [indexV] at hx
    refine cnd_intro (fun hc => ?_) (fun hc => ?_)
    · rw [if_pos (by simpa using hc)] at hx
      rw [hx]; exact k
    · rw [if_neg (by simpa using hc)] at hx
      have hw : w64 ((i : Int) + 1) = ((i + 1 : Nat) : Int) := by rw [w64_id] <;> omega
      exact ⟨_, by omega, rfl, i + 1, hw, hip, rfl, hx⟩
  · have hn' : ¬ (i : Int) < (s.len : Int) := of_decide_eq_false hn
    have hip : i = xs.length := by omega
    subst hip
    rw [List.drop_length] at hx
    rw [← hx] at k
    exact k

theorem Contains29_spec {s : Sl} {xs : List Int} {v : Int} {K : Bool → World → Prop} (h : RowAt w 3 1 s (xs.map kInt)) (hl : xs.length ≤ 1000000) (k : K (decide (v ∈ xs)) w) : slices_Contains_29 s v w K := by
  refine slices_Contains_29_of _ _ w K ?_
  unfold F29
  refine Index65_spec h hl ?_
  rw [indexV_mem]
  exact k

theorem Or121_spec {s : Sl} {a b : Int} {K : Int → World → Prop} (h : RowAt w 3 1 s ([a, b].map kInt)) (k : K (if a ≠ 0 then a else b) w) : cmp_Or_121 s w K := by
  refine cmp_Or_121_of _ w K ?_
  unfold F121
  have hlen : s.len = 2 := by simpa using h.len1
  refine loopP_count (fun n st w1 => w = w1 ∧ ((n = 2 ∧ st = (0 : Int)) ∨ (n = 1 ∧ st = (1 : Int) ∧ a = 0) ∨ (n = 0 ∧ st = (2 : Int) ∧ a = 0 ∧ b = 0))) ⟨2, rfl, .inl ⟨rfl, rfl⟩⟩ ?_
  rintro n st w1 ⟨rfl, ⟨rfl, rfl⟩ | ⟨rfl, rfl, ha⟩ | ⟨rfl, rfl, ha, hb⟩⟩
  · refine cnd_t (by rw [hlen]; rfl) ⟨by omega, by rw [hlen]; omega, ?_⟩
    refine ldP_row (l := .int .i64) a h rfl ?_
    refine cnd_intro (fun hc => ?_) (fun hc => ?_)
    · rw [if_pos (by simpa using hc)] at k; exact k
    · exact ⟨1, by omega, rfl, .inr (.inl ⟨rfl, rfl, by simpa using hc⟩)⟩
  · refine cnd_t (by rw [hlen]; rfl) ⟨by omega, by rw [hlen]; omega, ?_⟩
    refine ldP_row (l := .int .i64) b h rfl ?_
    refine cnd_intro (fun hc => ?_) (fun hc => ?_)
    · rw [if_neg (by simpa using ha)] at k; exact k
    · exact ⟨0, by omega, rfl, .inr (.inr ⟨rfl, rfl, ha, by simpa using hc⟩)⟩
  · refine cnd_f (by rw [hlen]; rfl) ?_
    rw [if_neg (by simpa using ha), hb] at k; exact k

end

section
variable {w : World} {own : HOwner} {it : Its} {hb : Nat} {tp : Option Addr} {X : HistX} {le : List (Ent × Sl)} {lf : List (Int × Option Addr)} {lm : List (Int × Mark)} {H : HistV}

/-- The youngest node of a number. -/
def youngV (N : List (Int × Int)) (number : Int) : Int := N.foldr (fun p m => if p.2 = number then maxI m p.1 else m) 0

theorem maxI_comm (a b c : Int) : maxI (maxI a b) c = maxI (maxI a c) b := by
  unfold maxI
  repeat' split
  all_goals omega

theorem youngV_perm {N N' : List (Int × Int)} (h : N.Perm N') (number : Int) : youngV N number = youngV N' number := by
  unfold youngV
  refine h.foldr_eq' (fun x _ y _ z => ?_) 0
  split <;> split <;> first | rfl | exact maxI_comm _ _ _

theorem youngest_spec {number : Int} {K : Int → World → Prop} (h : HistAt w own it hb tp X le lf lm H) (k : ∀ w', Eff No w w' → K (youngV H.numbers number) w') : may_History_youngest_122 (some ⟨hb, 0, none⟩) number w K := by
  refine may_History_youngest_122_of _ _ w K ?_
  unfold F122
  refine ldP_at (some X.nb) h.top rfl ?_
  refine range_ro und65 keyI h.num.o (fun ps s w1 => Eff No w w1 ∧ s = youngV ps number) (fun w1 E => ⟨E, rfl⟩) ?_ ?_ ?_
  · rintro ps s w1 w2 ⟨E, hs⟩ E'
    exact ⟨E.fresh E' (Nat.le_refl _), hs⟩
  · rintro ps s w1 ⟨E, hs⟩ hp
    rw [hs, youngV_perm hp]
    exact k w1 E
  · rintro ps s w1 p again ⟨E, hs⟩ _ _ _ _ hag
    refine cnd_intro (fun hn => ?_) (fun hn => ?_)
    · refine hag No _ w1 (Eff.refl _ _) (fun h => h) (fun _ _ h => h) ⟨E, ?_⟩
      show maxI s p.1 = youngV (p :: ps) number
      rw [hs]
      unfold youngV
      rw [List.foldr_cons, if_pos (by simpa using hn)]
    · refine hag No _ w1 (Eff.refl _ _) (fun h => h) (fun _ _ h => h) ⟨E, ?_⟩
      rw [hs]
      unfold youngV
      rw [List.foldr_cons, if_neg (by simpa using hn)]

/-- The node of a number. -/
def nodeV (N : List (Int × Int)) (number : Int) : Int := if number < 1 then 0 else if youngV N number ≠ 0 then youngV N number else youngV N 0

theorem node_spec {number : Int} {K : Int → World → Prop} (h : HistAt w own it hb tp X le lf lm H) (k : ∀ w', Eff No w w' → K (nodeV H.numbers number) w') : may_History_node_62 (some ⟨hb, 0, none⟩) number w K := by
  refine may_History_node_62_of _ _ w K ?_
  unfold F62
  refine cnd_intro (fun hn => ?_) (fun hn => ?_)
  · have := k w (Eff.refl _ _)
    rw [nodeV, if_pos (of_decide_eq_true hn)] at this
    exact this
  · refine youngest_spec h fun w2 E2 => ?_
    refine youngest_spec (h.kept0 E2) fun w4 E4 => ?_
    refine newP_at fun b5 w6 e5 a5 E6 => ?_
    refine Or121_spec (a := youngV H.numbers number) (b := youngV H.numbers 0) (RowAt.new a5 rfl) ?_
    have := k w6 ((E2.trans E4).trans E6)
    rw [nodeV, if_neg (of_decide_eq_false hn)] at this
    exact this

end

/-! ### parted -/
/-- The path of the directory in which a path lies, and the name there. -/
def partedV (p : ByteArray) : ByteArray × ByteArray × Bool :=
  let i := Lib.lastIndexByte p 47
  if i < 0 ∨ i = (p.size : Int) - 1 then (⟨#[]⟩, ⟨#[]⟩, false)
  else if i = 0 then (slash, p.extract 1 p.size, true)
  else (p.extract 0 i.toNat, p.extract (i.toNat + 1) p.size, !decide (p.extract 0 i.toNat = slash))

theorem lastIdx_lt (s : ByteArray) (c : Int) : Lib.lastIndexByte s c < (s.size : Int) ∨ Lib.lastIndexByte s c = -1 := by
  rcases Lib.lastIdx_spec s c s.size with ⟨h, _⟩ | ⟨i, h1, h2, _⟩
  · exact .inr h
  · left
    show Lib.lastIdx s c s.size < _
    rw [h2]; omega

theorem parted_spec {w : World} {p : ByteArray} {K : Tup [.one .str, .one .str, .one .bool] → World → Prop} (hs : p.size ≤ 1000000) (k : ∀ w', Eff No w w' → K (partedV p) w') : may_parted_51 p w K := by
  refine may_parted_51_of _ w K ?_
  unfold F51
  refine LastIndexByte_spec (by omega) ?_
  have hlt := lastIdx_lt p 47
  have hp : partedV p = (if Lib.lastIndexByte p 47 < 0 ∨ Lib.lastIndexByte p 47 = (p.size : Int) - 1 then (⟨#[]⟩, ⟨#[]⟩, false)
    else if Lib.lastIndexByte p 47 = 0 then (slash, p.extract 1 p.size, true)
    else (p.extract 0 (Lib.lastIndexByte p 47).toNat, p.extract ((Lib.lastIndexByte p 47).toNat + 1) p.size, !decide (p.extract 0 (Lib.lastIndexByte p 47).toNat = slash))) := rfl
  rw [hp] at k
  generalize Lib.lastIndexByte p 47 = i at hlt k
  have hw : w64 ((p.size : Int) - 1) = (p.size : Int) - 1 := by rw [w64_id] <;> omega
  rw [hw]
  refine ⟨fun b w' => w = w' ∧ b = decide (i < 0 ∨ i = (p.size : Int) - 1), ?_, ?_⟩
  · refine cnd_intro (fun h1 => ⟨rfl, ?_⟩) (fun h1 => ⟨rfl, ?_⟩)
    · have := of_decide_eq_true h1
      simp [this]
    · have := of_decide_eq_false h1
      simp only [this, false_or]
      rfl
  rintro b w' ⟨rfl, rfl⟩
  refine cnd_intro (fun h1 => ?_) (fun h1 => ?_)
  · rw [if_pos (of_decide_eq_true h1)] at k
    exact k w (Eff.refl _ _)
  · have h1' := of_decide_eq_false h1
    rw [if_neg h1'] at k
    refine cnd_intro (fun h2 => ?_) (fun h2 => ?_)
    · have h2' : i = 0 := by simpa using h2
      subst h2'
      rw [if_pos rfl] at k
      refine ⟨trivial, by omega, by simp [hiOf]; omega, ?_⟩
      exact k _ (Eff.drew w)
    · have h2' : ¬ i = 0 := by simpa using h2
      rw [if_neg h2'] at k
      have hi0 : 0 < i := by omega
      refine ⟨⟨by omega, by omega⟩, Int.le_refl _, by simp only [hiOf]; omega, ?_⟩
      have hw2 : w64 (i + 1) = i + 1 := by rw [w64_id] <;> omega
      rw [hw2]
      refine ⟨trivial, by omega, by simp only [hiOf]; omega, ?_⟩
      refine ⟨⟨by omega, by omega⟩, Int.le_refl _, by simp only [hiOf]; omega, ?_⟩
      have e1 : (i + 1).toNat = i.toNat + 1 := by omega
      show K (p.extract 0 i.toNat, p.extract (i + 1).toNat p.size, !((p.extract 0 i.toNat).toList == (⟨#[47]⟩ : ByteArray).toList)) w.drew
      rw [bytesEq, e1]
      exact k _ (Eff.drew w)

end Go.Proofs.YtcpoglgnkedpaaaGreatDoor

/-
  may: seen, fits.
-/
namespace Go.Proofs.YtcpoglgnkedpaaaGreatDoor
open Go Go.Vc Go.Proofs

abbrev nLs : List Leaf := [.str, .int .i64, .int .i64, .int .i64, .slice]
/-- A node as it is seen: its path, number, kind, links, bytes. -/
abbrev NodeC := Carr nLs
abbrev NodesAt (w : World) (s : Sl) (ns : List NodeC) : Prop := RowAt w 30 5 s (ns.flatMap (Carr.cells nLs))

def kindF (F : List (Int × FileV)) (n : Int) : Option Int := (aget F n).map (·.kind)

/-- The nodes of all paths. -/
def seenL (H : HistV) : List NodeC → List (Str × Int) → Option (List (Str × Int))
  | [], a => if (aget a slash).getD 0 = 1 then some a else none
  | x :: r, a => if (aget a x.1).isSome = true ∨ nodeV H.numbers x.2.1 = 0 ∨ kindF H.files (nodeV H.numbers x.2.1) ≠ some x.2.2.1 then none else seenL H r (aset a x.1 (nodeV H.numbers x.2.1))

section
variable {w : World} {own : HOwner} {it : Its} {hb : Nat} {tp : Option Addr} {X : HistX} {le : List (Ent × Sl)} {lf : List (Int × Option Addr)} {lm : List (Int × Mark)} {H : HistV}

theorem seen_spec {s : Sl} {ns : List NodeC} {K : Tup [.one .map, .one .bool] → World → Prop} (h : HistAt w own it hb tp X le lf lm H) (hn : NodesAt w s ns) (hl : ns.length ≤ 1000000)
    (k0 : seenL H ns [] = none → ∀ w', Eff No w w' → K (none, false) w') (k1 : ∀ a, seenL H ns [] = some a → ∀ b w', Eff No w w' → w.heap.size ≤ b → MapF sT.mk iT.mk w' b a → K (some b, true) w') : may_History_seen_27 (some ⟨hb, 0, none⟩) s w K := by
  refine may_History_seen_27_of _ _ w K ?_
  unfold F27
  refine newP_at fun b1 w2 e1 a1 E1 => ?_
  have hlen : s.len = ns.length := RowAt.lenN (ls := nLs) (by decide) hn
  refine loopP_count (fun n st w1 => ∃ i : Nat, st = (i : Int) ∧ i ≤ ns.length ∧ n = ns.length - i ∧ Eff No w w1 ∧ ∃ a, MapF sT.mk iT.mk w1 b1 a ∧ seenL H ns [] = seenL H (ns.drop i) a) ⟨_, 0, rfl, by omega, rfl, E1, [], MapF.new a1, rfl⟩ ?_
  rintro n st w5 ⟨i, rfl, hi, rfl, E5, a, hm, hs⟩
  have hw : w64 ((i : Int) + 1) = ((i + 1 : Nat) : Int) := by rw [w64_id] <;> omega
  refine cnd_intro (fun hc => ?_) (fun hc => ?_)
  · have hc' : (i : Int) < (s.len : Int) := of_decide_eq_true hc
    have hip : i < ns.length := by omega
    refine ⟨by omega, hc', ?_⟩
    have hg : ns[i]? = some ns[i] := by simp [hip]
    have hd : ns.drop i = ns[i] :: ns.drop (i + 1) := List.drop_eq_getElem_cons hip
    rw [hd] at hs
    generalize ns[i] = x at hg hs
    refine ldA_row (ls := nLs) (by decide) (hn.kept0 E5) (by rw [Int.toNat_natCast]; exact hg) ?_
    refine newP_at fun b8 w9 e8 a8 E8 => ?_
    refine stN_all a8 rfl rfl fun w10 a10 E10 => ?_
    have E510 : Eff No w5 w10 := E8.fresh E10 (by omega)
    refine ldP_at x.2.1 a10 rfl ?_
    refine node_spec (h.kept0 (E5.trans E510)) fun w13 E13 => ?_
    have a13 := E13.at0 a10
    refine ldP_at x.1 a13 rfl ?_
    have E513 := E510.trans E13
    have m13 := hm.kept0 E513
    refine ⟨_, MapO.int2 keyS und66 m13.o x.1, ?_⟩
    have E0 := (E5.trans E513).thenDrew
    have h13 := h.kept0 E0
    simp only [seenL] at hs
    refine ⟨fun b w' => w13.drew = w' ∧ b = decide ((aget a x.1).isSome = true ∨ nodeV H.numbers x.2.1 = 0 ∨ kindF H.files (nodeV H.numbers x.2.1) ≠ some x.2.2.1), ?_, ?_⟩
    · refine cnd_intro (fun q1 => ⟨rfl, ?_⟩) (fun q1 => ?_)
      · simp only at q1
        simp [q1]
      · simp only at q1
        refine cnd_intro (fun q2 => ⟨rfl, ?_⟩) (fun q2 => ?_)
        · have : nodeV H.numbers x.2.1 = 0 := by simpa using q2
          simp [this]
        · have q2' : ¬ nodeV H.numbers x.2.1 = 0 := by simpa using q2
          refine ldP_at (some X.fb) h13.top rfl ?_
          cases hf : aget H.files (nodeV H.numbers x.2.1) with
          | none =>
            refine ⟨none, h13.fil.lookNone hf, ?_⟩
            refine cnd_t rfl ⟨rfl, ?_⟩
            simp [kindF, hf]
          | some f =>
            obtain ⟨fb, ss, bb, lb, l1, fA, _⟩ := h13.fil.look hf
            refine ⟨_, l1, ?_⟩
            refine cnd_f rfl ?_
            refine ldP_at (some X.fb) h13.top rfl ?_
            refine ⟨_, l1, ?_⟩
            refine ldP_at f.kind fA.cells rfl ?_
            refine ldP_at x.2.2.1 a13.drew rfl ?_
            refine ⟨rfl, ?_⟩
            simp only [kindF, hf, q1, q2', Option.map_some]
            simp
            rfl
    rintro b w18 ⟨rfl, rfl⟩
    refine cnd_intro (fun q => ?_) (fun q => ?_)
    · rw [if_pos (of_decide_eq_true q)] at hs
      exact k0 hs _ E0
    · rw [if_neg (of_decide_eq_false q)] at hs
      refine ldP_at x.1 a13.drew rfl ?_
      obtain ⟨w29, r1, r2, r3⟩ := (m13.kept0 (Eff.drew w13)).put keyS und66 x.1 (nodeV H.numbers x.2.1)
      exact ⟨w29, r1, _, by omega, i + 1, hw, hip, rfl, E0.fresh r3 (by omega), _, r2, hs⟩
  · have hc' : ¬ (i : Int) < (s.len : Int) := of_decide_eq_false hc
    have hip : i = ns.length := by omega
    subst hip
    rw [List.drop_length] at hs
    simp only [seenL] at hs
    refine ⟨_, MapO.int1 keyS und66 hm.o slash, ?_⟩
    refine cnd_intro (fun q => ?_) (fun q => ?_)
    · rw [if_neg (by simpa using q)] at hs
      exact k0 hs _ E5
    · rw [if_pos (by simpa using q)] at hs
      exact k1 a hs b1 w5 E5 (by omega) hm

/-! ### fits -/

/-- What 'holds' tells of a file. -/
def HoldsOk (own : HOwner) (n : Int) (f : FileV) (data : Sl) (w : World) (r : Bool) : Prop :=
  ∀ w1 fb ss bb lb (K : Bool → World → Prop), Eff No w w1 → FileAt w1 own n fb ss bb lb f → (∀ w', Eff No w1 w' → K r w') → may_file_holds_64 (some ⟨fb, 0, none⟩) data w1 K

/-- Of a map of numbers: how many have a number. -/
def manyC (a : List (Str × Int)) (n : Int) : Int := w64 ((a.countP fun p => p.2 == n : Nat) : Int)

/-- May a path be seen so: its directory. -/
def dirV (H : HistV) (a : List (Str × Int)) (p : Str) (n : Int) : Bool :=
  let q := partedV p
  let d := (aget a q.1).getD 0
  q.2.2 && !(d == 0) && (kindF H.files d == some 2) && decide (n ∈ (aget H.entries (d, q.2.1)).getD [0])

def fitsV (H : HistV) (hold : FileV → NodeC → Bool) (a : List (Str × Int)) (x : NodeC) : Bool :=
  let n := (aget a x.1).getD 0
  match aget H.files n with
  | none => false
  | some f => (decide (x.1 = slash) || dirV H a x.1 n) && (if f.kind = 2 then x.2.2.2.1 == 1 && ((x.2.2.2.2.len : Int) == 0) else x.2.2.2.1 == manyC a n && hold f x)

theorem values_short (h : HistAt w own it hb tp X le lf lm H) (e : Ent) : ((aget H.entries e).getD [0]).length ≤ 1000000 := by
  cases hE : aget H.entries e with
  | none => simp
  | some xs =>
    obtain ⟨_, _, _, _, h4, _⟩ := h.ent.som e xs hE
    exact h4

theorem fits_spec {x : NodeC} {a : List (Str × Int)} {am mm : Nat} {M : List (Int × Int)} {hold : FileV → NodeC → Bool} {f : FileV} {K : Bool → World → Prop} (h : HistAt w own it hb tp X le lf lm H) (hx : x.1.size ≤ 1000000) (ha : MapF sT.mk iT.mk w am a) (hm : MapF iT.mk iT.mk w mm M) (hM : ∀ n, (aget M n).getD 0 = manyC a n)
    (hf : aget H.files ((aget a x.1).getD 0) = some f) (hk3 : f.kind ≠ 3) (hdir : ∀ d, (aget a (partedV x.1).1).getD 0 = d → d ≠ 0 → ∃ g, aget H.files d = some g) (hh : f.kind ≠ 2 → HoldsOk own ((aget a x.1).getD 0) f x.2.2.2.2 w (hold f x))
    (k : ∀ w', Eff No w w' → K (fitsV H hold a x) w') : may_History_fits_28 (some ⟨hb, 0, none⟩) x (some am) (some mm) w K := by
  refine may_History_fits_28_of _ _ _ _ w K ?_
  unfold F28
  refine newP_at fun b1 w2 e1 a1 E1 => ?_
  refine ldP_at x.1 a1 rfl ?_
  refine ⟨_, MapO.int1 keyS und66 (ha.kept0 E1).o x.1, ?_⟩
  have h2 := h.kept0 E1
  refine ldP_at (some X.fb) h2.top rfl ?_
  obtain ⟨fb, ss, bb, lb, l1, fA, _⟩ := h2.fil.look hf
  refine ⟨_, l1, ?_⟩
  refine ldP_at x.1 a1 rfl ?_
  unfold fitsV at k
  simp only [hf] at k
  generalize hn : (aget a x.1).getD 0 = n at hf l1 fA hh k
  refine ⟨fun _ w' => Eff No w2 w' ∧ (decide (x.1 = slash) || dirV H a x.1 n) = true, ?_, ?_⟩
  · refine cnd_intro (fun q => ?_) (fun q => ?_)
    · have q' : ¬ x.1 = slash := by rw [bytesEq] at q; simpa [slash] using q
      refine ldP_at x.1 a1 rfl ?_
      refine parted_spec hx fun w14 E14 => ?_
      have ha14 := (ha.kept0 (E1.trans E14))
      refine ⟨_, MapO.int1 keyS und66 ha14.o (partedV x.1).1, ?_⟩
      generalize hd : (aget a (partedV x.1).1).getD 0 = d
      have h14 := h2.kept0 E14
      have hdirV : dirV H a x.1 n = ((partedV x.1).2.2 && !(d == 0) && (kindF H.files d == some 2) && decide (n ∈ (aget H.entries (d, (partedV x.1).2.1)).getD [0])) := by
        unfold dirV; simp only [hd]
      refine ⟨fun b w' => Eff No w14 w' ∧ b = !(dirV H a x.1 n), ?_, ?_⟩
      · rw [hdirV]
        refine cnd_intro (fun q1 => ?_) (fun q1 => ?_)
        · refine ⟨Eff.refl _ _, ?_⟩
          have : (partedV x.1).2.2 = false := by simpa using q1
          simp [this]
        · have q1' : (partedV x.1).2.2 = true := by simpa using q1
          refine cnd_intro (fun q2 => ?_) (fun q2 => ?_)
          · refine ⟨Eff.refl _ _, ?_⟩
            simp [q2]
          · have q2' : d ≠ 0 := by simpa using q2
            obtain ⟨g, hg⟩ := hdir d hd q2'
            refine ldP_at (some X.fb) h14.top rfl ?_
            obtain ⟨gb, gs, gbb, glb, l2, gA, _⟩ := h14.fil.look hg
            refine ⟨_, l2, ?_⟩
            refine ldP_at g.kind gA.cells rfl ?_
            refine cnd_intro (fun q3 => ?_) (fun q3 => ?_)
            · refine ⟨Eff.refl _ _, ?_⟩
              have : ¬ g.kind = 2 := by simpa using q3
              simp [kindF, hg, this]
            · have q3' : g.kind = 2 := by simpa using q3
              refine values_spec h14 fun s w25 E25 hr => ?_
              refine Contains29_spec hr (values_short h _) ?_
              refine ⟨E25, ?_⟩
              simp [q1', q2', kindF, hg, q3']
      · rintro b w18 ⟨E18, rfl⟩
        refine cnd_intro (fun q4 => ?_) (fun q4 => ?_)
        · have hfalse : dirV H a x.1 n = false := by simpa using q4
          have := k w18 ((E1.trans E14).trans E18)
          rw [hfalse] at this
          simpa [q'] using this
        · have htrue : dirV H a x.1 n = true := by simpa using q4
          exact ⟨E14.trans E18, by simp [htrue]⟩
    · have q' : x.1 = slash := by rw [bytesEq] at q; simpa [slash] using q
      exact ⟨Eff.refl _ _, by simp [q']⟩
  · rintro _ w11 ⟨E11, hok⟩
    rw [hok, Bool.true_and] at k
    have E011 := E1.trans E11
    have fA11 := fA.kept (own' := own) E11 (fun _ _ => rfl) fun _ _ _ _ h => h
    have a11 := E11.at0 a1
    refine ldP_at f.kind fA11.cells rfl ?_
    refine cnd_intro (fun q => ?_) (fun q => ?_)
    · have q' : f.kind = 2 := by simpa using q
      rw [if_pos q'] at k
      refine ldP_at x.2.2.2.1 a11 rfl ?_
      refine cnd_intro (fun q2 => ?_) (fun q2 => ?_)
      · refine ldP_at x.2.2.2.2 a11 rfl ?_
        rw [q2, Bool.true_and] at k
        exact k w11 E011
      · rw [q2, Bool.false_and] at k
        exact k w11 E011
    · have q' : ¬ f.kind = 2 := by simpa using q
      rw [if_neg q'] at k
      refine cnd_f (by simpa using hk3) ?_
      refine ldP_at x.2.2.2.1 a11 rfl ?_
      refine ⟨_, MapO.int1 keyI und65 (hm.kept0 E011).o n, ?_⟩
      rw [hM]
      refine cnd_intro (fun q2 => ?_) (fun q2 => ?_)
      · refine ldP_at x.2.2.2.2 a11 rfl ?_
        refine hh q' w11 fb ss bb lb _ E011 fA11 fun w42 E42 => ?_
        rw [q2, Bool.true_and] at k
        exact k w42 (E011.trans E42)
      · rw [q2, Bool.false_and] at k
        exact k w11 E011

end
end Go.Proofs.YtcpoglgnkedpaaaGreatDoor

/-
  may: Allows.
-/
namespace Go.Proofs.YtcpoglgnkedpaaaGreatDoor
open Go Go.Vc Go.Proofs

def trimV (s : ByteArray) : ByteArray := ⟨(Lib.trimSuffix s.data.toList slash.data.toList).toArray⟩

/-- An entry that must be there is there, wherever its directory is. -/
def fullV (a : List (Str × Int)) (e : Ent) (l : List Int) : Bool := decide ((0 : Int) ∈ l) || a.all (fun p => !(p.2 == e.1) || (aget a (trimV p.1 ++ slash ++ e.2)).isSome)
/-- A node that must be there is there. -/
def markOk (a : List (Str × Int)) (n : Int) (m : Mark) : Bool := !m.1 || !m.2.1 || n == 1 || (!(manyC a n == 0) && (!m.2.2 || manyC a n == 1))

def allowsV (H : HistV) (hold : FileV → NodeC → Bool) (ns : List NodeC) : Bool :=
  match seenL H ns [] with
  | none => false
  | some a => ns.all (fitsV H hold a) && H.entries.all (fun p => fullV a p.1 p.2) && H.marks.all (fun p => markOk a p.1 p.2)

theorem seenL_keys (H : HistV) : ∀ (ns : List NodeC) (a0 a : List (Str × Int)), seenL H ns a0 = some a → (∀ k v, aget a0 k = some v → ∃ f, aget H.files v = some f) →
    (∀ k v, aget a k = some v → (∃ f, aget H.files v = some f) ∧ (k ∈ ns.map (·.1) ∨ aget a0 k = some v)) ∧ (∀ x ∈ ns, (aget a x.1).isSome = true) ∧ (∀ k, (aget a0 k).isSome = true → (aget a k).isSome = true)
  | [], a0, a, h, h0 => by
    simp only [seenL] at h
    split at h
    · cases h
      exact ⟨fun k v hv => ⟨h0 k v hv, .inr hv⟩, by simp, fun _ h => h⟩
    · cases h
  | x :: r, a0, a, h, h0 => by
    simp only [seenL] at h
    split at h
    · cases h
    · rename_i hc
      have hk : kindF H.files (nodeV H.numbers x.2.1) = some x.2.2.1 := by
        refine Classical.byContradiction fun hk => hc (.inr (.inr hk))
      obtain ⟨f, hf⟩ : ∃ f, aget H.files (nodeV H.numbers x.2.1) = some f := by
        unfold kindF at hk
        cases e : aget H.files (nodeV H.numbers x.2.1) with
        | none => rw [e] at hk; cases hk
        | some f => exact ⟨f, rfl⟩
      obtain ⟨q1, q2, q3⟩ := seenL_keys H r _ a h (fun k v hv => by
        rw [aget_aset] at hv
        split at hv
        · cases hv; exact ⟨f, hf⟩
        · exact h0 k v hv)
      refine ⟨fun k v hv => ?_, fun y hy => ?_, fun k hk' => q3 k ?_⟩
      · obtain ⟨p1, p2⟩ := q1 k v hv
        refine ⟨p1, ?_⟩
        rcases p2 with p2 | p2
        · exact .inl (List.mem_cons_of_mem _ p2)
        · rw [aget_aset] at p2
          split at p2
          · rename_i e; subst e; exact .inl (by simp)
          · exact .inr p2
      · rcases List.mem_cons.1 hy with rfl | hy
        · exact q3 _ (by rw [aget_aset, if_pos rfl]; rfl)
        · exact q2 y hy
      · rw [aget_aset]
        split
        · rfl
        · exact hk'

section
variable {w : World} {own : HOwner} {it : Its} {hb : Nat} {tp : Option Addr} {X : HistX} {le : List (Ent × Sl)} {lf : List (Int × Option Addr)} {lm : List (Int × Mark)} {H : HistV}

theorem HoldsOk.later {w w' : World} {n : Int} {f : FileV} {d : Sl} {r : Bool} (h : HoldsOk own n f d w r) (E : Eff No w w') : HoldsOk own n f d w' r := fun w1 fb ss bb lb K E1 hf k => h w1 fb ss bb lb K (E.trans E1) hf k

theorem all_false {α : Type} {l : List α} {p : α → Bool} {x : α} (hx : x ∈ l) (h : p x = false) : l.all p = false := by
  rw [Bool.eq_false_iff]
  intro ha
  rw [List.all_eq_true] at ha
  rw [ha x hx] at h
  cases h

/-- What is asked of a look at a history. -/
structure LookOk (H : HistV) (own : HOwner) (w : World) (hold : FileV → NodeC → Bool) (ns : List NodeC) : Prop where
  len : ns.length ≤ 1000000
  paths : ∀ x ∈ ns, x.1.size ≤ 1000000
  names : ∀ p ∈ H.entries, p.1.2.size ≤ 1000000
  kinds : ∀ k f, aget H.files k = some f → f.kind ≠ 3
  holds : ∀ x ∈ ns, ∀ n f, aget H.files n = some f → f.kind ≠ 2 → HoldsOk own n f x.2.2.2.2 w (hold f x)

theorem Allows_spec {s : Sl} {ns : List NodeC} {hold : FileV → NodeC → Bool} {K : Bool → World → Prop} (h : HistAt w own it hb tp X le lf lm H) (hn : NodesAt w s ns) (ho : LookOk H own w hold ns)
    (k : ∀ w', Eff No w w' → K (allowsV H hold ns) w') : may_History_Allows_13 (some ⟨hb, 0, none⟩) s w K := by
  refine may_History_Allows_13_of _ _ w K ?_
  unfold F13
  refine cnd_f rfl ?_
  have hlen : s.len = ns.length := RowAt.lenN (ls := nLs) (by decide) hn
  refine seen_spec h hn ho.len (fun hs w2 E2 => ?_) (fun a hs b w2 E2 hbb hm => ?_)
  · refine cnd_t rfl ?_
    have := k w2 E2
    rw [allowsV, hs] at this
    exact this
  refine cnd_f rfl ?_
  have hk : allowsV H hold ns = (ns.all (fitsV H hold a) && H.entries.all (fun p => fullV a p.1 p.2) && H.marks.all (fun p => markOk a p.1 p.2)) := by rw [allowsV, hs]
  rw [hk] at k
  obtain ⟨g1, g2, _⟩ := seenL_keys H ns [] a hs (fun k v hv => by cases hv)
  have gpath : ∀ q v, aget a q = some v → q.size ≤ 1000000 := fun q v hv => by
    rcases (g1 q v hv).2 with hq | hq
    · obtain ⟨x, hx, rfl⟩ := List.mem_map.1 hq
      exact ho.paths x hx
    · cases hq
  refine newP_at fun b3 w4 e3 a3 E4 => ?_
  have E04 := E2.trans E4
  have hm4 := hm.kept0 E4
  have hb3 : w.heap.size ≤ b3 := by have := E2.size; omega
  refine range_ro und66 keyS hm4.o (fun ps _ w1 => Eff No w w1 ∧ MapF sT.mk iT.mk w1 b a ∧ b3 < w1.heap.size ∧ ∃ M, MapF iT.mk iT.mk w1 b3 M ∧ ∀ n, (aget M n).getD 0 = manyC ps n)
    (fun w1 E => ⟨E04.trans E, hm4.kept0 E, by have := a3.lt; have := E.size; omega, [], (MapF.new a3).kept0 E, fun n => rfl⟩) ?_ ?_ ?_
  · rintro ps _ w1 w1' ⟨E1, m1, l1, M, q1, q2⟩ E'
    have := hm4.lt
    have := a3.lt
    exact ⟨E1.fresh E' E04.size, m1.kept E' (by show ¬ b = w4.heap.size; omega), by have := E'.size; omega, M, q1.kept E' (by show ¬ b3 = w4.heap.size; omega), q2⟩
  · -- the nodes, one by one
    rintro ps _ w10 ⟨E10, m10, _, M, q1, q2⟩ hp
    have hM : ∀ n, (aget M n).getD 0 = manyC a n := fun n => by rw [q2, manyC, manyC, hp.countP_eq]
    refine loopP_count (fun n st w1 => ∃ i : Nat, st = (i : Int) ∧ i ≤ ns.length ∧ n = ns.length - i ∧ Eff No w w1 ∧ Eff No w10 w1 ∧ (ns.take i).all (fitsV H hold a) = true) ⟨_, 0, rfl, by omega, rfl, E10, Eff.refl _ _, rfl⟩ ?_
    rintro n st w15 ⟨i, rfl, hi, rfl, E15, E1015, hall⟩
    have hw : i < ns.length → w64 ((i : Int) + 1) = ((i + 1 : Nat) : Int) := fun _ => by have := ho.len; rw [w64_id] <;> omega
    refine cnd_intro (fun hc => ?_) (fun hc => ?_)
    · have hc' : (i : Int) < (s.len : Int) := of_decide_eq_true hc
      have hip : i < ns.length := by omega
      refine ⟨by omega, hc', ?_⟩
      have hg : ns[i]? = some ns[i] := by simp [hip]
      have hmem : ns[i] ∈ ns := List.getElem_mem hip
      have htake : ns.take (i + 1) = ns.take i ++ [ns[i]] := by rw [List.take_add_one, hg]; rfl
      generalize ns[i] = x at hg hmem htake
      refine ldA_row (ls := nLs) (by decide) (hn.kept0 E15) (by rw [Int.toNat_natCast]; exact hg) ?_
      refine newP_at fun b18 w19 e18 a18 E18 => ?_
      refine stN_all a18 rfl rfl fun w20 a20 E20 => ?_
      have E1520 : Eff No w15 w20 := E18.fresh E20 (by omega)
      refine ldA_all x a20 ?_
      have E20' := E15.trans E1520
      have E1020 := E1015.trans E1520
      obtain ⟨v, hv⟩ := Option.isSome_iff_exists.1 (g2 x hmem)
      obtain ⟨f, hf⟩ := (g1 x.1 v hv).1
      have hv' : (aget a x.1).getD 0 = v := by rw [hv]; rfl
      refine fits_spec (f := f) (hold := hold) (M := M) (h.kept0 E20') (ho.paths x hmem) (m10.kept0 E1020) (q1.kept0 E1020) hM (by rw [hv']; exact hf) (ho.kinds _ _ hf) (fun d hd hd0 => ?_) (fun hk2 => ?_) fun w23 E23 => ?_
      · cases hq : aget a (partedV x.1).1 with
        | none => rw [hq] at hd; exact absurd hd.symm hd0
        | some v' =>
          rw [hq] at hd
          have hd' : v' = d := hd
          subst hd'
          exact (g1 _ _ hq).1
      · rw [hv']
        exact (ho.holds x hmem v f hf hk2).later E20'
      · refine cnd_intro (fun q => ?_) (fun q => ?_)
        · have hx : fitsV H hold a x = false := by simpa using q
          have := k w23 (E20'.trans E23)
          rw [all_false hmem hx] at this
          exact this
        · have hx : fitsV H hold a x = true := by simpa using q
          refine ⟨_, by omega, i + 1, hw hip, hip, rfl, E20'.trans E23, E1020.trans E23, ?_⟩
          rw [htake, List.all_append, hall]
          simp [hx]
    · have hc' : ¬ (i : Int) < (s.len : Int) := of_decide_eq_false hc
      have hip : i = ns.length := by omega
      subst hip
      rw [List.take_length] at hall
      rw [hall, Bool.true_and] at k
      -- the entries
      have h15 := h.kept0 E15
      have m15 := m10.kept0 E1015
      refine onSome_some ?_
      refine ldP_at (some X.eb) h15.top rfl ?_
      have hme : MapO kE.mk vS.mk w15 (some X.eb) le := .inr ⟨_, rfl, h15.ent.map.map.nodup keyE, le, h15.ent.map.map, fun _ => rfl⟩
      refine range_ro und72 keyE hme (fun ps _ w1 => Eff No w w1 ∧ Eff No w15 w1 ∧ ∀ p ∈ ps, ∀ xs, aget H.entries p.1 = some xs → fullV a p.1 xs = true) (fun w1 E => ⟨E15.trans E, E, by simp⟩) ?_ ?_ ?_
      · rintro ps _ w1 w1' ⟨E1, E1', q⟩ E'
        exact ⟨E1.fresh E' E15.size, E1'.fresh E' (Nat.le_refl _), q⟩
      · rintro ps _ w31 ⟨E31, E1531, hfull⟩ hp2
        have hall2 : H.entries.all (fun p => fullV a p.1 p.2) = true := by
          rw [List.all_eq_true]
          rintro ⟨e, xs⟩ hex
          have hxs := aget_of_mem h.ent.nd hex
          obtain ⟨s0, hs0, _⟩ := h.ent.som e xs hxs
          exact hfull (e, s0) ((hp2.mem_iff).2 (aget_mem hs0)) xs hxs
        rw [hall2, Bool.true_and] at k
        have h31 := h.kept0 E31
        refine onSome_some ?_
        refine ldP_at (some X.mb) h31.top rfl ?_
        have hmm : MapO iT.mk mT.mk w31 (some X.mb) lm := .inr ⟨_, rfl, h31.mar.map.map.nodup keyI, lm, h31.mar.map.map, fun _ => rfl⟩
        refine range_ro und71 keyI hmm (fun ps _ w1 => Eff No w w1 ∧ Eff No w10 w1 ∧ ∀ p ∈ ps, markOk a p.1 p.2 = true) (fun w1 E => ⟨E31.trans E, (E1015.trans E1531).trans E, by simp⟩) ?_ ?_ ?_
        · rintro ps _ w1 w1' ⟨E1, E1', q⟩ E'
          exact ⟨E1.fresh E' E31.size, E1'.fresh E' (E1015.trans E1531).size, q⟩
        · rintro ps _ w41 ⟨E41, _, hmk⟩ hp3
          have hall3 : H.marks.all (fun p => markOk a p.1 p.2) = true := by
            rw [List.all_eq_true]
            rintro ⟨n, m⟩ hex
            have hx := aget_of_mem h.mar.nd hex
            rw [← h.mar.eq] at hx
            exact hmk (n, m) ((hp3.mem_iff).2 (aget_mem hx))
          rw [hall3] at k
          exact k w41 E41
        · rintro ps _ w42 ⟨n, m⟩ again ⟨E42, E1042, hmk⟩ hpm _ _ _ hag
          have hmem : (n, m) ∈ H.marks := by
            have := aget_of_mem (h31.mar.map.map.nodup keyI) hpm
            rw [h.mar.eq] at this
            exact aget_mem this
          refine newP_at fun b45 w46 e45 a45 E45 => ?_
          refine stN_all a45 rfl rfl fun w47 a47 E47 => ?_
          have E4247 : Eff No w42 w47 := E45.fresh E47 (by omega)
          have go : markOk a n m = true → again () w47 := fun hok => hag No () w47 E4247 (fun h => h) (fun _ _ h => h) ⟨E42.trans E4247, E1042.trans E4247, fun p hp => by
            rcases List.mem_cons.1 hp with rfl | hp
            · exact hok
            · exact hmk p hp⟩
          have nogo : markOk a n m = false → K false w47 := fun hno => by
            have := k w47 (E42.trans E4247)
            rw [all_false hmem hno] at this
            exact this
          have q47 := q1.kept0 (E1042.trans E4247)
          refine ⟨fun b w' => w47 = w' ∧ b = (!m.1 || !m.2.1 || n == 1), ?_, ?_⟩
          · refine ldP_at m.1 a47 rfl ?_
            refine cnd_intro (fun r => ⟨rfl, by simp only [r]; rfl⟩) (fun r => ?_)
            refine ldP_at m.2.1 a47 rfl ?_
            refine cnd_intro (fun r2 => ⟨rfl, by simp only [r, r2]; rfl⟩) (fun r2 => ⟨rfl, by simp only [r, r2]; rfl⟩)
          rintro bb w50 ⟨rfl, rfl⟩
          refine cnd_intro (fun r => go (by simp only [markOk, r, Bool.true_or])) (fun r => ?_)
          refine ⟨_, MapO.int1 keyI und65 q47.o n, ?_⟩
          rw [hM]
          refine cnd_intro (fun r2 => nogo (by simp only [markOk, r, r2]; rfl)) (fun r2 => ?_)
          refine ldP_at m.2.2 a47 rfl ?_
          refine cnd_intro (fun r3 => ?_) (fun r3 => go (by simp only [markOk, r, r2, r3]; rfl))
          refine ⟨_, MapO.int1 keyI und65 q47.o n, ?_⟩
          rw [hM]
          refine cnd_intro (fun r4 => nogo ?_) (fun r4 => go ?_)
          · have : (manyC a n == 1) = false := by simpa using r4
            simp only [markOk, r, r2, r3, this]; rfl
          · have : (manyC a n == 1) = true := by simpa using r4
            simp only [markOk, r, r2, r3, this]; rfl
      · rintro ps _ w32 ⟨e, sl⟩ again ⟨E32, E1532, hfull⟩ hpe _ _ _ hag
        have hle := aget_of_mem (h15.ent.map.map.nodup keyE) hpe
        obtain ⟨xs, hxs⟩ : ∃ xs, aget H.entries e = some xs := by
          cases hh : aget H.entries e with
          | none => rw [h.ent.non e hh] at hle; cases hle
          | some xs => exact ⟨xs, rfl⟩
        have hmem := aget_mem hxs
        have hes := ho.names _ hmem
        obtain ⟨s0, t1, t2, t3, t4, _⟩ := (h.kept0 E32).ent.som e xs hxs
        rw [hle] at t1
        cases t1
        refine newP_at fun b57 w58 e57 a57 E57 => ?_
        refine stN_all a57 rfl rfl fun w59 a59 E59 => ?_
        have E3259 : Eff No w32 w59 := E57.fresh E59 (by omega)
        have E059 := E32.trans E3259
        have go : ∀ w', Eff No w59 w' → fullV a e xs = true → again () w' := fun w' E' hok => hag No () w' (E3259.trans E') (fun h => h) (fun _ _ h => h) ⟨E059.trans E', (E1532.trans E3259).trans E', fun p hp ys hys => by
          rcases List.mem_cons.1 hp with rfl | hp
          · have hys' : aget H.entries e = some ys := hys
            rw [hxs] at hys'
            cases hys'
            exact hok
          · exact hfull p hp ys hys⟩
        refine Contains29_spec (t2.kept0 E3259) t4 ?_
        refine cnd_intro (fun r => go w59 (Eff.refl _ _) (by rw [fullV, r, Bool.true_or])) (fun r => ?_)
        have ma := m15.kept0 (E1532.trans E3259)
        refine range_ro und66 keyS ma.o (fun qs _ w1 => Eff No w59 w1 ∧ At w1 b57 (.cells #[.int .i64 e.1, .string e.2] 77 (0, 0)) ∧ ∀ p ∈ qs, (!(p.2 == e.1) || (aget a (trimV p.1 ++ slash ++ e.2)).isSome) = true) (fun w1 E => ⟨E, E.at0 a59, by simp⟩) ?_ ?_ ?_
        · rintro qs _ w1 w1' ⟨E1, c1, q⟩ E'
          refine ⟨E1.fresh E' (Nat.le_refl _), E'.at c1 ?_, q⟩
          show ¬ b57 = w59.heap.size
          have := a59.lt
          omega
        · rintro qs _ w67 ⟨E67, _, q⟩ hp4
          refine go w67 E67 ?_
          have : a.all (fun p => !(p.2 == e.1) || (aget a (trimV p.1 ++ slash ++ e.2)).isSome) = true := by
            rw [List.all_eq_true]
            exact fun p hp => q p ((hp4.mem_iff).2 hp)
          rw [fullV, this, Bool.or_true]
        · rintro qs _ w68 ⟨p, n⟩ again2 ⟨E68, c68, q⟩ hpa _ _ _ hag2
          have hpsz := gpath p n (aget_of_mem hm.1 hpa)
          refine ldP_at e.2 c68.drew rfl ?_
          refine TrimSuffix_spec (by show p.size ≤ _; omega) ?_
          have htr : (trimV p).size ≤ p.size := by
            rw [Lib.size_eq, Lib.size_eq]
            simp only [trimV, Lib.trimSuffix]
            split
            · simp
            · simp
          refine ⟨c68.drew.cell.trans rfl, ?_, ?_, ?_⟩
          · show (((trimV p).size + 1 : Nat) : Int) ≤ 9223372036854775807
            omega
          · have : (trimV p ++ slash).size = (trimV p).size + 1 := by rw [ByteArray.size_append]; rfl
            show (((trimV p ++ slash).size + e.2.size : Nat) : Int) ≤ 9223372036854775807
            have : e.2.size ≤ 1000000 := hes
            omega
          refine ⟨_, MapO.int2 keyS und66 (ma.kept0 E68.thenDrew).o (trimV p ++ slash ++ e.2), ?_⟩
          refine ldP_at e.1 c68.drew rfl ?_
          have E6 : Eff No w68 w68.drew := Eff.drew w68
          have go2 : (!(n == e.1) || (aget a (trimV p ++ slash ++ e.2)).isSome) = true → again2 () w68.drew := fun hok => hag2 No () _ E6 (fun h => h) (fun _ _ h => h) ⟨E68.trans E6, c68.drew, fun p' hp' => by
            rcases List.mem_cons.1 hp' with rfl | hp'
            · exact hok
            · exact q p' hp'⟩
          refine cnd_intro (fun r2 => ?_) (fun r2 => go2 (by have r2' : (n == e.1) = false := r2; rw [r2']; rfl))
          have r2' : (n == e.1) = true := r2
          refine cnd_intro (fun r3 => ?_) (fun r3 => go2 ?_)
          · have r3' : (aget a (trimV p ++ slash ++ e.2)).isSome = false := by simpa using r3
            have hfalse : fullV a e xs = false := by
              rw [fullV, r, Bool.false_or]
              exact all_false hpa (by simp only [r2', r3']; rfl)
            have := k w68.drew ((E059.trans E68).trans E6)
            rw [all_false hmem hfalse] at this
            exact this
          · have r3' : (aget a (trimV p ++ slash ++ e.2)).isSome = true := by simpa using r3
            rw [r3', Bool.or_true]
  · -- how many
    rintro ps _ w11 ⟨p, n⟩ again ⟨E11, m11, l11, M, q1, q2⟩ _ _ _ hlt hag
    refine ⟨_, MapO.int1 keyI und65 q1.o n, ?_⟩
    rw [q2]
    obtain ⟨w78, r1, r2, r3⟩ := q1.put keyI und65 n (w64 (manyC ps n + 1))
    have hab : b ≠ b3 := by have := hm.lt; omega
    refine ⟨w78, r1, hag _ () w78 r3 (by have := a3.lt; omega) (fun b' hb' e => ?_) ⟨E11.fresh r3 hb3, m11.kept r3 hab, by have := r3.size; omega, _, r2, fun n' => ?_⟩⟩
    · cases hb'; exact hab e
    · rw [aget_aset]
      by_cases e : n' = n
      · subst e
        rw [if_pos rfl]
        unfold manyC
        rw [List.countP_cons, if_pos (by simp)]
        exact w64_step _
      · rw [if_neg e, q2]
        unfold manyC
        rw [List.countP_cons, if_neg (by simpa using fun h => e h.symm)]
        rfl

end
end Go.Proofs.YtcpoglgnkedpaaaGreatDoor
