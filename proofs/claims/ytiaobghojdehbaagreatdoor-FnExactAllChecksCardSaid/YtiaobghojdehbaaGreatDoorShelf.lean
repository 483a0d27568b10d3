/-
  DERIVED: THE SHELF's CONTRACTS AT THIS DUMP, IN PLAIN WORDS (tools/lay-plain.mjs out of 'TryzShelf.lean', which tools/lay-shelf.mjs wrote): THE SAME DECLARATIONS UNDER THE SAME NAMES: 'import', 'namespace', 'open', 'def', 'theorem' AND NOTHING ELSE: no command of the shelf's: FOR A HAND-IN. Each laying: the table of numbers ('.._ren') and one theorem, a field a fact of the dump's own or the kernel's comparison; each contract: ONE APPLICATION.
-/
import Derived.Shelf.Strings.SlTrimAscii
import Derived.Shelf.Strings.Search1
import Derived.Test.YtiaobghojdehbaaGreatDoorProg
namespace Go.Proofs
open Go.Shelf
def Tryz.lays160_ren : Go.Shelf.Ren := ⟨fun | 160 => 264 | 232 => 278 | 231 => 277 | 227 => 279 | 234 => 281 | 233 => 280 | 236 => 283 | 235 => 282 | 228 => 292 | 271 => 295 | 151 => 294 | 197 => 293 | 120 => 306 | 152 => 305 | 260 => 304 | 137 => 265 | 119 => 309 | 224 => 310 | 225 => 311 | 217 => 284 | 266 => 296 | n => n, fun | 9 => 9 | 4 => 4 | 3 => 3 | 5 => 5 | 117 => 348 | 116 => 347 | 0 => 0 | 124 => 351 | 21 => 21 | 105 => 356 | 46 => 273 | 119 => 364 | 139 => 367 | 138 => 366 | n => n, fun | 3 => 1 | 4 => 2 | n => n⟩
theorem Tryz.lays160 : Go.Proofs.Lays.n160 Tryz.prog Tryz.lays160_ren := {
  mixed := by kernel_rfl
  f119 := Tryz.func309.trans (congrArg some (by kernel_rfl))
  f120 := Tryz.func306.trans (congrArg some (by kernel_rfl))
  f137 := Tryz.func265.trans (congrArg some (by kernel_rfl))
  f151 := Tryz.func294.trans (congrArg some (by kernel_rfl))
  f152 := Tryz.func305.trans (congrArg some (by kernel_rfl))
  f160 := Tryz.func264.trans (congrArg some (by kernel_rfl))
  f197 := Tryz.func293.trans (congrArg some (by kernel_rfl))
  f217 := Tryz.func284.trans (congrArg some (by kernel_rfl))
  f224 := Tryz.func310.trans (congrArg some (by kernel_rfl))
  f225 := Tryz.func311.trans (congrArg some (by kernel_rfl))
  f227 := Tryz.func279.trans (congrArg some (by kernel_rfl))
  f228 := Tryz.func292.trans (congrArg some (by kernel_rfl))
  f231 := Tryz.func277.trans (congrArg some (by kernel_rfl))
  f232 := Tryz.func278.trans (congrArg some (by kernel_rfl))
  f233 := Tryz.func280.trans (congrArg some (by kernel_rfl))
  f234 := Tryz.func281.trans (congrArg some (by kernel_rfl))
  f235 := Tryz.func282.trans (congrArg some (by kernel_rfl))
  f236 := Tryz.func283.trans (congrArg some (by kernel_rfl))
  f260 := Tryz.func304.trans (congrArg some (by kernel_rfl))
  f266 := Tryz.func296.trans (congrArg some (by kernel_rfl))
  f271 := Tryz.func295.trans (congrArg some (by kernel_rfl))
  t0 := Tryz.underlying0
  a0 := Tryz.isAgg0
  z0 := Tryz.sizeOf0
  v0 := Tryz.zeroValue0
  t3 := Tryz.underlying3
  a3 := Tryz.isAgg3
  z3 := Tryz.sizeOf3
  v3 := Tryz.zeroValue3
  t4 := Tryz.underlying4
  a4 := Tryz.isAgg4
  z4 := Tryz.sizeOf4
  v4 := Tryz.zeroValue4
  t5 := Tryz.underlying5
  a5 := Tryz.isAgg5
  z5 := Tryz.sizeOf5
  v5 := Tryz.zeroValue5
  t9 := Tryz.underlying9
  a9 := Tryz.isAgg9
  z9 := Tryz.sizeOf9
  v9 := Tryz.zeroValue9
  t21 := Tryz.underlying21
  a21 := Tryz.isAgg21
  z21 := Tryz.sizeOf21
  v21 := Tryz.zeroValue21
  t46 := Tryz.underlying273
  a46 := Tryz.isAgg273
  z46 := Tryz.sizeOf273
  v46 := Tryz.zeroValue273
  t105 := Tryz.underlying356
  a105 := Tryz.isAgg356
  z105 := Tryz.sizeOf356
  v105 := Tryz.zeroValue356
  t116 := Tryz.underlying347
  a116 := Tryz.isAgg347
  z116 := Tryz.sizeOf347
  t117 := Tryz.underlying348
  a117 := Tryz.isAgg348
  z117 := Tryz.sizeOf348
  v117 := Tryz.zeroValue348
  t119 := Tryz.underlying364
  a119 := Tryz.isAgg364
  z119 := Tryz.sizeOf364
  t124 := Tryz.underlying351
  a124 := Tryz.isAgg351
  z124 := Tryz.sizeOf351
  v124 := Tryz.zeroValue351
  t138 := Tryz.underlying366
  a138 := Tryz.isAgg366
  z138 := Tryz.sizeOf366
  v138 := Tryz.zeroValue366
  t139 := Tryz.underlying367
  a139 := Tryz.isAgg367
  z139 := Tryz.sizeOf367
  v139 := Tryz.zeroValue367
  g3 := by kernel_rfl
  g4 := by kernel_rfl }
open Go.RowKit in
theorem Tryz.strings_Trim_ascii (s cutset : ByteArray) (w : World) (hs : s.size ≤ 9223372036854775807) (hcs : cutset.size < 4294967281) (hascii : ∀ (j : Nat) b, cutset.data.toList[j]? = some b → b.toNat < 128) :
    Calls Tryz.prog 264 #[.string s, .string cutset] w fun e w' => e = .returned (.string ⟨(Lib.trimS s.data.toList cutset.data.toList).toArray⟩) ∧ Below w.heap.size w w' := Any.strings_Trim_laid Tryz.lays160 (by kernel_rfl) s cutset w hs hcs hascii
def Tryz.lays137_ren : Go.Shelf.Ren := ⟨fun | 137 => 265 | 217 => 284 | 266 => 296 | n => n, fun | 9 => 9 | 5 => 5 | 3 => 3 | n => n, fun | n => n⟩
theorem Tryz.lays137 : Go.Proofs.Lays.n137 Tryz.prog Tryz.lays137_ren := {
  mixed := by kernel_rfl
  f137 := Tryz.func265.trans (congrArg some (by kernel_rfl))
  f217 := Tryz.func284.trans (congrArg some (by kernel_rfl))
  f266 := Tryz.func296.trans (congrArg some (by kernel_rfl))
  t3 := Tryz.underlying3
  a3 := Tryz.isAgg3
  z3 := Tryz.sizeOf3
  v3 := Tryz.zeroValue3
  t5 := Tryz.underlying5
  a5 := Tryz.isAgg5
  z5 := Tryz.sizeOf5
  v5 := Tryz.zeroValue5
  t9 := Tryz.underlying9
  a9 := Tryz.isAgg9
  z9 := Tryz.sizeOf9
  v9 := Tryz.zeroValue9 }
open Go.RowKit in
theorem Tryz.strings_IndexByte (s : ByteArray) (c : Int) (w : World) :
    Calls Tryz.prog 265 #[.string s, .int .u8 c] w fun e w' => e = .returned (.int .i64 (Lib.indexByte s.data.toList c.toNat.toUInt8)) ∧ w' = w := Any.strings_IndexByte Tryz.lays137 s c w
end Go.Proofs
