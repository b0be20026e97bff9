/-
  DERIVED: THE SHELF's CONTRACTS AT THIS DUMP, IN PLAIN WORDS (tools/lay-plain.mjs out of 'YtfebdfceidnnmaaGreatDoorLy.lean', which tools/lay-shelf.mjs wrote): THE SAME DECLARATIONS UNDER THE SAME NAMES: 'import', 'namespace', 'open', 'def', 'theorem' AND NOTHING ELSE: no command of the shelf's: FOR A HAND-IN. Each laying: the table of numbers ('.._ren') and one theorem, a field a fact of the dump's own or the kernel's comparison; each contract: ONE APPLICATION.
-/
import Derived.Shelf.SlIter.Nil
import Derived.Shelf.SortM.Plain
import Derived.Shelf.SortM.SortNone
import Derived.Ground.GgzProg
import Derived.Ground.SlgmProg
import Derived.Test.YtfebdfceidnnmaaGreatDoorProg
namespace Go.Proofs
open Go.Shelf
def Tryz.keys193_ren : Go.Shelf.Ren := ⟨fun | 7 => 193 | 10 => 265 | n => n, fun | 23 => 111 | 26 => 9 | 3 => 115 | 28 => 230 | 0 => 0 | 27 => 229 | 33 => 135 | 4 => 4 | n => n, fun | n => n⟩
theorem Tryz.keys193 : Go.Proofs.SlLaysZ.n7 Tryz.prog Tryz.keys193_ren := {
  mixed := by kernel_rfl
  f7 := ⟨Tryz.f193.name, by decide, Tryz.func193.trans (congrArg some (by kernel_rfl))⟩
  f10 := ⟨Tryz.f265.name, by decide, Tryz.func265.trans (congrArg some (by kernel_rfl))⟩
  t0 := Tryz.underlying0
  a0 := Tryz.isAgg0
  z0 := Tryz.sizeOf0
  v0 := Tryz.zeroValue0
  t4 := Tryz.underlying4
  a4 := Tryz.isAgg4
  z4 := Tryz.sizeOf4
  v4 := Tryz.zeroValue4
  t23 := Tryz.underlying111
  a23 := Tryz.isAgg111
  z23 := Tryz.sizeOf111
  v23 := Tryz.zeroValue111
  t26 := Tryz.underlying9
  a26 := Tryz.isAgg9
  z26 := Tryz.sizeOf9
  v26 := Tryz.zeroValue9
  t27 := Tryz.underlying229
  a27 := Tryz.isAgg229
  z27 := Tryz.sizeOf229
  v27 := Tryz.zeroValue229
  t28 := Tryz.underlying230
  a28 := Tryz.isAgg230
  z28 := Tryz.sizeOf230
  v28 := Tryz.zeroValue230
  t33 := Tryz.underlying135
  a33 := Tryz.isAgg135
  z33 := Tryz.sizeOf135
  v33 := Tryz.zeroValue135 }
def Tryz.sorted192_ren : Go.Shelf.Ren := ⟨fun | 6 => 192 | 8 => 263 | 9 => 264 | 11 => 293 | 13 => 295 | 12 => 294 | 23 => 316 | 24 => 317 | 14 => 307 | 15 => 308 | 16 => 309 | 17 => 310 | 18 => 311 | 19 => 312 | 20 => 313 | 21 => 314 | 22 => 315 | 25 => 326 | 26 => 327 | 27 => 328 | 28 => 329 | 29 => 330 | 30 => 331 | 31 => 336 | n => n, fun | 26 => 9 | 28 => 230 | 24 => 66 | 0 => 0 | 3 => 3 | 37 => 249 | 48 => 321 | 50 => 323 | 4 => 4 | 40 => 314 | 39 => 313 | 45 => 318 | 5 => 5 | 9 => 9 | 51 => 337 | 55 => 138 | 57 => 346 | 58 => 67 | 33 => 135 | n => n, fun | n => n⟩
theorem Tryz.sorted192 : Go.Proofs.SlLaysZ.n6 Tryz.prog Tryz.sorted192_ren := {
  mixed := by kernel_rfl
  f6 := ⟨Tryz.f192.name, by decide, Tryz.func192.trans (congrArg some (by kernel_rfl))⟩
  f8 := ⟨Tryz.f263.name, by decide, Tryz.func263.trans (congrArg some (by kernel_rfl))⟩
  f11 := ⟨Tryz.f293.name, by decide, Tryz.func293.trans (congrArg some (by kernel_rfl))⟩
  t0 := Tryz.underlying0
  a0 := Tryz.isAgg0
  z0 := Tryz.sizeOf0
  v0 := Tryz.zeroValue0
  t24 := Tryz.underlying66
  a24 := Tryz.isAgg66
  z24 := Tryz.sizeOf66
  v24 := Tryz.zeroValue66
  t26 := Tryz.underlying9
  a26 := Tryz.isAgg9
  z26 := Tryz.sizeOf9
  v26 := Tryz.zeroValue9
  t28 := Tryz.underlying230
  a28 := Tryz.isAgg230
  z28 := Tryz.sizeOf230
  v28 := Tryz.zeroValue230
  i26 := by kernel_rfl }
def Tryz.sort264_ren : Go.Shelf.Ren := ⟨fun | 6 => 264 | 8 => 295 | 9 => 294 | 19 => 316 | 20 => 317 | 21 => 307 | 22 => 308 | 23 => 309 | 24 => 310 | 25 => 311 | 26 => 312 | 27 => 313 | 28 => 314 | 29 => 315 | 36 => 326 | 31 => 327 | 32 => 328 | 37 => 329 | 38 => 330 | 39 => 331 | 41 => 336 | n => n, fun | 27 => 66 | 29 => 9 | 3 => 3 | 32 => 249 | 26 => 66 | 0 => 0 | 44 => 321 | 46 => 323 | 4 => 4 | 36 => 314 | 35 => 313 | 41 => 318 | 5 => 5 | 9 => 9 | 53 => 337 | 57 => 138 | 63 => 346 | 64 => 67 | n => n, fun | n => n⟩
theorem Tryz.sort264 : Go.Proofs.SlLaysM.n6 Tryz.prog Tryz.sort264_ren := {
  mixed := by kernel_rfl
  f6 := ⟨Tryz.f264.name, by decide, Tryz.func264.trans (congrArg some (by kernel_rfl))⟩
  f8 := Tryz.func295.trans (congrArg some (by kernel_rfl))
  f9 := ⟨Tryz.f294.name, by decide, Tryz.func294.trans (congrArg some (by kernel_rfl))⟩
  f19 := Tryz.func316.trans (congrArg some (by kernel_rfl))
  f20 := Tryz.func317.trans (congrArg some (by kernel_rfl))
  f21 := ⟨Tryz.f307.name, by decide, Tryz.func307.trans (congrArg some (by kernel_rfl))⟩
  f22 := ⟨Tryz.f308.name, by decide, Tryz.func308.trans (congrArg some (by kernel_rfl))⟩
  f23 := ⟨Tryz.f309.name, by decide, Tryz.func309.trans (congrArg some (by kernel_rfl))⟩
  f24 := ⟨Tryz.f310.name, by decide, Tryz.func310.trans (congrArg some (by kernel_rfl))⟩
  f25 := ⟨Tryz.f311.name, by decide, Tryz.func311.trans (congrArg some (by kernel_rfl))⟩
  f26 := ⟨Tryz.f312.name, by decide, Tryz.func312.trans (congrArg some (by kernel_rfl))⟩
  f27 := ⟨Tryz.f313.name, by decide, Tryz.func313.trans (congrArg some (by kernel_rfl))⟩
  f28 := ⟨Tryz.f314.name, by decide, Tryz.func314.trans (congrArg some (by kernel_rfl))⟩
  f29 := ⟨Tryz.f315.name, by decide, Tryz.func315.trans (congrArg some (by kernel_rfl))⟩
  f31 := Tryz.func327.trans (congrArg some (by kernel_rfl))
  f32 := Tryz.func328.trans (congrArg some (by kernel_rfl))
  f36 := ⟨Tryz.f326.name, by decide, Tryz.func326.trans (congrArg some (by kernel_rfl))⟩
  f37 := ⟨Tryz.f329.name, by decide, Tryz.func329.trans (congrArg some (by kernel_rfl))⟩
  f38 := ⟨Tryz.f330.name, by decide, Tryz.func330.trans (congrArg some (by kernel_rfl))⟩
  f39 := ⟨Tryz.f331.name, by decide, Tryz.func331.trans (congrArg some (by kernel_rfl))⟩
  f41 := ⟨Tryz.f336.name, by decide, Tryz.func336.trans (congrArg some (by kernel_rfl))⟩
  t0 := Tryz.underlying0
  a0 := Tryz.isAgg0
  z0 := Tryz.sizeOf0
  v0 := Tryz.zeroValue0
  t3 := Tryz.underlying3
  a3 := Tryz.isAgg3
  z3 := Tryz.sizeOf3
  v3 := Tryz.zeroValue3
  t4 := Tryz.underlying4
  a4 := Tryz.isAgg4
  z4 := Tryz.sizeOf4
  v4 := Tryz.zeroValue4
  t5 := Tryz.underlying5
  a5 := Tryz.isAgg5
  z5 := Tryz.sizeOf5
  v5 := Tryz.zeroValue5
  t9 := Tryz.underlying9
  a9 := Tryz.isAgg9
  z9 := Tryz.sizeOf9
  v9 := Tryz.zeroValue9
  t26 := Tryz.underlying66
  a26 := Tryz.isAgg66
  z26 := Tryz.sizeOf66
  v26 := Tryz.zeroValue66
  t27 := Tryz.underlying66
  a27 := Tryz.isAgg66
  z27 := Tryz.sizeOf66
  v27 := Tryz.zeroValue66
  t29 := Tryz.underlying9
  a29 := Tryz.isAgg9
  z29 := Tryz.sizeOf9
  v29 := Tryz.zeroValue9
  t32 := Tryz.underlying249
  a32 := Tryz.isAgg249
  z32 := Tryz.sizeOf249
  v32 := Tryz.zeroValue249
  t35 := Tryz.underlying313
  a35 := Tryz.isAgg313
  z35 := Tryz.sizeOf313
  v35 := Tryz.zeroValue313
  t36 := Tryz.underlying314
  a36 := Tryz.isAgg314
  z36 := Tryz.sizeOf314
  v36 := Tryz.zeroValue314
  t41 := Tryz.underlying318
  a41 := Tryz.isAgg318
  z41 := Tryz.sizeOf318
  v41 := Tryz.zeroValue318
  t44 := Tryz.underlying321
  a44 := Tryz.isAgg321
  z44 := Tryz.sizeOf321
  v44 := Tryz.zeroValue321
  t46 := Tryz.underlying323
  a46 := Tryz.isAgg323
  z46 := Tryz.sizeOf323
  v46 := Tryz.zeroValue323
  t53 := Tryz.underlying337
  a53 := Tryz.isAgg337
  z53 := Tryz.sizeOf337
  v53 := Tryz.zeroValue337
  t57 := Tryz.underlying138
  a57 := Tryz.isAgg138
  z57 := Tryz.sizeOf138
  v57 := Tryz.zeroValue138
  t63 := Tryz.underlying346
  a63 := Tryz.isAgg346
  z63 := Tryz.sizeOf346
  v63 := Tryz.zeroValue346
  t64 := Tryz.underlying67
  a64 := Tryz.isAgg67
  z64 := Tryz.sizeOf67
  v64 := Tryz.zeroValue67 }
end Go.Proofs

