/-
  The library's sort as this program holds it. No conditions.
-/
import Derived.Test.YtpeelmjecjbfjaaAEx3
import Derived.Test.YtpeelmjecjbfjaaChecked
namespace Go.AE.Y
open Go Go.AE Go.Proofs

def lays232_ren : Go.Shelf.Ren := ⟨fun | 6 => 232 | 15 => 270 | 14 => 269 | 28 => 291 | 29 => 292 | 20 => 283 | 21 => 284 | 22 => 285 | 23 => 286 | 24 => 287 | 25 => 288 | 26 => 289 | 27 => 290 | 46 => 303 | 47 => 304 | 48 => 305 | 49 => 306 | 50 => 307 | 57 => 311 | n => n, fun | 22 => 23 | 24 => 3 | 25 => 138 | 3 => 3 | 39 => 251 | 0 => 0 | 53 => 263 | 55 => 265 | 4 => 4 | 46 => 257 | 45 => 256 | 50 => 40 | 5 => 5 | 9 => 9 | 66 => 272 | 70 => 276 | 76 => 280 | 77 => 281 | n => n, fun | n => n⟩
theorem lays232 : Go.Proofs.SlLaysF.n6 Try.prog lays232_ren where
  mixed := by kernel_rfl
  f6 := ⟨ "slices.SortFunc[[]int,int]", by decide, Try.func232.trans (congrArg some (by kernel_rfl))⟩
  f14 := ⟨ "slices.pdqsortCmpFunc[int]", by decide, Try.func269.trans (congrArg some (by kernel_rfl))⟩
  f15 := Try.func270.trans (congrArg some (by kernel_rfl))
  f20 := ⟨ "slices.insertionSortCmpFunc[int]", by decide, Try.func283.trans (congrArg some (by kernel_rfl))⟩
  f21 := ⟨ "slices.heapSortCmpFunc[int]", by decide, Try.func284.trans (congrArg some (by kernel_rfl))⟩
  f22 := ⟨ "slices.breakPatternsCmpFunc[int]", by decide, Try.func285.trans (congrArg some (by kernel_rfl))⟩
  f23 := ⟨ "slices.choosePivotCmpFunc[int]", by decide, Try.func286.trans (congrArg some (by kernel_rfl))⟩
  f24 := ⟨ "slices.reverseRangeCmpFunc[int]", by decide, Try.func287.trans (congrArg some (by kernel_rfl))⟩
  f25 := ⟨ "slices.partialInsertionSortCmpFunc[int]", by decide, Try.func288.trans (congrArg some (by kernel_rfl))⟩
  f26 := ⟨ "slices.partitionEqualCmpFunc[int]", by decide, Try.func289.trans (congrArg some (by kernel_rfl))⟩
  f27 := ⟨ "slices.partitionCmpFunc[int]", by decide, Try.func290.trans (congrArg some (by kernel_rfl))⟩
  f28 := Try.func291.trans (congrArg some (by kernel_rfl))
  f29 := Try.func292.trans (congrArg some (by kernel_rfl))
  f46 := ⟨ "slices.siftDownCmpFunc[int]", by decide, Try.func303.trans (congrArg some (by kernel_rfl))⟩
  f47 := Try.func304.trans (congrArg some (by kernel_rfl))
  f48 := Try.func305.trans (congrArg some (by kernel_rfl))
  f49 := ⟨ "slices.medianAdjacentCmpFunc[int]", by decide, Try.func306.trans (congrArg some (by kernel_rfl))⟩
  f50 := ⟨ "slices.medianCmpFunc[int]", by decide, Try.func307.trans (congrArg some (by kernel_rfl))⟩
  f57 := ⟨ "slices.order2CmpFunc[int]", by decide, Try.func311.trans (congrArg some (by kernel_rfl))⟩
  t0 := Try.underlying0
  a0 := Try.isAgg0
  z0 := Try.sizeOf0
  v0 := Try.zeroValue0
  t3 := Try.underlying3
  a3 := Try.isAgg3
  z3 := Try.sizeOf3
  v3 := Try.zeroValue3
  t4 := Try.underlying4
  a4 := Try.isAgg4
  z4 := Try.sizeOf4
  v4 := Try.zeroValue4
  t5 := Try.underlying5
  a5 := Try.isAgg5
  z5 := Try.sizeOf5
  v5 := Try.zeroValue5
  t9 := Try.underlying9
  a9 := Try.isAgg9
  z9 := Try.sizeOf9
  v9 := Try.zeroValue9
  t22 := Try.underlying23
  a22 := Try.isAgg23
  z22 := Try.sizeOf23
  v22 := Try.zeroValue23
  a24 := Try.isAgg3
  z24 := Try.sizeOf3
  t25 := Try.underlying138
  a25 := Try.isAgg138
  z25 := Try.sizeOf138
  v25 := Try.zeroValue138
  t39 := Try.underlying251
  a39 := Try.isAgg251
  z39 := Try.sizeOf251
  v39 := Try.zeroValue251
  t45 := Try.underlying256
  a45 := Try.isAgg256
  z45 := Try.sizeOf256
  v45 := Try.zeroValue256
  t46 := Try.underlying257
  a46 := Try.isAgg257
  z46 := Try.sizeOf257
  v46 := Try.zeroValue257
  t50 := Try.underlying40
  a50 := Try.isAgg40
  z50 := Try.sizeOf40
  v50 := Try.zeroValue40
  t53 := Try.underlying263
  a53 := Try.isAgg263
  z53 := Try.sizeOf263
  v53 := Try.zeroValue263
  t55 := Try.underlying265
  a55 := Try.isAgg265
  z55 := Try.sizeOf265
  v55 := Try.zeroValue265
  t66 := Try.underlying272
  a66 := Try.isAgg272
  z66 := Try.sizeOf272
  v66 := Try.zeroValue272
  t70 := Try.underlying276
  a70 := Try.isAgg276
  z70 := Try.sizeOf276
  v70 := Try.zeroValue276
  t76 := Try.underlying280
  a76 := Try.isAgg280
  z76 := Try.sizeOf280
  v76 := Try.zeroValue280
  t77 := Try.underlying281
  a77 := Try.isAgg281
  z77 := Try.sizeOf281
  v77 := Try.zeroValue281

end Go.AE.Y
