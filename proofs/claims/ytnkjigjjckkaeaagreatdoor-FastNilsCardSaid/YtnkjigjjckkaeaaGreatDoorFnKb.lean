/-
  OWN: the tables of what functions yield at some arguments, and of what calls leave at known states. By an AI agent. No person has read it.
-/
import Derived.Test.YtnkjigjjckkaeaaGreatDoorFnKa
set_option linter.unusedSimpArgs false
set_option maxRecDepth 100000
set_option maxHeartbeats 0
namespace Go.Proofs.YtnkjigjjckkaeaaGreatDoor
open Go Go.Mach
noncomputable section
def gl : List (Nat × List AV) := [(1, asc.map fun b => .int .u8 (Int.ofNat b)), (3, [.intU])]
def L1 : List (Nat × (List AV → M AV)) := (160, sumTexts 1 asc 9 words) :: (79, sumBytes kinds) :: (259, sumGrown 9 ops16) :: (173, sumContains 3) :: L0
def S1 : Sums := sumsOf L1 D0
/-- strings.Trim -/
def tab348 : List (List AV × AV) := [([.str [65, 71, 69], .str [65, 66, 67, 68, 69, 70, 71, 72, 73, 74, 75, 76, 77, 78, 79, 80, 81, 82, 83, 84, 85, 86, 87, 88, 89, 90, 48, 49, 50, 51, 52, 53, 54, 55, 56, 57, 95]], .str []),
  ([.str [84], .str [65, 66, 67, 68, 69, 70, 71, 72, 73, 74, 75, 76, 77, 78, 79, 80, 81, 82, 83, 84, 85, 86, 87, 88, 89, 90, 48, 49, 50, 51, 52, 53, 54, 55, 56, 57, 95]], .str [])]
/-- cabinetry/val.Validate -/
def tab138 : List (List AV × AV) := [([.agg [.int .i64 (.ofNat 2), .int .i64 (.ofNat 0), .str []]], .int .i64 (.ofNat 0)),
  ([.agg [.int .i64 (.ofNat 2), .int .i64 (.ofNat 1), .str []]], .int .i64 (.ofNat 0)),
  ([.agg [.int .i64 (.ofNat 2), .int .i64 (.ofNat 2), .str []]], .int .i64 (.ofNat 0)),
  ([.agg [.int .i64 (.ofNat 2), .int .i64 (.ofNat 3), .str []]], .int .i64 (.ofNat 0)),
  ([.agg [.int .i64 (.ofNat 2), .int .i64 (.ofNat 4), .str []]], .int .i64 (.ofNat 0)),
  ([.agg [.int .i64 (.ofNat 2), .int .i64 (.ofNat 5), .str []]], .int .i64 (.ofNat 0)),
  ([.agg [.int .i64 (.ofNat 2), .int .i64 (.ofNat 6), .str []]], .int .i64 (.ofNat 0)),
  ([.agg [.int .i64 (.ofNat 2), .int .i64 (.ofNat 7), .str []]], .int .i64 (.ofNat 0)),
  ([.agg [.int .i64 (.ofNat 2), .int .i64 (.ofNat 8), .str []]], .int .i64 (.ofNat 0)),
  ([.agg [.int .i64 (.ofNat 2), .int .i64 (.ofNat 9), .str []]], .int .i64 (.ofNat 0)),
  ([.agg [.int .i64 (.ofNat 2), .int .i64 (.ofNat 10), .str []]], .int .i64 (.ofNat 0)),
  ([.agg [.int .i64 (.ofNat 2), .int .i64 (.ofNat 11), .str []]], .int .i64 (.ofNat 0))]
/-- cabinetry/table.holds -/
def tab69 : List (List AV × AV) := [([.agg [.str [65, 71, 69], .int .i64 (.ofNat 2), .int .i64 (.ofNat 5), .bool false], .int .i64 (.ofNat 0), .agg [.int .i64 (.ofNat 2), .int .i64 (.ofNat 0), .str []]], .bool true),
  ([.agg [.str [65, 71, 69], .int .i64 (.ofNat 2), .int .i64 (.ofNat 5), .bool false], .int .i64 (.ofNat 0), .agg [.int .i64 (.ofNat 2), .int .i64 (.ofNat 1), .str []]], .bool true),
  ([.agg [.str [65, 71, 69], .int .i64 (.ofNat 2), .int .i64 (.ofNat 5), .bool false], .int .i64 (.ofNat 0), .agg [.int .i64 (.ofNat 2), .int .i64 (.ofNat 2), .str []]], .bool true),
  ([.agg [.str [65, 71, 69], .int .i64 (.ofNat 2), .int .i64 (.ofNat 5), .bool false], .int .i64 (.ofNat 0), .agg [.int .i64 (.ofNat 2), .int .i64 (.ofNat 3), .str []]], .bool true),
  ([.agg [.str [65, 71, 69], .int .i64 (.ofNat 2), .int .i64 (.ofNat 5), .bool false], .int .i64 (.ofNat 0), .agg [.int .i64 (.ofNat 2), .int .i64 (.ofNat 4), .str []]], .bool true),
  ([.agg [.str [65, 71, 69], .int .i64 (.ofNat 2), .int .i64 (.ofNat 5), .bool false], .int .i64 (.ofNat 0), .agg [.int .i64 (.ofNat 2), .int .i64 (.ofNat 5), .str []]], .bool true),
  ([.agg [.str [65, 71, 69], .int .i64 (.ofNat 2), .int .i64 (.ofNat 5), .bool false], .int .i64 (.ofNat 0), .agg [.int .i64 (.ofNat 2), .int .i64 (.ofNat 6), .str []]], .bool true),
  ([.agg [.str [65, 71, 69], .int .i64 (.ofNat 2), .int .i64 (.ofNat 5), .bool false], .int .i64 (.ofNat 0), .agg [.int .i64 (.ofNat 2), .int .i64 (.ofNat 7), .str []]], .bool true),
  ([.agg [.str [65, 71, 69], .int .i64 (.ofNat 2), .int .i64 (.ofNat 5), .bool false], .int .i64 (.ofNat 0), .agg [.int .i64 (.ofNat 2), .int .i64 (.ofNat 8), .str []]], .bool true),
  ([.agg [.str [65, 71, 69], .int .i64 (.ofNat 2), .int .i64 (.ofNat 5), .bool false], .int .i64 (.ofNat 0), .agg [.int .i64 (.ofNat 2), .int .i64 (.ofNat 9), .str []]], .bool true),
  ([.agg [.str [65, 71, 69], .int .i64 (.ofNat 2), .int .i64 (.ofNat 5), .bool false], .int .i64 (.ofNat 0), .agg [.int .i64 (.ofNat 2), .int .i64 (.ofNat 10), .str []]], .bool true),
  ([.agg [.str [65, 71, 69], .int .i64 (.ofNat 2), .int .i64 (.ofNat 5), .bool false], .int .i64 (.ofNat 0), .agg [.int .i64 (.ofNat 2), .int .i64 (.ofNat 11), .str []]], .bool true)]
/-- strings.ToUpper -/
def tab378 : List (List AV × AV) := [([.str [65, 71, 69]], .str [65, 71, 69]),
  ([.str [62, 32, 51, 32, 46, 65]], .str [62, 32, 51, 32, 46, 65]),
  ([.str [62, 32, 51, 32, 46]], .str [62, 32, 51, 32, 46]),
  ([.str [62, 32, 51, 32]], .str [62, 32, 51, 32]),
  ([.str [62, 32, 51]], .str [62, 32, 51]),
  ([.str [62, 32]], .str [62, 32]),
  ([.str [62]], .str [62]),
  ([.str [46, 65, 78, 68, 46, 32]], .str [46, 65, 78, 68, 46, 32]),
  ([.str [46, 65, 78, 68, 46]], .str [46, 65, 78, 68, 46]),
  ([.str [60, 61, 32, 57]], .str [60, 61, 32, 57]),
  ([.str [60, 61, 32]], .str [60, 61, 32]),
  ([.str [60, 61]], .str [60, 61])]
/-- cabinetry/key.Encode -/
def tab238 : List (List AV × AV) := [([.agg [.int .i64 (.ofNat 2), .int .i64 (.ofNat 0), .str []], .int .i64 (.ofNat 0), .int .i64 (.ofNat 0), .bool false], .tuple [.str [2, 0, 3, 141, 126, 164, 198, 128, 0], .int .i64 (.ofNat 0)]),
  ([.agg [.int .i64 (.ofNat 2), .int .i64 (.ofNat 1), .str []], .int .i64 (.ofNat 0), .int .i64 (.ofNat 0), .bool false], .tuple [.str [2, 0, 3, 141, 126, 164, 198, 128, 1], .int .i64 (.ofNat 0)]),
  ([.agg [.int .i64 (.ofNat 2), .int .i64 (.ofNat 2), .str []], .int .i64 (.ofNat 0), .int .i64 (.ofNat 0), .bool false], .tuple [.str [2, 0, 3, 141, 126, 164, 198, 128, 2], .int .i64 (.ofNat 0)]),
  ([.agg [.int .i64 (.ofNat 2), .int .i64 (.ofNat 3), .str []], .int .i64 (.ofNat 0), .int .i64 (.ofNat 0), .bool false], .tuple [.str [2, 0, 3, 141, 126, 164, 198, 128, 3], .int .i64 (.ofNat 0)]),
  ([.agg [.int .i64 (.ofNat 2), .int .i64 (.ofNat 4), .str []], .int .i64 (.ofNat 0), .int .i64 (.ofNat 0), .bool false], .tuple [.str [2, 0, 3, 141, 126, 164, 198, 128, 4], .int .i64 (.ofNat 0)]),
  ([.agg [.int .i64 (.ofNat 2), .int .i64 (.ofNat 5), .str []], .int .i64 (.ofNat 0), .int .i64 (.ofNat 0), .bool false], .tuple [.str [2, 0, 3, 141, 126, 164, 198, 128, 5], .int .i64 (.ofNat 0)]),
  ([.agg [.int .i64 (.ofNat 2), .int .i64 (.ofNat 6), .str []], .int .i64 (.ofNat 0), .int .i64 (.ofNat 0), .bool false], .tuple [.str [2, 0, 3, 141, 126, 164, 198, 128, 6], .int .i64 (.ofNat 0)]),
  ([.agg [.int .i64 (.ofNat 2), .int .i64 (.ofNat 7), .str []], .int .i64 (.ofNat 0), .int .i64 (.ofNat 0), .bool false], .tuple [.str [2, 0, 3, 141, 126, 164, 198, 128, 7], .int .i64 (.ofNat 0)]),
  ([.agg [.int .i64 (.ofNat 2), .int .i64 (.ofNat 8), .str []], .int .i64 (.ofNat 0), .int .i64 (.ofNat 0), .bool false], .tuple [.str [2, 0, 3, 141, 126, 164, 198, 128, 8], .int .i64 (.ofNat 0)]),
  ([.agg [.int .i64 (.ofNat 2), .int .i64 (.ofNat 9), .str []], .int .i64 (.ofNat 0), .int .i64 (.ofNat 0), .bool false], .tuple [.str [2, 0, 3, 141, 126, 164, 198, 128, 9], .int .i64 (.ofNat 0)]),
  ([.agg [.int .i64 (.ofNat 2), .int .i64 (.ofNat 10), .str []], .int .i64 (.ofNat 0), .int .i64 (.ofNat 0), .bool false], .tuple [.str [2, 0, 3, 141, 126, 164, 198, 128, 10], .int .i64 (.ofNat 0)]),
  ([.agg [.int .i64 (.ofNat 2), .int .i64 (.ofNat 11), .str []], .int .i64 (.ofNat 0), .int .i64 (.ofNat 0), .bool false], .tuple [.str [2, 0, 3, 141, 126, 164, 198, 128, 11], .int .i64 (.ofNat 0)])]
/-- cabinetry/key.Decode -/
def tab122 : List (List AV × AV) := [([.str [2, 0, 3, 141, 126, 164, 198, 128, 0], .bool false], .tuple [.agg [.int .i64 (.ofNat 2), .int .i64 (.ofNat 0), .str []], .int .i64 (.ofNat 0)]),
  ([.str [2, 0, 3, 141, 126, 164, 198, 128, 1], .bool false], .tuple [.agg [.int .i64 (.ofNat 2), .int .i64 (.ofNat 1), .str []], .int .i64 (.ofNat 0)]),
  ([.str [2, 0, 3, 141, 126, 164, 198, 128, 2], .bool false], .tuple [.agg [.int .i64 (.ofNat 2), .int .i64 (.ofNat 2), .str []], .int .i64 (.ofNat 0)]),
  ([.str [2, 0, 3, 141, 126, 164, 198, 128, 3], .bool false], .tuple [.agg [.int .i64 (.ofNat 2), .int .i64 (.ofNat 3), .str []], .int .i64 (.ofNat 0)]),
  ([.str [2, 0, 3, 141, 126, 164, 198, 128, 4], .bool false], .tuple [.agg [.int .i64 (.ofNat 2), .int .i64 (.ofNat 4), .str []], .int .i64 (.ofNat 0)]),
  ([.str [2, 0, 3, 141, 126, 164, 198, 128, 5], .bool false], .tuple [.agg [.int .i64 (.ofNat 2), .int .i64 (.ofNat 5), .str []], .int .i64 (.ofNat 0)]),
  ([.str [2, 0, 3, 141, 126, 164, 198, 128, 6], .bool false], .tuple [.agg [.int .i64 (.ofNat 2), .int .i64 (.ofNat 6), .str []], .int .i64 (.ofNat 0)]),
  ([.str [2, 0, 3, 141, 126, 164, 198, 128, 7], .bool false], .tuple [.agg [.int .i64 (.ofNat 2), .int .i64 (.ofNat 7), .str []], .int .i64 (.ofNat 0)]),
  ([.str [2, 0, 3, 141, 126, 164, 198, 128, 8], .bool false], .tuple [.agg [.int .i64 (.ofNat 2), .int .i64 (.ofNat 8), .str []], .int .i64 (.ofNat 0)]),
  ([.str [2, 0, 3, 141, 126, 164, 198, 128, 9], .bool false], .tuple [.agg [.int .i64 (.ofNat 2), .int .i64 (.ofNat 9), .str []], .int .i64 (.ofNat 0)]),
  ([.str [2, 0, 3, 141, 126, 164, 198, 128, 10], .bool false], .tuple [.agg [.int .i64 (.ofNat 2), .int .i64 (.ofNat 10), .str []], .int .i64 (.ofNat 0)]),
  ([.str [2, 0, 3, 141, 126, 164, 198, 128, 11], .bool false], .tuple [.agg [.int .i64 (.ofNat 2), .int .i64 (.ofNat 11), .str []], .int .i64 (.ofNat 0)])]
def L2 : List (Nat × (List AV → M AV)) := (348, sumTab tab348) :: (138, sumTab tab138) :: (69, sumTab tab69) :: (378, sumTab tab378) :: (238, sumTab tab238) :: (122, sumTab tab122) :: L1
def S2 : Sums := sumsOf L2 D0
/-- cabinetry/fast.Fast -/
def memo5_0 : Memo := ⟨15, 2, [.nilPtr, .unk, .unk], .tuple [.nilSlice, .int .i64 (.ofNat 0), .int .i64 (.ofNat 9)], gl, [],
 []⟩
/-- cabinetry/fast.Fast -/
def memo5_1 : Memo := ⟨2305, 1133, [.ptr 151 0, .str [65, 71, 69, 32, 62, 32, 51, 32, 46, 65, 78, 68, 46, 32, 65, 71, 69, 32, 60, 61, 32, 57], .bool true], .tuple [.slice 3437 0 6 (.more 1), .int .i64 (.ofNat 0), .int .i64 (.ofNat 0)], gl, [(113, .cells [.str [65, 71, 69], .int .i64 (.ofNat 2), .int .i64 (.ofNat 5), .bool false] 64 false true),
  (114, .cells [.bool false, .slice 117 0 1 (.more 3), .bool false, .slice 120 0 1 (.more 3), .bool false, .slice 123 0 1 (.more 3), .bool false, .slice 126 0 1 (.more 3), .bool false, .slice 129 0 1 (.more 3), .bool false, .slice 132 0 1 (.more 3), .bool false, .slice 135 0 1 (.more 3), .bool false, .slice 138 0 1 (.more 3), .bool false, .slice 141 0 1 (.more 3), .bool false, .slice 144 0 1 (.more 3), .bool false, .slice 147 0 1 (.more 3), .bool false, .slice 150 0 1 (.more 3)] 68 false false),
  (117, .cells [.int .i64 (.ofNat 2), .int .i64 (.ofNat 0), .str []] 40 false true),
  (120, .cells [.int .i64 (.ofNat 2), .int .i64 (.ofNat 1), .str []] 40 false true),
  (123, .cells [.int .i64 (.ofNat 2), .int .i64 (.ofNat 2), .str []] 40 false true),
  (126, .cells [.int .i64 (.ofNat 2), .int .i64 (.ofNat 3), .str []] 40 false true),
  (129, .cells [.int .i64 (.ofNat 2), .int .i64 (.ofNat 4), .str []] 40 false true),
  (132, .cells [.int .i64 (.ofNat 2), .int .i64 (.ofNat 5), .str []] 40 false true),
  (135, .cells [.int .i64 (.ofNat 2), .int .i64 (.ofNat 6), .str []] 40 false true),
  (138, .cells [.int .i64 (.ofNat 2), .int .i64 (.ofNat 7), .str []] 40 false true),
  (141, .cells [.int .i64 (.ofNat 2), .int .i64 (.ofNat 8), .str []] 40 false true),
  (144, .cells [.int .i64 (.ofNat 2), .int .i64 (.ofNat 9), .str []] 40 false true),
  (147, .cells [.int .i64 (.ofNat 2), .int .i64 (.ofNat 10), .str []] 40 false true),
  (150, .cells [.int .i64 (.ofNat 2), .int .i64 (.ofNat 11), .str []] 40 false true),
  (151, .cells [.int .i32 (.ofNat 0), .int .u32 (.ofNat 0), .int .i64 (.ofNat 0), .slice 113 0 1 (.more 4), .slice 114 0 12 (.known 12), .slice 1175 0 1 (.more 21)] 114 false false),
  (831, .cells [.slice 929 0 2 (.more 2), .nilSlice] 413 false false),
  (832, .cells [.int .i32 (.ofNat 0), .int .u32 (.ofNat 0), .ptr 920 0, .int .i64 (.ofNat 12)] 415 false false),
  (920, .cells [.slice 1135 0 3 (.more 2), .slice 1137 0 4 (.more 1)] 413 false false),
  (923, .cells [.slice 1034 0 2 (.more 2), .nilSlice] 413 false false),
  (929, .cells [.str [2, 0, 3, 141, 126, 164, 198, 128, 0], .int .i64 (.ofNat 1), .str [2, 0, 3, 141, 126, 164, 198, 128, 1], .int .i64 (.ofNat 2)] 348 false true),
  (1028, .cells [.slice 1139 0 2 (.more 2), .nilSlice] 413 false false),
  (1034, .cells [.str [2, 0, 3, 141, 126, 164, 198, 128, 3], .int .i64 (.ofNat 4), .str [2, 0, 3, 141, 126, 164, 198, 128, 4], .int .i64 (.ofNat 5)] 348 false true),
  (1133, .cells [.slice 1173 0 3 (.more 2), .nilSlice] 413 false false),
  (1135, .cells [.str [2, 0, 3, 141, 126, 164, 198, 128, 2], .int .i64 (.ofNat 3), .str [2, 0, 3, 141, 126, 164, 198, 128, 5], .int .i64 (.ofNat 6), .str [2, 0, 3, 141, 126, 164, 198, 128, 8], .int .i64 (.ofNat 9)] 348 false true),
  (1137, .cells [.ptr 831 0, .ptr 923 0, .ptr 1028 0, .ptr 1133 0] 410 false true),
  (1139, .cells [.str [2, 0, 3, 141, 126, 164, 198, 128, 6], .int .i64 (.ofNat 7), .str [2, 0, 3, 141, 126, 164, 198, 128, 7], .int .i64 (.ofNat 8)] 348 false true),
  (1173, .cells [.str [2, 0, 3, 141, 126, 164, 198, 128, 9], .int .i64 (.ofNat 10), .str [2, 0, 3, 141, 126, 164, 198, 128, 10], .int .i64 (.ofNat 11), .str [2, 0, 3, 141, 126, 164, 198, 128, 11], .int .i64 (.ofNat 12)] 348 false true),
  (1175, .cells [.str [84], .str [65, 71, 69], .str [], .int .i64 (.ofNat 0), .bool false, .int .i64 (.ofNat 0), .int .i64 (.ofNat 1), .str [65, 71, 69], .int .i64 (.ofNat 0), .int .i64 (.ofNat 0), .str [], .nilSlice, .nilSlice, .int .i64 (.ofNat 0), .str [], .int .i64 (.ofNat 0), .int .i64 (.ofNat 0), .str [], .nilSlice, .nilSlice, .ptr 832 0] 161 false true)],
 [(151, .cells [.int .i32 (.ofNat 0), .int .u32 (.ofNat 0), .int .i64 (.ofNat 0), .slice 113 0 1 (.more 4), .slice 114 0 12 (.known 12), .slice 1175 0 1 (.more 21)] 114 false false),
  (832, .cells [.int .i32 (.ofNat 0), .int .u32 (.ofNat 0), .ptr 920 0, .int .i64 (.ofNat 12)] 415 false false),
  (3437, .cells [.int .i64 (.ofNat 5), .int .i64 (.ofNat 6), .int .i64 (.ofNat 7), .int .i64 (.ofNat 8), .int .i64 (.ofNat 9), .int .i64 (.ofNat 10)] 3 false true)]⟩
def memos5 : List Memo := [memo5_0, memo5_1]
/-- cabinetry/fast.Plan -/
def memo6_0 : Memo := ⟨17, 3, [.nilPtr, .unk, .unk], .tuple [.agg [.nilSlice, .nilSlice], .int .i64 (.ofNat 9)], gl, [],
 []⟩
/-- cabinetry/fast.Plan -/
def memo6_1 : Memo := ⟨1176, 1128, [.ptr 151 0, .str [65, 71, 69, 32, 62, 32, 51, 32, 46, 65, 78, 68, 46, 32, 65, 71, 69, 32, 60, 61, 32, 57], .bool true], .tuple [.agg [.slice 2291 0 6 (.more 1), .slice 2303 0 6 (.more 1)], .int .i64 (.ofNat 0)], gl, [(113, .cells [.str [65, 71, 69], .int .i64 (.ofNat 2), .int .i64 (.ofNat 5), .bool false] 64 false true),
  (114, .cells [.bool false, .slice 117 0 1 (.more 3), .bool false, .slice 120 0 1 (.more 3), .bool false, .slice 123 0 1 (.more 3), .bool false, .slice 126 0 1 (.more 3), .bool false, .slice 129 0 1 (.more 3), .bool false, .slice 132 0 1 (.more 3), .bool false, .slice 135 0 1 (.more 3), .bool false, .slice 138 0 1 (.more 3), .bool false, .slice 141 0 1 (.more 3), .bool false, .slice 144 0 1 (.more 3), .bool false, .slice 147 0 1 (.more 3), .bool false, .slice 150 0 1 (.more 3)] 68 false false),
  (117, .cells [.int .i64 (.ofNat 2), .int .i64 (.ofNat 0), .str []] 40 false true),
  (120, .cells [.int .i64 (.ofNat 2), .int .i64 (.ofNat 1), .str []] 40 false true),
  (123, .cells [.int .i64 (.ofNat 2), .int .i64 (.ofNat 2), .str []] 40 false true),
  (126, .cells [.int .i64 (.ofNat 2), .int .i64 (.ofNat 3), .str []] 40 false true),
  (129, .cells [.int .i64 (.ofNat 2), .int .i64 (.ofNat 4), .str []] 40 false true),
  (132, .cells [.int .i64 (.ofNat 2), .int .i64 (.ofNat 5), .str []] 40 false true),
  (135, .cells [.int .i64 (.ofNat 2), .int .i64 (.ofNat 6), .str []] 40 false true),
  (138, .cells [.int .i64 (.ofNat 2), .int .i64 (.ofNat 7), .str []] 40 false true),
  (141, .cells [.int .i64 (.ofNat 2), .int .i64 (.ofNat 8), .str []] 40 false true),
  (144, .cells [.int .i64 (.ofNat 2), .int .i64 (.ofNat 9), .str []] 40 false true),
  (147, .cells [.int .i64 (.ofNat 2), .int .i64 (.ofNat 10), .str []] 40 false true),
  (150, .cells [.int .i64 (.ofNat 2), .int .i64 (.ofNat 11), .str []] 40 false true),
  (151, .cells [.int .i32 (.ofNat 0), .int .u32 (.ofNat 0), .int .i64 (.ofNat 0), .slice 113 0 1 (.more 4), .slice 114 0 12 (.known 12), .slice 1175 0 1 (.more 21)] 114 false false),
  (831, .cells [.slice 929 0 2 (.more 2), .nilSlice] 413 false false),
  (832, .cells [.int .i32 (.ofNat 0), .int .u32 (.ofNat 0), .ptr 920 0, .int .i64 (.ofNat 12)] 415 false false),
  (920, .cells [.slice 1135 0 3 (.more 2), .slice 1137 0 4 (.more 1)] 413 false false),
  (923, .cells [.slice 1034 0 2 (.more 2), .nilSlice] 413 false false),
  (929, .cells [.str [2, 0, 3, 141, 126, 164, 198, 128, 0], .int .i64 (.ofNat 1), .str [2, 0, 3, 141, 126, 164, 198, 128, 1], .int .i64 (.ofNat 2)] 348 false true),
  (1028, .cells [.slice 1139 0 2 (.more 2), .nilSlice] 413 false false),
  (1034, .cells [.str [2, 0, 3, 141, 126, 164, 198, 128, 3], .int .i64 (.ofNat 4), .str [2, 0, 3, 141, 126, 164, 198, 128, 4], .int .i64 (.ofNat 5)] 348 false true),
  (1133, .cells [.slice 1173 0 3 (.more 2), .nilSlice] 413 false false),
  (1135, .cells [.str [2, 0, 3, 141, 126, 164, 198, 128, 2], .int .i64 (.ofNat 3), .str [2, 0, 3, 141, 126, 164, 198, 128, 5], .int .i64 (.ofNat 6), .str [2, 0, 3, 141, 126, 164, 198, 128, 8], .int .i64 (.ofNat 9)] 348 false true),
  (1137, .cells [.ptr 831 0, .ptr 923 0, .ptr 1028 0, .ptr 1133 0] 410 false true),
  (1139, .cells [.str [2, 0, 3, 141, 126, 164, 198, 128, 6], .int .i64 (.ofNat 7), .str [2, 0, 3, 141, 126, 164, 198, 128, 7], .int .i64 (.ofNat 8)] 348 false true),
  (1173, .cells [.str [2, 0, 3, 141, 126, 164, 198, 128, 9], .int .i64 (.ofNat 10), .str [2, 0, 3, 141, 126, 164, 198, 128, 10], .int .i64 (.ofNat 11), .str [2, 0, 3, 141, 126, 164, 198, 128, 11], .int .i64 (.ofNat 12)] 348 false true),
  (1175, .cells [.str [84], .str [65, 71, 69], .str [], .int .i64 (.ofNat 0), .bool false, .int .i64 (.ofNat 0), .int .i64 (.ofNat 1), .str [65, 71, 69], .int .i64 (.ofNat 0), .int .i64 (.ofNat 0), .str [], .nilSlice, .nilSlice, .int .i64 (.ofNat 0), .str [], .int .i64 (.ofNat 0), .int .i64 (.ofNat 0), .str [], .nilSlice, .nilSlice, .ptr 832 0] 161 false true)],
 [(151, .cells [.int .i32 (.ofNat 0), .int .u32 (.ofNat 0), .int .i64 (.ofNat 0), .slice 113 0 1 (.more 4), .slice 114 0 12 (.known 12), .slice 1175 0 1 (.more 21)] 114 false false),
  (832, .cells [.int .i32 (.ofNat 0), .int .u32 (.ofNat 0), .ptr 920 0, .int .i64 (.ofNat 12)] 415 false false),
  (2291, .cells [.int .i64 (.ofNat 5), .int .i64 (.ofNat 6), .int .i64 (.ofNat 7), .int .i64 (.ofNat 8), .int .i64 (.ofNat 9), .int .i64 (.ofNat 10)] 3 false true),
  (2303, .cells [.int .i64 (.ofNat 5), .int .i64 (.ofNat 6), .int .i64 (.ofNat 7), .int .i64 (.ofNat 8), .int .i64 (.ofNat 9), .int .i64 (.ofNat 10)] 3 false true)]⟩
def memos6 : List Memo := [memo6_0, memo6_1]
/-- cabinetry/bag.New -/
def memo19_0 : Memo := ⟨76, 76, [.agg [.int .i64 (.ofNat 0), .slice 26 0 1 (.known 1), .slice 75 0 12 (.more 2)]], .tuple [.ptr 151 0, .int .i64 (.ofNat 0)], gl, [(26, .cells [.str [65, 71, 69], .int .i64 (.ofNat 2), .int .i64 (.ofNat 5), .bool false] 64 false false),
  (29, .cells [.int .i64 (.ofNat 2), .int .i64 (.ofNat 0), .str []] 40 false false),
  (33, .cells [.int .i64 (.ofNat 2), .int .i64 (.ofNat 1), .str []] 40 false false),
  (37, .cells [.int .i64 (.ofNat 2), .int .i64 (.ofNat 2), .str []] 40 false false),
  (41, .cells [.int .i64 (.ofNat 2), .int .i64 (.ofNat 3), .str []] 40 false false),
  (45, .cells [.int .i64 (.ofNat 2), .int .i64 (.ofNat 4), .str []] 40 false false),
  (49, .cells [.int .i64 (.ofNat 2), .int .i64 (.ofNat 5), .str []] 40 false false),
  (53, .cells [.int .i64 (.ofNat 2), .int .i64 (.ofNat 6), .str []] 40 false false),
  (57, .cells [.int .i64 (.ofNat 2), .int .i64 (.ofNat 7), .str []] 40 false false),
  (61, .cells [.int .i64 (.ofNat 2), .int .i64 (.ofNat 8), .str []] 40 false false),
  (65, .cells [.int .i64 (.ofNat 2), .int .i64 (.ofNat 9), .str []] 40 false false),
  (69, .cells [.int .i64 (.ofNat 2), .int .i64 (.ofNat 10), .str []] 40 false false),
  (73, .cells [.int .i64 (.ofNat 2), .int .i64 (.ofNat 11), .str []] 40 false false),
  (75, .cells [.bool false, .slice 29 0 1 (.known 1), .bool false, .slice 33 0 1 (.known 1), .bool false, .slice 37 0 1 (.known 1), .bool false, .slice 41 0 1 (.known 1), .bool false, .slice 45 0 1 (.known 1), .bool false, .slice 49 0 1 (.known 1), .bool false, .slice 53 0 1 (.known 1), .bool false, .slice 57 0 1 (.known 1), .bool false, .slice 61 0 1 (.known 1), .bool false, .slice 65 0 1 (.known 1), .bool false, .slice 69 0 1 (.known 1), .bool false, .slice 73 0 1 (.known 1)] 68 false true)],
 [(151, .cells [.int .i32 (.ofNat 0), .int .u32 (.ofNat 0), .int .i64 (.ofNat 0), .slice 113 0 1 (.more 4), .slice 114 0 12 (.known 12), .nilSlice] 114 false false),
  (113, .cells [.str [65, 71, 69], .int .i64 (.ofNat 2), .int .i64 (.ofNat 5), .bool false] 64 false true),
  (114, .cells [.bool false, .slice 117 0 1 (.more 3), .bool false, .slice 120 0 1 (.more 3), .bool false, .slice 123 0 1 (.more 3), .bool false, .slice 126 0 1 (.more 3), .bool false, .slice 129 0 1 (.more 3), .bool false, .slice 132 0 1 (.more 3), .bool false, .slice 135 0 1 (.more 3), .bool false, .slice 138 0 1 (.more 3), .bool false, .slice 141 0 1 (.more 3), .bool false, .slice 144 0 1 (.more 3), .bool false, .slice 147 0 1 (.more 3), .bool false, .slice 150 0 1 (.more 3)] 68 false false),
  (117, .cells [.int .i64 (.ofNat 2), .int .i64 (.ofNat 0), .str []] 40 false true),
  (120, .cells [.int .i64 (.ofNat 2), .int .i64 (.ofNat 1), .str []] 40 false true),
  (123, .cells [.int .i64 (.ofNat 2), .int .i64 (.ofNat 2), .str []] 40 false true),
  (126, .cells [.int .i64 (.ofNat 2), .int .i64 (.ofNat 3), .str []] 40 false true),
  (129, .cells [.int .i64 (.ofNat 2), .int .i64 (.ofNat 4), .str []] 40 false true),
  (132, .cells [.int .i64 (.ofNat 2), .int .i64 (.ofNat 5), .str []] 40 false true),
  (135, .cells [.int .i64 (.ofNat 2), .int .i64 (.ofNat 6), .str []] 40 false true),
  (138, .cells [.int .i64 (.ofNat 2), .int .i64 (.ofNat 7), .str []] 40 false true),
  (141, .cells [.int .i64 (.ofNat 2), .int .i64 (.ofNat 8), .str []] 40 false true),
  (144, .cells [.int .i64 (.ofNat 2), .int .i64 (.ofNat 9), .str []] 40 false true),
  (147, .cells [.int .i64 (.ofNat 2), .int .i64 (.ofNat 10), .str []] 40 false true),
  (150, .cells [.int .i64 (.ofNat 2), .int .i64 (.ofNat 11), .str []] 40 false true)]⟩
def memos19 : List Memo := [memo19_0]
/-- (*cabinetry/bag.Bag).Add -/
def memo20_0 : Memo := ⟨152, 1024, [.ptr 151 0, .agg [.str [84], .str [65, 71, 69], .str [], .int .i64 (.ofNat 0), .bool false, .int .i64 (.ofNat 0)]], .int .i64 (.ofNat 0), gl, [(113, .cells [.str [65, 71, 69], .int .i64 (.ofNat 2), .int .i64 (.ofNat 5), .bool false] 64 false true),
  (114, .cells [.bool false, .slice 117 0 1 (.more 3), .bool false, .slice 120 0 1 (.more 3), .bool false, .slice 123 0 1 (.more 3), .bool false, .slice 126 0 1 (.more 3), .bool false, .slice 129 0 1 (.more 3), .bool false, .slice 132 0 1 (.more 3), .bool false, .slice 135 0 1 (.more 3), .bool false, .slice 138 0 1 (.more 3), .bool false, .slice 141 0 1 (.more 3), .bool false, .slice 144 0 1 (.more 3), .bool false, .slice 147 0 1 (.more 3), .bool false, .slice 150 0 1 (.more 3)] 68 false false),
  (117, .cells [.int .i64 (.ofNat 2), .int .i64 (.ofNat 0), .str []] 40 false true),
  (120, .cells [.int .i64 (.ofNat 2), .int .i64 (.ofNat 1), .str []] 40 false true),
  (123, .cells [.int .i64 (.ofNat 2), .int .i64 (.ofNat 2), .str []] 40 false true),
  (126, .cells [.int .i64 (.ofNat 2), .int .i64 (.ofNat 3), .str []] 40 false true),
  (129, .cells [.int .i64 (.ofNat 2), .int .i64 (.ofNat 4), .str []] 40 false true),
  (132, .cells [.int .i64 (.ofNat 2), .int .i64 (.ofNat 5), .str []] 40 false true),
  (135, .cells [.int .i64 (.ofNat 2), .int .i64 (.ofNat 6), .str []] 40 false true),
  (138, .cells [.int .i64 (.ofNat 2), .int .i64 (.ofNat 7), .str []] 40 false true),
  (141, .cells [.int .i64 (.ofNat 2), .int .i64 (.ofNat 8), .str []] 40 false true),
  (144, .cells [.int .i64 (.ofNat 2), .int .i64 (.ofNat 9), .str []] 40 false true),
  (147, .cells [.int .i64 (.ofNat 2), .int .i64 (.ofNat 10), .str []] 40 false true),
  (150, .cells [.int .i64 (.ofNat 2), .int .i64 (.ofNat 11), .str []] 40 false true),
  (151, .cells [.int .i32 (.ofNat 0), .int .u32 (.ofNat 0), .int .i64 (.ofNat 0), .slice 113 0 1 (.more 4), .slice 114 0 12 (.known 12), .nilSlice] 114 false false)],
 [(151, .cells [.int .i32 (.ofNat 0), .int .u32 (.ofNat 0), .int .i64 (.ofNat 0), .slice 113 0 1 (.more 4), .slice 114 0 12 (.known 12), .slice 1175 0 1 (.more 21)] 114 false false),
  (1175, .cells [.str [84], .str [65, 71, 69], .str [], .int .i64 (.ofNat 0), .bool false, .int .i64 (.ofNat 0), .int .i64 (.ofNat 1), .str [65, 71, 69], .int .i64 (.ofNat 0), .int .i64 (.ofNat 0), .str [], .nilSlice, .nilSlice, .int .i64 (.ofNat 0), .str [], .int .i64 (.ofNat 0), .int .i64 (.ofNat 0), .str [], .nilSlice, .nilSlice, .ptr 832 0] 161 false true),
  (832, .cells [.int .i32 (.ofNat 0), .int .u32 (.ofNat 0), .ptr 920 0, .int .i64 (.ofNat 12)] 415 false false),
  (920, .cells [.slice 1135 0 3 (.more 2), .slice 1137 0 4 (.more 1)] 413 false false),
  (1135, .cells [.str [2, 0, 3, 141, 126, 164, 198, 128, 2], .int .i64 (.ofNat 3), .str [2, 0, 3, 141, 126, 164, 198, 128, 5], .int .i64 (.ofNat 6), .str [2, 0, 3, 141, 126, 164, 198, 128, 8], .int .i64 (.ofNat 9)] 348 false true),
  (1137, .cells [.ptr 831 0, .ptr 923 0, .ptr 1028 0, .ptr 1133 0] 410 false true),
  (831, .cells [.slice 929 0 2 (.more 2), .nilSlice] 413 false false),
  (929, .cells [.str [2, 0, 3, 141, 126, 164, 198, 128, 0], .int .i64 (.ofNat 1), .str [2, 0, 3, 141, 126, 164, 198, 128, 1], .int .i64 (.ofNat 2)] 348 false true),
  (923, .cells [.slice 1034 0 2 (.more 2), .nilSlice] 413 false false),
  (1034, .cells [.str [2, 0, 3, 141, 126, 164, 198, 128, 3], .int .i64 (.ofNat 4), .str [2, 0, 3, 141, 126, 164, 198, 128, 4], .int .i64 (.ofNat 5)] 348 false true),
  (1028, .cells [.slice 1139 0 2 (.more 2), .nilSlice] 413 false false),
  (1139, .cells [.str [2, 0, 3, 141, 126, 164, 198, 128, 6], .int .i64 (.ofNat 7), .str [2, 0, 3, 141, 126, 164, 198, 128, 7], .int .i64 (.ofNat 8)] 348 false true),
  (1133, .cells [.slice 1173 0 3 (.more 2), .nilSlice] 413 false false),
  (1173, .cells [.str [2, 0, 3, 141, 126, 164, 198, 128, 9], .int .i64 (.ofNat 10), .str [2, 0, 3, 141, 126, 164, 198, 128, 10], .int .i64 (.ofNat 11), .str [2, 0, 3, 141, 126, 164, 198, 128, 11], .int .i64 (.ofNat 12)] 348 false true)]⟩
def memos20 : List Memo := [memo20_0]
def L3 : List (Nat × (List AV → M AV)) := (5, sumMemo memos5) :: (6, sumMemo memos6) :: (19, sumMemo memos19) :: (20, sumMemo memos20) :: L2
def S3 : Sums := sumsOf L3 D0
def args0 : List AV := [.unk, .unk]
end
end Go.Proofs.YtnkjigjjckkaeaaGreatDoor
