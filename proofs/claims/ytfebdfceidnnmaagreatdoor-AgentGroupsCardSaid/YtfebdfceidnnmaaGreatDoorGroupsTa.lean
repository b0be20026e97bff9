/- AgentGroups, tables: the answers of calls whose arguments name no memory. -/
import Derived.Test.YtfebdfceidnnmaaGreatDoorZ1
set_option autoImplicit false
set_option maxRecDepth 100000
namespace Go.AX
open Go.Proofs
def tab1 : MT := [(88, [([.str [102]], .bool true), ([.str [120]], .bool true), ([.str [97]], .bool true), ([.str [112]], .bool true), ([.str [98]], .bool true), ([.str [113]], .bool true), ([.str [99]], .bool true), ([.str [100]], .bool true)]),
  (87, [([.str [70, 69, 73], .int .i32 85], .bool false), ([.str [70, 69, 73], .int .i32 84], .bool false), ([.str [70, 69, 73], .int .i32 83], .bool false), ([.str [70, 69, 73], .int .i32 80], .bool false), ([.str [70, 69, 73], .int .i32 78], .bool false), ([.str [70, 69, 73], .int .i32 69], .bool true), ([.str [70, 69, 78, 84, 83], .int .i32 80], .bool false), ([.str [70, 69, 78, 84, 83], .int .i32 85], .bool false), ([.str [70, 69, 78, 84, 83], .int .i32 83], .bool true), ([.str [70, 69, 78, 84, 83], .int .i32 84], .bool true), ([.str [70, 69, 73], .int .i32 70], .bool true), ([.str [70, 69, 78, 84, 83], .int .i32 78], .bool true), ([.str [70, 69, 78, 84, 83], .int .i32 69], .bool true), ([.str [70, 69, 78], .int .i32 84], .bool false), ([.str [70, 69, 78], .int .i32 80], .bool false), ([.str [70, 69, 78], .int .i32 83], .bool false), ([.str [70, 69, 78], .int .i32 85], .bool false), ([.str [70, 69, 78], .int .i32 78], .bool true), ([.str [70, 69, 78, 84, 83], .int .i32 70], .bool true), ([.str [70, 69, 78], .int .i32 69], .bool true), ([.str [70, 69, 78], .int .i32 70], .bool true), ([.str [], .int .i32 80], .bool false), ([.str [], .int .i32 78], .bool false), ([.str [], .int .i32 69], .bool false), ([.str [], .int .i32 85], .bool false), ([.str [], .int .i32 70], .bool false), ([.str [], .int .i32 83], .bool false), ([.str [], .int .i32 84], .bool false)]),
  (90, [([.int .i32 78, .int .i64 1], .bool true), ([.int .i32 83, .int .i64 3], .bool true), ([.int .i32 83, .int .i64 2], .bool true)]),
  (247, [([.int .i64 1], .str [48, 49]), ([.int .i64 2], .str [48, 50])]),
  (140, [([.cplx 4607182418800017408 0], .bool true)]),
  (109, [([.cplx 4607182418800017408 0], .bool true), ([.cplx 4621819117588971520 4621819117588971520], .bool true)]),
  (322, [([.cplx 4607182418800017408 0], .tup [.int .i64 1, .int .i64 0])]),
  (164, [([.int .i64 0, .int .i64 2, .int .i64 0], .int .i64 2)]),
  (65, [([.int .i64 1], .bool false), ([.int .i64 3], .bool true), ([.int .i64 2], .bool false)]),
  (60, [([.int .i64 1, .int .i64 3], .bool true), ([.int .i64 1, .int .i64 2], .bool true)]),
  (169, [([.int .i64 8], .bool false), ([.int .i64 3], .bool false), ([.int .i64 5], .bool false), ([.int .i64 2], .bool false), ([.int .i64 4], .bool false)]),
  (195, [([.str [101, 112, 111, 99, 104], .str [98, 111, 120, 47]], .bool false)]),
  (91, [([.str [70, 69, 73], .int .i32 73], .bool true), ([.str [70, 69, 78, 84, 83], .int .i32 73], .bool false), ([.str [70, 69, 78], .int .i32 73], .bool false), ([.str [], .int .i32 73], .bool false)]),
  (85, [([.int .i64 8], .str [70, 69, 78, 84, 83]), ([.int .i64 1], .str [70, 69, 73]), ([.int .i64 7], .str [70, 69, 78]), ([.int .i64 6], .str [])])]
def tab2 : MT := [(51, [([.agg [.int .i64 7, .str [102], .str [120], .str [], .int .i64 1, .int .i64 0, .int .i64 0, .int .i64 0, .nils]], .int .i64 0), ([.agg [.int .i64 8, .str [102], .str [120], .str [112], .int .i64 1, .int .i64 2, .int .i64 0, .int .i64 0, .nils]], .int .i64 0), ([.agg [.int .i64 8, .str [102], .str [120], .str [97], .int .i64 1, .int .i64 3, .int .i64 0, .int .i64 0, .nils]], .int .i64 0), ([.agg [.int .i64 8, .str [102], .str [120], .str [98], .int .i64 1, .int .i64 3, .int .i64 0, .int .i64 0, .nils]], .int .i64 0), ([.agg [.int .i64 8, .str [102], .str [120], .str [99], .int .i64 1, .int .i64 3, .int .i64 0, .int .i64 0, .nils]], .int .i64 0), ([.agg [.int .i64 6, .str [], .str [], .str [], .int .i64 0, .int .i64 0, .int .i64 0, .int .i64 0, .nils]], .int .i64 0), ([.agg [.int .i64 8, .str [102], .str [120], .str [100], .int .i64 1, .int .i64 3, .int .i64 0, .int .i64 0, .nils]], .int .i64 0)]),
  (184, [([.str [102], .str [120], .int .i64 1], .str [103, 111, 110, 101, 47, 102, 47, 120, 47, 48, 49])]),
  (180, [([.agg [.str [102], .str [112]]], .str [108, 111, 103, 47, 102, 47, 112]), ([.agg [.str [102], .str [97]]], .str [108, 111, 103, 47, 102, 47, 97]), ([.agg [.str [102], .str [98]]], .str [108, 111, 103, 47, 102, 47, 98]), ([.agg [.str [102], .str [99]]], .str [108, 111, 103, 47, 102, 47, 99]), ([.agg [.str [102], .str [100]]], .str [108, 111, 103, 47, 102, 47, 100])]),
  (122, [([.str [102], .str [120], .int .i64 1], .str [98, 111, 120, 47, 102, 47, 120, 47, 48, 49])]),
  (177, [([.int .i64 1], .str [97, 100, 109, 105, 116, 47, 48, 49]), ([.int .i64 2], .str [97, 100, 109, 105, 116, 47, 48, 50])]),
  (70, [([.agg [.cplx 4621819117588971520 4621819117588971520, .int .i64 4, .int .i64 3, .int .i64 5, .int .i64 2, .int .i64 8, .int .i64 4000]], .int .i64 0)]),
  (139, [([.agg [.str [97], .cplx 4607182418800017408 0]], .bool false), ([.agg [.str [113], .cplx 4607182418800017408 0]], .bool false), ([.agg [.str [112], .cplx 4607182418800017408 0]], .bool false), ([.agg [.str [98], .cplx 4607182418800017408 0]], .bool false), ([.agg [.str [99], .cplx 4607182418800017408 0]], .bool false), ([.agg [.str [100], .cplx 4607182418800017408 0]], .bool false)]),
  (58, [([.agg [.int .i64 11, .str [102], .str [], .str [97], .int .i64 0, .int .i64 3, .int .i64 1, .int .i64 1, .nils], .agg [.int .i64 11, .str [102], .str [], .str [97], .int .i64 0, .int .i64 3, .int .i64 1, .int .i64 1, .nils]], .bool true), ([.agg [.int .i64 11, .str [102], .str [], .str [112], .int .i64 0, .int .i64 2, .int .i64 1, .int .i64 1, .nils], .agg [.int .i64 11, .str [102], .str [], .str [112], .int .i64 0, .int .i64 2, .int .i64 1, .int .i64 1, .nils]], .bool true), ([.agg [.int .i64 13, .str [102], .str [120], .str [], .int .i64 1, .int .i64 0, .int .i64 0, .int .i64 0, .nils], .agg [.int .i64 13, .str [102], .str [120], .str [], .int .i64 1, .int .i64 0, .int .i64 0, .int .i64 0, .nils]], .bool true), ([.agg [.int .i64 11, .str [102], .str [], .str [98], .int .i64 0, .int .i64 3, .int .i64 1, .int .i64 1, .nils], .agg [.int .i64 11, .str [102], .str [], .str [98], .int .i64 0, .int .i64 3, .int .i64 1, .int .i64 1, .nils]], .bool true), ([.agg [.int .i64 11, .str [102], .str [], .str [99], .int .i64 0, .int .i64 3, .int .i64 1, .int .i64 1, .nils], .agg [.int .i64 11, .str [102], .str [], .str [99], .int .i64 0, .int .i64 3, .int .i64 1, .int .i64 1, .nils]], .bool true), ([.agg [.int .i64 11, .str [102], .str [], .str [100], .int .i64 0, .int .i64 3, .int .i64 1, .int .i64 1, .nils], .agg [.int .i64 11, .str [102], .str [], .str [100], .int .i64 0, .int .i64 3, .int .i64 1, .int .i64 1, .nils]], .bool true)])]
noncomputable def mkT : Mk := mkP E CC
noncomputable def S0 : Sum := fun _ _ _ => none
noncomputable def call1 : CallF := fCall E CC mkT S0 (mergeOf []) 60
noncomputable def call2 : CallF := fCall E CC mkT (memoF tab1) (mergeOf [51]) 60
theorem run1 : chkT call1 tab1 = true := by kernel_rfl
theorem run2 : chkT call2 tab2 = true := by kernel_rfl
theorem S0_ok {a0 : Nat → Value} : SumOk a0 Tryz.prog S0 := fun _ _ _ _ h => by cases h
theorem tab1_ok {a0 : Nat → Value} : MtOk a0 Tryz.prog tab1 := chkT_ok (ready.call S0_ok (mergeOf_ok _) 60) run1
theorem tab2_ok {a0 : Nat → Value} : MtOk a0 Tryz.prog tab2 := chkT_ok (ready.call (memoF_ok tab1_ok) (mergeOf_ok _) 60) run2
def tab12 : MT := tab1 ++ tab2
theorem tab12_ok {a0 : Nat → Value} : MtOk a0 Tryz.prog tab12 := tab1_ok.append tab2_ok
noncomputable def callQ : CallF := fCall E CC mkT (memoF tab12) (mergeOf [51]) 50
theorem callQ_ok {a0 : Nat → Value} : CallOk a0 Tryz.prog callQ := ready.call (memoF_ok tab12_ok) (mergeOf_ok _) 50
noncomputable def S3 : Sum := orS (memoF tab12) (orS (usedS 67) (orS (pureS [51] callQ) (sortedS 192 265 9)))
theorem S3_ok {a0 : Nat → Value} : SumOk a0 Tryz.prog S3 := orS_ok (memoF_ok tab12_ok) (orS_ok used_ok (orS_ok (pureS_ok callQ_ok) sorted_ok))
noncomputable def call3 : CallF := fCall E CC mkT S3 (mergeOf []) 60
end Go.AX

