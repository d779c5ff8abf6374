/-
  The chapter's first examples are run, call by call. No statement of a seat is proved here.
-/
import Derived.Test.YtehkjjcdkbcebaaRows
import Derived.Test.YtehkjjcdkbcebaaAbsEnv
set_option linter.unusedVariables false
set_option maxRecDepth 1000000
namespace Go.Proofs.Ytehkjjcdkbcebaa.recAlive
open Go.Ab Go.ChangeShapes Go.WideShapes Go.RowKit
def B (n : Int) : AV := .v (.int .u8 n)
abbrev Memo := List (FuncId × List AV × AV)
def fns : List FuncId := [12, 14, 15, 21, 22, 30, 40, 41, 42, 43, 44, 46, 47, 48, 49, 50, 51, 52, 53, 54, 55, 56, 57, 58, 59, 61, 62, 63, 64, 71, 74, 75, 76, 77, 78, 79, 80, 81, 82, 83, 84, 85, 86, 87, 88, 89, 90, 91, 92, 93, 94, 95, 96, 97, 98, 99, 100, 127, 128, 129, 130, 131, 132, 133, 135, 136]
noncomputable def env (memo : Memo) : Env := envOf Try.prog fns [14, 41, 48, 51, 52, 53, 59, 85, 127] [55, 56, 128] (strictOf [(19, 13, 18), (16, 1, 77777), (55, 1, 88888)]) (tabApart [(35, 21, 0, [(36, 52), (37, 52), (38, 52), (41, 52), (42, 52), (43, 52), (47, 52), (48, 52), (49, 52)]), (145, 8, 4, [(148, 2)]), (14, 5, 3, [(15, 2)]), (7, 6, 0, [(3, 5)]), (49, 9, 0, [(6, 50), (6, 54)]), (13, 5, 4, [(3, 2)]), (67, 5, 4, [(3, 2)]), (15, 12, 0, [(20, 23)]), (52, 10, 0, [(56, 58)])]) (tabFrz [(19, 13, 18), (16, 1, 77777), (55, 1, 88888)]) memo
theorem fnsFit : fnsOk (env []) fns = true := by kernel_rfl
theorem follows : Try.prog.follows .mixedOrders = true := by kernel_rfl
abbrev Known (T : Memo) : Prop := ∀ p ∈ T, PureOk Try.prog p.1 p.2.1 p.2.2
theorem fits {T : Memo} (h : Known T) : (env T).Ok (drawOk (env T)) := envM_ok h follows fnsFit
def T0 : Memo := []
theorem k0 : Known T0 := memo_nil
def a1 : List AV := [.isl 1 (List.replicate 19 (.v (.int .i32 0))) none]
def y1 : AV := .v (.int .i64 0)
theorem r1 : pureCall (env T0) (runA (env T0) 100000) 86 a1 = some y1 := by kernel_rfl
theorem c1 : PureOk Try.prog 86 a1 y1 := memo_run (fits k0) r1
def a2 : List AV := [.isl 1 (List.replicate 20 (.v (.int .i32 0))) none]
def y2 : AV := .v (.int .i64 0)
theorem r2 : pureCall (env T0) (runA (env T0) 100000) 86 a2 = some y2 := by kernel_rfl
theorem c2 : PureOk Try.prog 86 a2 y2 := memo_run (fits k0) r2
def a3 : List AV := [.isl 1 (List.replicate 64 (.v (.int .i32 0))) none]
def y3 : AV := .v (.int .i64 0)
theorem r3 : pureCall (env T0) (runA (env T0) 100000) 86 a3 = some y3 := by kernel_rfl
theorem c3 : PureOk Try.prog 86 a3 y3 := memo_run (fits k0) r3
def a4 : List AV := [.isl 1 [.v (.int .i32 (-1))] none]
def y4 : AV := .v (.int .i64 0)
theorem r4 : pureCall (env T0) (runA (env T0) 100000) 86 a4 = some y4 := by kernel_rfl
theorem c4 : PureOk Try.prog 86 a4 y4 := memo_run (fits k0) r4
def T1 : Memo := (86, a4, y4) :: (86, a3, y3) :: (86, a2, y2) :: (86, a1, y1) :: T0
theorem k1 : Known T1 := memo_cons c4 (memo_cons c3 (memo_cons c2 (memo_cons c1 (k0))))
def a5 : List AV := [.isl 1 (List.replicate 19 (.v (.int .i32 0))) none]
def y5 : AV := .tup [.isl 1 (List.replicate 76 (B 0)) none, .v (.int .i64 0)]
theorem r5 : pureCall (env T1) (runA (env T1) 100000) 54 a5 = some y5 := by kernel_rfl
theorem c5 : PureOk Try.prog 54 a5 y5 := memo_run (fits k1) r5
def a6 : List AV := [.isl 1 (List.replicate 20 (.v (.int .i32 0))) none]
def y6 : AV := .tup [.isl 1 (List.replicate 80 (B 0)) none, .v (.int .i64 0)]
theorem r6 : pureCall (env T1) (runA (env T1) 100000) 54 a6 = some y6 := by kernel_rfl
theorem c6 : PureOk Try.prog 54 a6 y6 := memo_run (fits k1) r6
def a7 : List AV := [.isl 1 (List.replicate 64 (.v (.int .i32 0))) none]
def y7 : AV := .tup [.isl 1 (List.replicate 256 (B 0)) none, .v (.int .i64 0)]
theorem r7 : pureCall (env T1) (runA (env T1) 100000) 54 a7 = some y7 := by kernel_rfl
theorem c7 : PureOk Try.prog 54 a7 y7 := memo_run (fits k1) r7
def a8 : List AV := [.isl 1 [.v (.int .i32 (-1))] none]
def y8 : AV := .tup [.isl 1 (List.replicate 4 (B 255)) none, .v (.int .i64 0)]
theorem r8 : pureCall (env T1) (runA (env T1) 100000) 54 a8 = some y8 := by kernel_rfl
theorem c8 : PureOk Try.prog 54 a8 y8 := memo_run (fits k1) r8
def T2 : Memo := (54, a8, y8) :: (54, a7, y7) :: (54, a6, y6) :: (54, a5, y5) :: T1
theorem k2 : Known T2 := memo_cons c8 (memo_cons c7 (memo_cons c6 (memo_cons c5 (k1))))
def a9 : List AV := [.isl 1 (List.replicate 256 (B 0)) none]
def y9 : AV := .tup [.isl 1 (List.replicate 64 (.v (.int .i32 0))) none, .v (.int .i64 0)]
theorem r9 : pureCall (env T2) (runA (env T2) 100000) 58 a9 = some y9 := by kernel_rfl
theorem c9 : PureOk Try.prog 58 a9 y9 := memo_run (fits k2) r9
def a10 : List AV := [.isl 1 (List.replicate 76 (B 0)) none]
def y10 : AV := .tup [.isl 1 (List.replicate 19 (.v (.int .i32 0))) none, .v (.int .i64 0)]
theorem r10 : pureCall (env T2) (runA (env T2) 100000) 58 a10 = some y10 := by kernel_rfl
theorem c10 : PureOk Try.prog 58 a10 y10 := memo_run (fits k2) r10
def a11 : List AV := [.isl 1 (List.replicate 80 (B 0)) none]
def y11 : AV := .tup [.isl 1 (List.replicate 20 (.v (.int .i32 0))) none, .v (.int .i64 0)]
theorem r11 : pureCall (env T2) (runA (env T2) 100000) 58 a11 = some y11 := by kernel_rfl
theorem c11 : PureOk Try.prog 58 a11 y11 := memo_run (fits k2) r11
def T3 : Memo := (58, a11, y11) :: (58, a10, y10) :: (58, a9, y9) :: T2
theorem k3 : Known T3 := memo_cons c11 (memo_cons c10 (memo_cons c9 (k2)))
def a12 : List AV := [.agg [B 1, B 1, .v (.int .u32 1), B 2, .v (.int .i64 1), B 1, .v (.int .u32 1), B 2, .v (.int .i64 9), .v (.int .i64 1), B 0, .v (.int .u32 0), B 0, .v (.int .i64 0), B 0, .v (.int .u32 0), .isl 1 [.v (.int .i32 (-1))] none]]
def y12 : AV := .v (.int .i64 0)
theorem r12 : pureCall (env T3) (runA (env T3) 100000) 21 a12 = some y12 := by kernel_rfl
theorem c12 : PureOk Try.prog 21 a12 y12 := memo_run (fits k3) r12
def a13 : List AV := [.agg [B 1, B 1, .v (.int .u32 1), B 2, .v (.int .i64 1), B 1, .v (.int .u32 1), B 2, .v (.int .i64 9), .v (.int .i64 19), B 0, .v (.int .u32 0), B 0, .v (.int .i64 0), B 0, .v (.int .u32 0), .isl 1 (List.replicate 19 (.v (.int .i32 0))) none]]
def y13 : AV := .v (.int .i64 0)
theorem r13 : pureCall (env T3) (runA (env T3) 100000) 21 a13 = some y13 := by kernel_rfl
theorem c13 : PureOk Try.prog 21 a13 y13 := memo_run (fits k3) r13
def a14 : List AV := [.agg [B 1, B 1, .v (.int .u32 1), B 2, .v (.int .i64 1), B 1, .v (.int .u32 1), B 2, .v (.int .i64 9), .v (.int .i64 20), B 0, .v (.int .u32 0), B 0, .v (.int .i64 0), B 0, .v (.int .u32 0), .isl 1 (List.replicate 20 (.v (.int .i32 0))) none]]
def y14 : AV := .v (.int .i64 0)
theorem r14 : pureCall (env T3) (runA (env T3) 100000) 21 a14 = some y14 := by kernel_rfl
theorem c14 : PureOk Try.prog 21 a14 y14 := memo_run (fits k3) r14
def a15 : List AV := [.agg [B 1, B 1, .v (.int .u32 1), B 2, .v (.int .i64 1), B 1, .v (.int .u32 1), B 2, .v (.int .i64 9), .v (.int .i64 64), B 0, .v (.int .u32 0), B 0, .v (.int .i64 0), B 0, .v (.int .u32 0), .isl 1 (List.replicate 64 (.v (.int .i32 0))) none]]
def y15 : AV := .v (.int .i64 0)
theorem r15 : pureCall (env T3) (runA (env T3) 100000) 21 a15 = some y15 := by kernel_rfl
theorem c15 : PureOk Try.prog 21 a15 y15 := memo_run (fits k3) r15
def a16 : List AV := [.agg [B 2, B 1, .v (.int .u32 1), B 2, .v (.int .i64 1), B 1, .v (.int .u32 1), B 2, .v (.int .i64 9), .v (.int .i64 2), B 0, .v (.int .u32 0), B 0, .v (.int .i64 0), B 0, .v (.int .u32 0), .v (.slice none 0 0)]]
def y16 : AV := .v (.int .i64 0)
theorem r16 : pureCall (env T3) (runA (env T3) 100000) 21 a16 = some y16 := by kernel_rfl
theorem c16 : PureOk Try.prog 21 a16 y16 := memo_run (fits k3) r16
def T4 : Memo := (21, a16, y16) :: (21, a15, y15) :: (21, a14, y14) :: (21, a13, y13) :: (21, a12, y12) :: T3
theorem k4 : Known T4 := memo_cons c16 (memo_cons c15 (memo_cons c14 (memo_cons c13 (memo_cons c12 (k3)))))
def a17 : List AV := [.agg [B 1, B 1, .v (.int .u32 1), B 2, .v (.int .i64 1), B 1, .v (.int .u32 1), B 2, .v (.int .i64 9), .v (.int .i64 1), B 0, .v (.int .u32 0), B 0, .v (.int .i64 0), B 0, .v (.int .u32 0), .isl 1 [.v (.int .i32 (-1))] none]]
def y17 : AV := .tup [.fsl 1 ([B 1, B 1, B 0, B 0, B 0, B 1, B 2, B 0, B 0, B 1, B 1, B 0, B 0, B 0, B 1, B 2, B 0, B 0, B 0, B 0, B 0, B 0, B 9, B 1] ++ List.replicate 13 (B 0) ++ [B 255, B 255, B 255, B 255]) none, .v (.int .i64 0)]
theorem r17 : pureCall (env T4) (runA (env T4) 100000) 14 a17 = some y17 := by kernel_rfl
theorem c17 : PureOk Try.prog 14 a17 y17 := memo_run (fits k4) r17
def a18 : List AV := [.agg [B 1, B 1, .v (.int .u32 1), B 2, .v (.int .i64 1), B 1, .v (.int .u32 1), B 2, .v (.int .i64 9), .v (.int .i64 19), B 0, .v (.int .u32 0), B 0, .v (.int .i64 0), B 0, .v (.int .u32 0), .isl 1 (List.replicate 19 (.v (.int .i32 0))) none]]
def y18 : AV := .tup [.fsl 1 ([B 1, B 1, B 0, B 0, B 0, B 1, B 2, B 0, B 0, B 1, B 1, B 0, B 0, B 0, B 1, B 2, B 0, B 0, B 0, B 0, B 0, B 0, B 9, B 19] ++ List.replicate 89 (B 0)) none, .v (.int .i64 0)]
theorem r18 : pureCall (env T4) (runA (env T4) 100000) 14 a18 = some y18 := by kernel_rfl
theorem c18 : PureOk Try.prog 14 a18 y18 := memo_run (fits k4) r18
def a19 : List AV := [.agg [B 1, B 1, .v (.int .u32 1), B 2, .v (.int .i64 1), B 1, .v (.int .u32 1), B 2, .v (.int .i64 9), .v (.int .i64 20), B 0, .v (.int .u32 0), B 0, .v (.int .i64 0), B 0, .v (.int .u32 0), .isl 1 (List.replicate 20 (.v (.int .i32 0))) none]]
def y19 : AV := .tup [.fsl 1 ([B 1, B 1, B 0, B 0, B 0, B 1, B 2, B 0, B 0, B 1, B 1, B 0, B 0, B 0, B 1, B 2, B 0, B 0, B 0, B 0, B 0, B 0, B 9, B 20] ++ List.replicate 93 (B 0)) none, .v (.int .i64 0)]
theorem r19 : pureCall (env T4) (runA (env T4) 100000) 14 a19 = some y19 := by kernel_rfl
theorem c19 : PureOk Try.prog 14 a19 y19 := memo_run (fits k4) r19
def a20 : List AV := [.agg [B 1, B 1, .v (.int .u32 1), B 2, .v (.int .i64 1), B 1, .v (.int .u32 1), B 2, .v (.int .i64 9), .v (.int .i64 64), B 0, .v (.int .u32 0), B 0, .v (.int .i64 0), B 0, .v (.int .u32 0), .isl 1 (List.replicate 64 (.v (.int .i32 0))) none]]
def y20 : AV := .tup [.fsl 1 ([B 1, B 1, B 0, B 0, B 0, B 1, B 2, B 0, B 0, B 1, B 1, B 0, B 0, B 0, B 1, B 2, B 0, B 0, B 0, B 0, B 0, B 0, B 9, B 64] ++ List.replicate 269 (B 0)) none, .v (.int .i64 0)]
theorem r20 : pureCall (env T4) (runA (env T4) 100000) 14 a20 = some y20 := by kernel_rfl
theorem c20 : PureOk Try.prog 14 a20 y20 := memo_run (fits k4) r20
def a21 : List AV := [.agg [B 2, B 1, .v (.int .u32 1), B 2, .v (.int .i64 1), B 1, .v (.int .u32 1), B 2, .v (.int .i64 9), .v (.int .i64 2), B 0, .v (.int .u32 0), B 0, .v (.int .i64 0), B 0, .v (.int .u32 0), .v (.slice none 0 0)]]
def y21 : AV := .tup [.fsl 1 ([B 2, B 1, B 0, B 0, B 0, B 1, B 2, B 0, B 0, B 1, B 1, B 0, B 0, B 0, B 1, B 2, B 0, B 0, B 0, B 0, B 0, B 0, B 9, B 2]) none, .v (.int .i64 0)]
theorem r21 : pureCall (env T4) (runA (env T4) 100000) 14 a21 = some y21 := by kernel_rfl
theorem c21 : PureOk Try.prog 14 a21 y21 := memo_run (fits k4) r21
def T5 : Memo := (14, a21, y21) :: (14, a20, y20) :: (14, a19, y19) :: (14, a18, y18) :: (14, a17, y17) :: T4
theorem k5 : Known T5 := memo_cons c21 (memo_cons c20 (memo_cons c19 (memo_cons c18 (memo_cons c17 (k4)))))
def a22 : List AV := [.isl 1 ([B 1, B 1, B 0, B 0, B 0, B 1, B 2, B 0, B 0, B 1, B 1, B 0, B 0, B 0, B 1, B 2, B 0, B 0, B 0, B 0, B 0, B 0, B 9, B 19] ++ List.replicate 92 (B 0)) none]
def y22 : AV := .tup [.agg [B 1, B 1, .v (.int .u32 1), B 2, .v (.int .i64 1), B 1, .v (.int .u32 1), B 2, .v (.int .i64 9), .v (.int .i64 19), B 0, .v (.int .u32 0), B 0, .v (.int .i64 0), B 0, .v (.int .u32 0), .isl 1 (List.replicate 19 (.v (.int .i32 0))) none], .v (.int .i64 113), .v (.int .i64 0)]
theorem r22 : pureCall (env T5) (runA (env T5) 100000) 15 a22 = some y22 := by kernel_rfl
theorem c22 : PureOk Try.prog 15 a22 y22 := memo_run (fits k5) r22
def a23 : List AV := [.isl 1 ([B 1, B 1, B 0, B 0, B 0, B 1, B 2, B 0, B 0, B 1, B 1, B 0, B 0, B 0, B 1, B 2, B 0, B 0, B 0, B 0, B 0, B 0, B 9, B 20] ++ List.replicate 211 (B 0)) none]
def y23 : AV := .tup [.agg [B 1, B 1, .v (.int .u32 1), B 2, .v (.int .i64 1), B 1, .v (.int .u32 1), B 2, .v (.int .i64 9), .v (.int .i64 20), B 0, .v (.int .u32 0), B 0, .v (.int .i64 0), B 0, .v (.int .u32 0), .isl 1 (List.replicate 20 (.v (.int .i32 0))) none], .v (.int .i64 117), .v (.int .i64 0)]
theorem r23 : pureCall (env T5) (runA (env T5) 100000) 15 a23 = some y23 := by kernel_rfl
theorem c23 : PureOk Try.prog 15 a23 y23 := memo_run (fits k5) r23
def a24 : List AV := [.isl 1 ([B 1, B 1, B 0, B 0, B 0, B 1, B 2, B 0, B 0, B 1, B 1, B 0, B 0, B 0, B 1, B 2, B 0, B 0, B 0, B 0, B 0, B 0, B 9, B 64] ++ List.replicate 330 (B 0)) none]
def y24 : AV := .tup [.agg [B 1, B 1, .v (.int .u32 1), B 2, .v (.int .i64 1), B 1, .v (.int .u32 1), B 2, .v (.int .i64 9), .v (.int .i64 64), B 0, .v (.int .u32 0), B 0, .v (.int .i64 0), B 0, .v (.int .u32 0), .isl 1 (List.replicate 64 (.v (.int .i32 0))) none], .v (.int .i64 293), .v (.int .i64 0)]
theorem r24 : pureCall (env T5) (runA (env T5) 100000) 15 a24 = some y24 := by kernel_rfl
theorem c24 : PureOk Try.prog 15 a24 y24 := memo_run (fits k5) r24
def a25 : List AV := [.isl 1 ([B 2, B 1, B 0, B 0, B 0, B 1, B 2, B 0, B 0, B 1, B 1, B 0, B 0, B 0, B 1, B 2, B 0, B 0, B 0, B 0, B 0, B 0, B 9, B 2] ++ List.replicate 92 (B 0)) none]
def y25 : AV := .tup [.agg [B 2, B 1, .v (.int .u32 1), B 2, .v (.int .i64 1), B 1, .v (.int .u32 1), B 2, .v (.int .i64 9), .v (.int .i64 2), B 0, .v (.int .u32 0), B 0, .v (.int .i64 0), B 0, .v (.int .u32 0), .v (.slice none 0 0)], .v (.int .i64 24), .v (.int .i64 0)]
theorem r25 : pureCall (env T5) (runA (env T5) 100000) 15 a25 = some y25 := by kernel_rfl
theorem c25 : PureOk Try.prog 15 a25 y25 := memo_run (fits k5) r25
def T6 : Memo := (15, a25, y25) :: (15, a24, y24) :: (15, a23, y23) :: (15, a22, y22) :: T5
theorem k6 : Known T6 := memo_cons c25 (memo_cons c24 (memo_cons c23 (memo_cons c22 (k5))))
def a26 : List AV := [.agg [B 0, .v (.int .i64 0), B 0, B 0, .v (.int .u32 0), B 0, .v (.int .i64 0), B 0, .v (.int .u32 0), B 0, .v (.int .i64 0), .v (.int .i64 0), B 0, .v (.int .u32 0), B 0, .v (.int .i64 0), B 0, .v (.int .u32 0), .v (.slice none 0 0), .v (.int .i64 0), .v (.int .i64 0), B 0, .v (.int .u32 0), .v (.bool false)]]
def y26 : AV := .tup [.isl 1 [B 0] (some 1), .v (.bool false)]
theorem r26 : pureCall (env T6) (runA (env T6) 100000) 74 a26 = some y26 := by kernel_rfl
theorem c26 : PureOk Try.prog 74 a26 y26 := memo_run (fits k6) r26
def a27 : List AV := [.agg [B 1, .v (.int .i64 3), B 0, B 1, .v (.int .u32 1), B 2, .v (.int .i64 0), B 0, .v (.int .u32 0), B 0, .v (.int .i64 0), .v (.int .i64 0), B 0, .v (.int .u32 0), B 0, .v (.int .i64 0), B 0, .v (.int .u32 0), .v (.slice none 0 0), .v (.int .i64 0), .v (.int .i64 0), B 0, .v (.int .u32 0), .v (.bool false)]]
def y27 : AV := .tup [.isl 1 [B 1, B 1, B 0, B 0, B 0, B 1, B 2, B 3] none, .v (.bool true)]
theorem r27 : pureCall (env T6) (runA (env T6) 100000) 74 a27 = some y27 := by kernel_rfl
theorem c27 : PureOk Try.prog 74 a27 y27 := memo_run (fits k6) r27
def a28 : List AV := [.agg [B 1, .v (.int .i64 3), B 0, B 1, .v (.int .u32 1), B 2, .v (.int .i64 0), B 0, .v (.int .u32 0), B 0, .v (.int .i64 0), .v (.int .i64 0), B 0, .v (.int .u32 0), B 0, .v (.int .i64 0), B 0, .v (.int .u32 0), .v (.slice none 0 0), .v (.int .i64 1), .v (.int .i64 0), B 0, .v (.int .u32 0), .v (.bool false)]]
def y28 : AV := .tup [.isl 1 [B 1, B 1, B 0, B 0, B 0, B 1, B 2, B 3] none, .v (.bool false)]
theorem r28 : pureCall (env T6) (runA (env T6) 100000) 74 a28 = some y28 := by kernel_rfl
theorem c28 : PureOk Try.prog 74 a28 y28 := memo_run (fits k6) r28
def a29 : List AV := [.agg [B 2, .v (.int .i64 0), B 1, B 1, .v (.int .u32 1), B 2, .v (.int .i64 1), B 1, .v (.int .u32 1), B 2, .v (.int .i64 9), .v (.int .i64 1), B 0, .v (.int .u32 0), B 0, .v (.int .i64 0), B 0, .v (.int .u32 0), .isl 1 [.v (.int .i32 (-1))] none, .v (.int .i64 0), .v (.int .i64 0), B 0, .v (.int .u32 0), .v (.bool false)]]
def y29 : AV := .tup [.isl 1 ([B 2, B 0, B 0, B 1, B 1, B 0, B 0, B 0, B 1, B 2, B 0, B 0, B 1, B 1, B 0, B 0, B 0, B 1, B 2, B 0, B 0, B 0, B 0, B 0, B 0, B 9, B 1] ++ List.replicate 13 (B 0) ++ [B 255, B 255, B 255, B 255]) none, .v (.bool false)]
theorem r29 : pureCall (env T6) (runA (env T6) 100000) 74 a29 = some y29 := by kernel_rfl
theorem c29 : PureOk Try.prog 74 a29 y29 := memo_run (fits k6) r29
def a30 : List AV := [.agg [B 2, .v (.int .i64 0), B 1, B 1, .v (.int .u32 1), B 2, .v (.int .i64 1), B 1, .v (.int .u32 1), B 2, .v (.int .i64 9), .v (.int .i64 19), B 0, .v (.int .u32 0), B 0, .v (.int .i64 0), B 0, .v (.int .u32 0), .isl 1 (List.replicate 19 (.v (.int .i32 0))) none, .v (.int .i64 0), .v (.int .i64 0), B 0, .v (.int .u32 0), .v (.bool false)]]
def y30 : AV := .tup [.isl 1 ([B 2, B 0, B 0, B 1, B 1, B 0, B 0, B 0, B 1, B 2, B 0, B 0, B 1, B 1, B 0, B 0, B 0, B 1, B 2, B 0, B 0, B 0, B 0, B 0, B 0, B 9, B 19] ++ List.replicate 89 (B 0)) none, .v (.bool true)]
theorem r30 : pureCall (env T6) (runA (env T6) 100000) 74 a30 = some y30 := by kernel_rfl
theorem c30 : PureOk Try.prog 74 a30 y30 := memo_run (fits k6) r30
def a31 : List AV := [.agg [B 2, .v (.int .i64 0), B 1, B 1, .v (.int .u32 1), B 2, .v (.int .i64 1), B 1, .v (.int .u32 1), B 2, .v (.int .i64 9), .v (.int .i64 20), B 0, .v (.int .u32 0), B 0, .v (.int .i64 0), B 0, .v (.int .u32 0), .isl 1 (List.replicate 20 (.v (.int .i32 0))) none, .v (.int .i64 0), .v (.int .i64 0), B 0, .v (.int .u32 0), .v (.bool false)]]
def y31 : AV := .tup [.isl 1 ([B 2, B 0, B 0, B 1, B 1, B 0, B 0, B 0, B 1, B 2, B 0, B 0, B 1, B 1, B 0, B 0, B 0, B 1, B 2, B 0, B 0, B 0, B 0, B 0, B 0, B 9, B 20] ++ List.replicate 93 (B 0)) none, .v (.bool true)]
theorem r31 : pureCall (env T6) (runA (env T6) 100000) 74 a31 = some y31 := by kernel_rfl
theorem c31 : PureOk Try.prog 74 a31 y31 := memo_run (fits k6) r31
def a32 : List AV := [.agg [B 2, .v (.int .i64 0), B 1, B 1, .v (.int .u32 1), B 2, .v (.int .i64 1), B 1, .v (.int .u32 1), B 2, .v (.int .i64 9), .v (.int .i64 64), B 0, .v (.int .u32 0), B 0, .v (.int .i64 0), B 0, .v (.int .u32 0), .isl 1 (List.replicate 64 (.v (.int .i32 0))) none, .v (.int .i64 0), .v (.int .i64 0), B 0, .v (.int .u32 0), .v (.bool false)]]
def y32 : AV := .tup [.isl 1 ([B 2, B 0, B 0, B 1, B 1, B 0, B 0, B 0, B 1, B 2, B 0, B 0, B 1, B 1, B 0, B 0, B 0, B 1, B 2, B 0, B 0, B 0, B 0, B 0, B 0, B 9, B 64] ++ List.replicate 269 (B 0)) none, .v (.bool true)]
theorem r32 : pureCall (env T6) (runA (env T6) 100000) 74 a32 = some y32 := by kernel_rfl
theorem c32 : PureOk Try.prog 74 a32 y32 := memo_run (fits k6) r32
def a33 : List AV := [.agg [B 2, .v (.int .i64 0), B 2, B 1, .v (.int .u32 1), B 2, .v (.int .i64 1), B 1, .v (.int .u32 1), B 2, .v (.int .i64 9), .v (.int .i64 2), B 0, .v (.int .u32 0), B 0, .v (.int .i64 0), B 0, .v (.int .u32 0), .v (.slice none 0 0), .v (.int .i64 0), .v (.int .i64 0), B 0, .v (.int .u32 0), .v (.bool false)]]
def y33 : AV := .tup [.isl 1 ([B 2, B 0, B 0, B 2, B 1, B 0, B 0, B 0, B 1, B 2, B 0, B 0, B 1, B 1, B 0, B 0, B 0, B 1, B 2, B 0, B 0, B 0, B 0, B 0, B 0, B 9, B 2]) none, .v (.bool true)]
theorem r33 : pureCall (env T6) (runA (env T6) 100000) 74 a33 = some y33 := by kernel_rfl
theorem c33 : PureOk Try.prog 74 a33 y33 := memo_run (fits k6) r33
def a34 : List AV := [.agg [B 3, .v (.int .i64 0), B 0, B 0, .v (.int .u32 0), B 0, .v (.int .i64 0), B 0, .v (.int .u32 0), B 0, .v (.int .i64 0), .v (.int .i64 0), B 0, .v (.int .u32 0), B 0, .v (.int .i64 0), B 0, .v (.int .u32 0), .v (.slice none 0 0), .v (.int .i64 0), .v (.int .i64 0), B 0, .v (.int .u32 0), .v (.bool false)]]
def y34 : AV := .tup [.isl 1 [B 3, B 0, B 0, B 0, B 0, B 0, B 0, B 0] none, .v (.bool true)]
theorem r34 : pureCall (env T6) (runA (env T6) 100000) 74 a34 = some y34 := by kernel_rfl
theorem c34 : PureOk Try.prog 74 a34 y34 := memo_run (fits k6) r34
def T7 : Memo := (74, a34, y34) :: (74, a33, y33) :: (74, a32, y32) :: (74, a31, y31) :: (74, a30, y30) :: (74, a29, y29) :: (74, a28, y28) :: (74, a27, y27) :: (74, a26, y26) :: T6
theorem k7 : Known T7 := memo_cons c34 (memo_cons c33 (memo_cons c32 (memo_cons c31 (memo_cons c30 (memo_cons c29 (memo_cons c28 (memo_cons c27 (memo_cons c26 (k6)))))))))
def a35 : List AV := [.agg [B 1, .v (.int .i64 3), B 0, B 1, .v (.int .u32 1), B 2, .v (.int .i64 0), B 0, .v (.int .u32 0), B 0, .v (.int .i64 0), .v (.int .i64 0), B 0, .v (.int .u32 0), B 0, .v (.int .i64 0), B 0, .v (.int .u32 0), .v (.slice none 0 0), .v (.int .i64 0), .v (.int .i64 0), B 0, .v (.int .u32 0), .v (.bool false)], .v (.int .i64 0), .v (.int .i64 2)]
def y35 : AV := .tup [.v (.slice none 0 0), .v (.int .i64 2)]
theorem r35 : pureCall (env T7) (runA (env T7) 100000) 41 a35 = some y35 := by kernel_rfl
theorem c35 : PureOk Try.prog 41 a35 y35 := memo_run (fits k7) r35
def a36 : List AV := [.agg [B 1, .v (.int .i64 3), B 0, B 1, .v (.int .u32 1), B 2, .v (.int .i64 0), B 0, .v (.int .u32 0), B 0, .v (.int .i64 0), .v (.int .i64 0), B 0, .v (.int .u32 0), B 0, .v (.int .i64 0), B 0, .v (.int .u32 0), .v (.slice none 0 0), .v (.int .i64 0), .v (.int .i64 0), B 0, .v (.int .u32 0), .v (.bool false)], .v (.int .i64 1), .v (.int .i64 2)]
def y36 : AV := .tup [.fsl 1 [.isl 1 ([B 0, B 0, B 0, B 1, B 0, B 0, B 2, B 0, B 1, B 1, B 1, B 0, B 0, B 0, B 1, B 2, B 3] ++ List.replicate 111 (B 0)) none] none, .v (.int .i64 0)]
theorem r36 : pureCall (env T7) (runA (env T7) 100000) 41 a36 = some y36 := by kernel_rfl
theorem c36 : PureOk Try.prog 41 a36 y36 := memo_run (fits k7) r36
def a37 : List AV := [.agg [B 1, .v (.int .i64 3), B 0, B 1, .v (.int .u32 1), B 2, .v (.int .i64 0), B 0, .v (.int .u32 0), B 0, .v (.int .i64 0), .v (.int .i64 0), B 0, .v (.int .u32 0), B 0, .v (.int .i64 0), B 0, .v (.int .u32 0), .v (.slice none 0 0), .v (.int .i64 0), .v (.int .i64 0), B 0, .v (.int .u32 0), .v (.bool false)], .v (.int .i64 2147483648), .v (.int .i64 2)]
def y37 : AV := .tup [.v (.slice none 0 0), .v (.int .i64 2)]
theorem r37 : pureCall (env T7) (runA (env T7) 100000) 41 a37 = some y37 := by kernel_rfl
theorem c37 : PureOk Try.prog 41 a37 y37 := memo_run (fits k7) r37
def a38 : List AV := [.agg [B 1, .v (.int .i64 3), B 0, B 1, .v (.int .u32 1), B 2, .v (.int .i64 0), B 0, .v (.int .u32 0), B 0, .v (.int .i64 0), .v (.int .i64 0), B 0, .v (.int .u32 0), B 0, .v (.int .i64 0), B 0, .v (.int .u32 0), .v (.slice none 0 0), .v (.int .i64 0), .v (.int .i64 0), B 0, .v (.int .u32 0), .v (.bool false)], .v (.int .i64 7), .v (.int .i64 8)]
def y38 : AV := .tup [.fsl 1 [.isl 1 ([B 0, B 0, B 0, B 7, B 0, B 0, B 8, B 0, B 1, B 1, B 1, B 0, B 0, B 0, B 1, B 2, B 3] ++ List.replicate 111 (B 0)) none] none, .v (.int .i64 0)]
theorem r38 : pureCall (env T7) (runA (env T7) 100000) 41 a38 = some y38 := by kernel_rfl
theorem c38 : PureOk Try.prog 41 a38 y38 := memo_run (fits k7) r38
def a39 : List AV := [.agg [B 2, .v (.int .i64 0), B 1, B 1, .v (.int .u32 1), B 2, .v (.int .i64 1), B 1, .v (.int .u32 1), B 2, .v (.int .i64 9), .v (.int .i64 19), B 0, .v (.int .u32 0), B 0, .v (.int .i64 0), B 0, .v (.int .u32 0), .isl 1 (List.replicate 19 (.v (.int .i32 0))) none, .v (.int .i64 0), .v (.int .i64 0), B 0, .v (.int .u32 0), .v (.bool false)], .v (.int .i64 7), .v (.int .i64 8)]
def y39 : AV := .tup [.fsl 1 [.isl 1 ([B 0, B 0, B 0, B 7, B 0, B 0, B 8, B 0, B 1, B 2, B 0, B 0, B 1, B 1, B 0, B 0, B 0, B 1, B 2, B 0, B 0, B 1, B 1, B 0, B 0, B 0, B 1, B 2, B 0, B 0, B 0, B 0, B 0, B 0, B 9, B 19] ++ List.replicate 92 (B 0)) none] none, .v (.int .i64 0)]
theorem r39 : pureCall (env T7) (runA (env T7) 100000) 41 a39 = some y39 := by kernel_rfl
theorem c39 : PureOk Try.prog 41 a39 y39 := memo_run (fits k7) r39
def a40 : List AV := [.agg [B 2, .v (.int .i64 0), B 1, B 1, .v (.int .u32 1), B 2, .v (.int .i64 1), B 1, .v (.int .u32 1), B 2, .v (.int .i64 9), .v (.int .i64 20), B 0, .v (.int .u32 0), B 0, .v (.int .i64 0), B 0, .v (.int .u32 0), .isl 1 (List.replicate 20 (.v (.int .i32 0))) none, .v (.int .i64 0), .v (.int .i64 0), B 0, .v (.int .u32 0), .v (.bool false)], .v (.int .i64 7), .v (.int .i64 8)]
def y40 : AV := .tup [.fsl 1 [.isl 1 ([B 0, B 0, B 0, B 7, B 0, B 0, B 8, B 0, B 2, B 2, B 0, B 0, B 1, B 1, B 0, B 0, B 0, B 1, B 2, B 0, B 0, B 1, B 1, B 0, B 0, B 0, B 1, B 2, B 0, B 0, B 0, B 0, B 0, B 0, B 9, B 20] ++ List.replicate 92 (B 0)) none, .isl 1 ([B 0, B 0, B 0, B 7, B 0, B 0, B 8, B 1, B 2] ++ List.replicate 119 (B 0)) none] none, .v (.int .i64 0)]
theorem r40 : pureCall (env T7) (runA (env T7) 100000) 41 a40 = some y40 := by kernel_rfl
theorem c40 : PureOk Try.prog 41 a40 y40 := memo_run (fits k7) r40
def a41 : List AV := [.agg [B 2, .v (.int .i64 0), B 1, B 1, .v (.int .u32 1), B 2, .v (.int .i64 1), B 1, .v (.int .u32 1), B 2, .v (.int .i64 9), .v (.int .i64 64), B 0, .v (.int .u32 0), B 0, .v (.int .i64 0), B 0, .v (.int .u32 0), .isl 1 (List.replicate 64 (.v (.int .i32 0))) none, .v (.int .i64 0), .v (.int .i64 0), B 0, .v (.int .u32 0), .v (.bool false)], .v (.int .i64 7), .v (.int .i64 8)]
def y41 : AV := .tup [.fsl 1 [.isl 1 ([B 0, B 0, B 0, B 7, B 0, B 0, B 8, B 0, B 3, B 2, B 0, B 0, B 1, B 1, B 0, B 0, B 0, B 1, B 2, B 0, B 0, B 1, B 1, B 0, B 0, B 0, B 1, B 2, B 0, B 0, B 0, B 0, B 0, B 0, B 9, B 64] ++ List.replicate 92 (B 0)) none, .isl 1 ([B 0, B 0, B 0, B 7, B 0, B 0, B 8, B 1, B 3] ++ List.replicate 119 (B 0)) none, .isl 1 ([B 0, B 0, B 0, B 7, B 0, B 0, B 8, B 2, B 3] ++ List.replicate 119 (B 0)) none] none, .v (.int .i64 0)]
theorem r41 : pureCall (env T7) (runA (env T7) 100000) 41 a41 = some y41 := by kernel_rfl
theorem c41 : PureOk Try.prog 41 a41 y41 := memo_run (fits k7) r41
def a42 : List AV := [.agg [B 2, .v (.int .i64 0), B 2, B 1, .v (.int .u32 1), B 2, .v (.int .i64 1), B 1, .v (.int .u32 1), B 2, .v (.int .i64 9), .v (.int .i64 2), B 0, .v (.int .u32 0), B 0, .v (.int .i64 0), B 0, .v (.int .u32 0), .v (.slice none 0 0), .v (.int .i64 0), .v (.int .i64 0), B 0, .v (.int .u32 0), .v (.bool false)], .v (.int .i64 7), .v (.int .i64 8)]
def y42 : AV := .tup [.fsl 1 [.isl 1 ([B 0, B 0, B 0, B 7, B 0, B 0, B 8, B 0, B 1, B 2, B 0, B 0, B 2, B 1, B 0, B 0, B 0, B 1, B 2, B 0, B 0, B 1, B 1, B 0, B 0, B 0, B 1, B 2, B 0, B 0, B 0, B 0, B 0, B 0, B 9, B 2] ++ List.replicate 92 (B 0)) none] none, .v (.int .i64 0)]
theorem r42 : pureCall (env T7) (runA (env T7) 100000) 41 a42 = some y42 := by kernel_rfl
theorem c42 : PureOk Try.prog 41 a42 y42 := memo_run (fits k7) r42
def a43 : List AV := [.agg [B 3, .v (.int .i64 0), B 0, B 0, .v (.int .u32 0), B 0, .v (.int .i64 0), B 0, .v (.int .u32 0), B 0, .v (.int .i64 0), .v (.int .i64 0), B 0, .v (.int .u32 0), B 0, .v (.int .i64 0), B 0, .v (.int .u32 0), .v (.slice none 0 0), .v (.int .i64 0), .v (.int .i64 0), B 0, .v (.int .u32 0), .v (.bool false)], .v (.int .i64 7), .v (.int .i64 8)]
def y43 : AV := .tup [.fsl 1 [.isl 1 ([B 0, B 0, B 0, B 7, B 0, B 0, B 8, B 0, B 1, B 3] ++ List.replicate 118 (B 0)) none] none, .v (.int .i64 0)]
theorem r43 : pureCall (env T7) (runA (env T7) 100000) 41 a43 = some y43 := by kernel_rfl
theorem c43 : PureOk Try.prog 41 a43 y43 := memo_run (fits k7) r43
def T8 : Memo := (41, a43, y43) :: (41, a42, y42) :: (41, a41, y41) :: (41, a40, y40) :: (41, a39, y39) :: (41, a38, y38) :: (41, a37, y37) :: (41, a36, y36) :: (41, a35, y35) :: T7
theorem k8 : Known T8 := memo_cons c43 (memo_cons c42 (memo_cons c41 (memo_cons c40 (memo_cons c39 (memo_cons c38 (memo_cons c37 (memo_cons c36 (memo_cons c35 (k7)))))))))
def a44 : List AV := [.isl 1 [.isl 1 ([B 0, B 0, B 0, B 7, B 0, B 0, B 8, B 0, B 1, B 1, B 1, B 0, B 0, B 0, B 1, B 2, B 3] ++ List.replicate 111 (B 0)) none] none]
def y44 : AV := .tup [.agg [B 1, .v (.int .i64 3), B 0, B 1, .v (.int .u32 1), B 2, .v (.int .i64 0), B 0, .v (.int .u32 0), B 0, .v (.int .i64 0), .v (.int .i64 0), B 0, .v (.int .u32 0), B 0, .v (.int .i64 0), B 0, .v (.int .u32 0), .v (.slice none 0 0), .v (.int .i64 0), .v (.int .i64 0), B 0, .v (.int .u32 0), .v (.bool false)], .agg [.v (.int .i64 7), .v (.int .i64 8), .v (.int .i64 0), .v (.int .i64 1)], .v (.int .i64 0)]
theorem r44 : pureCall (env T8) (runA (env T8) 100000) 42 a44 = some y44 := by kernel_rfl
theorem c44 : PureOk Try.prog 42 a44 y44 := memo_run (fits k8) r44
def a45 : List AV := [.isl 1 [.isl 1 ([B 0, B 0, B 0, B 7, B 0, B 0, B 8, B 0, B 1, B 2, B 0, B 0, B 1, B 1, B 0, B 0, B 0, B 1, B 2, B 0, B 0, B 1, B 1, B 0, B 0, B 0, B 1, B 2, B 0, B 0, B 0, B 0, B 0, B 0, B 9, B 19] ++ List.replicate 92 (B 0)) none] none]
def y45 : AV := .tup [.agg [B 2, .v (.int .i64 0), B 1, B 1, .v (.int .u32 1), B 2, .v (.int .i64 1), B 1, .v (.int .u32 1), B 2, .v (.int .i64 9), .v (.int .i64 19), B 0, .v (.int .u32 0), B 0, .v (.int .i64 0), B 0, .v (.int .u32 0), .isl 1 (List.replicate 19 (.v (.int .i32 0))) none, .v (.int .i64 0), .v (.int .i64 0), B 0, .v (.int .u32 0), .v (.bool false)], .agg [.v (.int .i64 7), .v (.int .i64 8), .v (.int .i64 0), .v (.int .i64 1)], .v (.int .i64 0)]
theorem r45 : pureCall (env T8) (runA (env T8) 100000) 42 a45 = some y45 := by kernel_rfl
theorem c45 : PureOk Try.prog 42 a45 y45 := memo_run (fits k8) r45
def a46 : List AV := [.isl 1 [.isl 1 ([B 0, B 0, B 0, B 7, B 0, B 0, B 8, B 0, B 1, B 2, B 0, B 0, B 2, B 1, B 0, B 0, B 0, B 1, B 2, B 0, B 0, B 1, B 1, B 0, B 0, B 0, B 1, B 2, B 0, B 0, B 0, B 0, B 0, B 0, B 9, B 2] ++ List.replicate 92 (B 0)) none] none]
def y46 : AV := .tup [.agg [B 2, .v (.int .i64 0), B 2, B 1, .v (.int .u32 1), B 2, .v (.int .i64 1), B 1, .v (.int .u32 1), B 2, .v (.int .i64 9), .v (.int .i64 2), B 0, .v (.int .u32 0), B 0, .v (.int .i64 0), B 0, .v (.int .u32 0), .v (.slice none 0 0), .v (.int .i64 0), .v (.int .i64 0), B 0, .v (.int .u32 0), .v (.bool false)], .agg [.v (.int .i64 7), .v (.int .i64 8), .v (.int .i64 0), .v (.int .i64 1)], .v (.int .i64 0)]
theorem r46 : pureCall (env T8) (runA (env T8) 100000) 42 a46 = some y46 := by kernel_rfl
theorem c46 : PureOk Try.prog 42 a46 y46 := memo_run (fits k8) r46
def a47 : List AV := [.isl 1 [.isl 1 ([B 0, B 0, B 0, B 7, B 0, B 0, B 8, B 0, B 1, B 3] ++ List.replicate 118 (B 0)) none] none]
def y47 : AV := .tup [.agg [B 3, .v (.int .i64 0), B 0, B 0, .v (.int .u32 0), B 0, .v (.int .i64 0), B 0, .v (.int .u32 0), B 0, .v (.int .i64 0), .v (.int .i64 0), B 0, .v (.int .u32 0), B 0, .v (.int .i64 0), B 0, .v (.int .u32 0), .v (.slice none 0 0), .v (.int .i64 0), .v (.int .i64 0), B 0, .v (.int .u32 0), .v (.bool false)], .agg [.v (.int .i64 7), .v (.int .i64 8), .v (.int .i64 0), .v (.int .i64 1)], .v (.int .i64 0)]
theorem r47 : pureCall (env T8) (runA (env T8) 100000) 42 a47 = some y47 := by kernel_rfl
theorem c47 : PureOk Try.prog 42 a47 y47 := memo_run (fits k8) r47
def a48 : List AV := [.isl 1 [.isl 1 ([B 0, B 0, B 0, B 7, B 0, B 0, B 8, B 0, B 2, B 2, B 0, B 0, B 1, B 1, B 0, B 0, B 0, B 1, B 2, B 0, B 0, B 1, B 1, B 0, B 0, B 0, B 1, B 2, B 0, B 0, B 0, B 0, B 0, B 0, B 9, B 20] ++ List.replicate 92 (B 0)) none, .isl 1 ([B 0, B 0, B 0, B 7, B 0, B 0, B 8, B 1, B 2] ++ List.replicate 119 (B 0)) none] none]
def y48 : AV := .tup [.agg [B 2, .v (.int .i64 0), B 1, B 1, .v (.int .u32 1), B 2, .v (.int .i64 1), B 1, .v (.int .u32 1), B 2, .v (.int .i64 9), .v (.int .i64 20), B 0, .v (.int .u32 0), B 0, .v (.int .i64 0), B 0, .v (.int .u32 0), .isl 1 (List.replicate 20 (.v (.int .i32 0))) none, .v (.int .i64 0), .v (.int .i64 0), B 0, .v (.int .u32 0), .v (.bool false)], .agg [.v (.int .i64 7), .v (.int .i64 8), .v (.int .i64 0), .v (.int .i64 2)], .v (.int .i64 0)]
theorem r48 : pureCall (env T8) (runA (env T8) 100000) 42 a48 = some y48 := by kernel_rfl
theorem c48 : PureOk Try.prog 42 a48 y48 := memo_run (fits k8) r48
def a49 : List AV := [.isl 1 [.isl 1 ([B 0, B 0, B 0, B 7, B 0, B 0, B 8, B 0, B 3, B 2, B 0, B 0, B 1, B 1, B 0, B 0, B 0, B 1, B 2, B 0, B 0, B 1, B 1, B 0, B 0, B 0, B 1, B 2, B 0, B 0, B 0, B 0, B 0, B 0, B 9, B 64] ++ List.replicate 92 (B 0)) none, .isl 1 ([B 0, B 0, B 0, B 7, B 0, B 0, B 8, B 1, B 3] ++ List.replicate 119 (B 0)) none, .isl 1 ([B 0, B 0, B 0, B 7, B 0, B 0, B 8, B 2, B 3] ++ List.replicate 119 (B 0)) none] none]
def y49 : AV := .tup [.agg [B 2, .v (.int .i64 0), B 1, B 1, .v (.int .u32 1), B 2, .v (.int .i64 1), B 1, .v (.int .u32 1), B 2, .v (.int .i64 9), .v (.int .i64 64), B 0, .v (.int .u32 0), B 0, .v (.int .i64 0), B 0, .v (.int .u32 0), .isl 1 (List.replicate 64 (.v (.int .i32 0))) none, .v (.int .i64 0), .v (.int .i64 0), B 0, .v (.int .u32 0), .v (.bool false)], .agg [.v (.int .i64 7), .v (.int .i64 8), .v (.int .i64 0), .v (.int .i64 3)], .v (.int .i64 0)]
theorem r49 : pureCall (env T8) (runA (env T8) 100000) 42 a49 = some y49 := by kernel_rfl
theorem c49 : PureOk Try.prog 42 a49 y49 := memo_run (fits k8) r49
def a50 : List AV := [.v (.slice none 0 0)]
def y50 : AV := .tup [.agg [B 0, .v (.int .i64 0), B 0, B 0, .v (.int .u32 0), B 0, .v (.int .i64 0), B 0, .v (.int .u32 0), B 0, .v (.int .i64 0), .v (.int .i64 0), B 0, .v (.int .u32 0), B 0, .v (.int .i64 0), B 0, .v (.int .u32 0), .v (.slice none 0 0), .v (.int .i64 0), .v (.int .i64 0), B 0, .v (.int .u32 0), .v (.bool false)], .agg [.v (.int .i64 0), .v (.int .i64 0), .v (.int .i64 0), .v (.int .i64 0)], .v (.int .i64 8)]
theorem r50 : pureCall (env T8) (runA (env T8) 100000) 42 a50 = some y50 := by kernel_rfl
theorem c50 : PureOk Try.prog 42 a50 y50 := memo_run (fits k8) r50
def T9 : Memo := (42, a50, y50) :: (42, a49, y49) :: (42, a48, y48) :: (42, a47, y47) :: (42, a46, y46) :: (42, a45, y45) :: (42, a44, y44) :: T8
theorem k9 : Known T9 := memo_cons c50 (memo_cons c49 (memo_cons c48 (memo_cons c47 (memo_cons c46 (memo_cons c45 (memo_cons c44 (k8)))))))
def a51 : List AV := [.agg [B 1, .v (.int .i64 3), B 0, B 1, .v (.int .u32 1), B 2, .v (.int .i64 0), B 0, .v (.int .u32 0), B 0, .v (.int .i64 0), .v (.int .i64 0), B 0, .v (.int .u32 0), B 0, .v (.int .i64 0), B 0, .v (.int .u32 0), .v (.slice none 0 0), .v (.int .i64 0), .v (.int .i64 0), B 0, .v (.int .u32 0), .v (.bool false)], .v (.int .i64 1)]
def y51 : AV := .v (.bool true)
theorem r51 : pureCall (env T9) (runA (env T9) 100000) 49 a51 = some y51 := by kernel_rfl
theorem c51 : PureOk Try.prog 49 a51 y51 := memo_run (fits k9) r51
def a52 : List AV := [.agg [B 2, .v (.int .i64 0), B 1, B 1, .v (.int .u32 1), B 2, .v (.int .i64 1), B 1, .v (.int .u32 1), B 2, .v (.int .i64 9), .v (.int .i64 19), B 0, .v (.int .u32 0), B 0, .v (.int .i64 0), B 0, .v (.int .u32 0), .isl 1 (List.replicate 19 (.v (.int .i32 0))) none, .v (.int .i64 0), .v (.int .i64 0), B 0, .v (.int .u32 0), .v (.bool false)], .v (.int .i64 1)]
def y52 : AV := .v (.bool true)
theorem r52 : pureCall (env T9) (runA (env T9) 100000) 49 a52 = some y52 := by kernel_rfl
theorem c52 : PureOk Try.prog 49 a52 y52 := memo_run (fits k9) r52
def a53 : List AV := [.agg [B 2, .v (.int .i64 0), B 1, B 1, .v (.int .u32 1), B 2, .v (.int .i64 1), B 1, .v (.int .u32 1), B 2, .v (.int .i64 9), .v (.int .i64 20), B 0, .v (.int .u32 0), B 0, .v (.int .i64 0), B 0, .v (.int .u32 0), .isl 1 (List.replicate 20 (.v (.int .i32 0))) none, .v (.int .i64 0), .v (.int .i64 0), B 0, .v (.int .u32 0), .v (.bool false)], .v (.int .i64 2)]
def y53 : AV := .v (.bool true)
theorem r53 : pureCall (env T9) (runA (env T9) 100000) 49 a53 = some y53 := by kernel_rfl
theorem c53 : PureOk Try.prog 49 a53 y53 := memo_run (fits k9) r53
def a54 : List AV := [.agg [B 2, .v (.int .i64 0), B 1, B 1, .v (.int .u32 1), B 2, .v (.int .i64 1), B 1, .v (.int .u32 1), B 2, .v (.int .i64 9), .v (.int .i64 64), B 0, .v (.int .u32 0), B 0, .v (.int .i64 0), B 0, .v (.int .u32 0), .isl 1 (List.replicate 64 (.v (.int .i32 0))) none, .v (.int .i64 0), .v (.int .i64 0), B 0, .v (.int .u32 0), .v (.bool false)], .v (.int .i64 3)]
def y54 : AV := .v (.bool true)
theorem r54 : pureCall (env T9) (runA (env T9) 100000) 49 a54 = some y54 := by kernel_rfl
theorem c54 : PureOk Try.prog 49 a54 y54 := memo_run (fits k9) r54
def a55 : List AV := [.agg [B 2, .v (.int .i64 0), B 2, B 1, .v (.int .u32 1), B 2, .v (.int .i64 1), B 1, .v (.int .u32 1), B 2, .v (.int .i64 9), .v (.int .i64 2), B 0, .v (.int .u32 0), B 0, .v (.int .i64 0), B 0, .v (.int .u32 0), .v (.slice none 0 0), .v (.int .i64 0), .v (.int .i64 0), B 0, .v (.int .u32 0), .v (.bool false)], .v (.int .i64 1)]
def y55 : AV := .v (.bool true)
theorem r55 : pureCall (env T9) (runA (env T9) 100000) 49 a55 = some y55 := by kernel_rfl
theorem c55 : PureOk Try.prog 49 a55 y55 := memo_run (fits k9) r55
def a56 : List AV := [.agg [B 3, .v (.int .i64 0), B 0, B 0, .v (.int .u32 0), B 0, .v (.int .i64 0), B 0, .v (.int .u32 0), B 0, .v (.int .i64 0), .v (.int .i64 0), B 0, .v (.int .u32 0), B 0, .v (.int .i64 0), B 0, .v (.int .u32 0), .v (.slice none 0 0), .v (.int .i64 0), .v (.int .i64 0), B 0, .v (.int .u32 0), .v (.bool false)], .v (.int .i64 1)]
def y56 : AV := .v (.bool true)
theorem r56 : pureCall (env T9) (runA (env T9) 100000) 49 a56 = some y56 := by kernel_rfl
theorem c56 : PureOk Try.prog 49 a56 y56 := memo_run (fits k9) r56
def T10 : Memo := (49, a56, y56) :: (49, a55, y55) :: (49, a54, y54) :: (49, a53, y53) :: (49, a52, y52) :: (49, a51, y51) :: T9
theorem k10 : Known T10 := memo_cons c56 (memo_cons c55 (memo_cons c54 (memo_cons c53 (memo_cons c52 (memo_cons c51 (k9))))))
def a57 : List AV := []
def y57 : AV := .v (.bool true)
theorem r57 : pureCall (env T10) (runA (env T10) 100000) 40 a57 = some y57 := by kernel_rfl
theorem c57 : PureOk Try.prog 40 a57 y57 := memo_run (fits k10) r57
theorem alive : PureOk Try.prog 40 [] (.v (.bool true)) := c57
end Go.Proofs.Ytehkjjcdkbcebaa.recAlive
