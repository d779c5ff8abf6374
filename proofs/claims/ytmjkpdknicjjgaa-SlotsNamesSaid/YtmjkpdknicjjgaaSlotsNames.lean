/-
  'Rows.SlotsNamesSaid' is proved: the law returns true. No conditions.
-/
import Derived.Test.YtmjkpdknicjjgaaRows
import Derived.Test.YtmjkpdknicjjgaaAbsEnv
import Derived.Test.YtmjkpdknicjjgaaInsLs
set_option linter.unusedVariables false
set_option maxRecDepth 1000000
namespace Go.Proofs.Ytmjkpdknicjjgaa.slotsNames
open Go.Ab Go.ChangeShapes Go.WideShapes Go.RowKit
def B (n : Int) : AV := .v (.int .u8 n)
abbrev Memo := List (FuncId × List AV × AV)
def fns : List FuncId := [6, 9, 10, 14, 15, 19, 20, 22, 23, 24, 25, 27, 28, 29, 30, 32, 33, 34, 35, 36, 37, 38, 39, 40, 41, 42, 43, 44, 45, 46, 47, 48, 49, 50, 51, 52, 53, 54, 55, 56, 57, 58, 59, 60, 61, 64, 65, 66, 67, 68, 69, 70, 71, 72, 73, 74, 75, 76, 77, 78, 79, 80, 81, 82, 83, 84, 85, 86, 87, 88, 89, 90, 91, 92, 94, 95, 96, 97, 98, 99, 100, 101, 102, 103, 104, 105, 106, 107, 108, 109, 110, 111, 112]
noncomputable def env (memo : Memo) : Env := envOf Try.prog fns [30, 44, 47, 53, 65, 98] [42, 64, 95, 96] (strictOf [(19, 13, 18), (16, 1, 77777), (55, 1, 88888)]) (tabApart [(49, 9, 0, [(6, 50), (6, 54)]), (81, 5, 9, [(82, 8)]), (15, 12, 0, [(20, 23)]), (52, 10, 0, [(56, 58)]), (13, 5, 4, [(3, 2)]), (67, 5, 4, [(3, 2)]), (7, 6, 0, [(3, 5)]), (14, 5, 3, [(15, 2)]), (35, 21, 0, [(36, 52), (37, 52), (38, 52), (41, 52), (42, 52), (43, 52), (47, 52), (48, 52), (49, 52)]), (145, 8, 4, [(148, 2)])]) (tabFrz [(19, 13, 18), (16, 1, 77777), (55, 1, 88888)]) memo (fun _ => false) (fun _ => none) (fun f args H => if f = 42 then insSpec Try.prog 22 40 args H else none)
theorem fnsFit : fnsOk (env []) fns = true := by kernel_rfl
theorem follows : Try.prog.follows .mixedOrders = true := by kernel_rfl
abbrev Known (T : Memo) : Prop := ∀ p ∈ T, PureOk Try.prog p.1 p.2.1 p.2.2
theorem fits {T : Memo} (h : Known T) : (env T).Ok (drawOk (env T)) := envX_ok h follows fnsFit (fun f t h => by cases h) (fun f args H y H' h => by
  by_cases e : f = 42
  · rw [if_pos e] at h
    rw [e]
    exact ins.insOkSpec args H y H' h
  · rw [if_neg e] at h; cases h)
def T0 : Memo := []
theorem k0 : Known T0 := memo_nil
def a1 : List AV := [.agg [B 1, .v (.int .i64 1), B 0, B 1, .v (.int .u32 1), B 2, .v (.int .i64 0), B 0, .v (.int .u32 0), B 0, .v (.int .i64 0), .v (.int .i64 0), B 0, .v (.int .u32 0), B 0, .v (.int .i64 0), B 0, .v (.int .u32 0), .v (.slice none 0 0), .v (.int .i64 0), .v (.int .i64 0), B 0, .v (.int .u32 0), .v (.bool false)], .v (.int .i64 1), .v (.int .i64 1)]
def y1 : AV := .tup [.isl 1 [.isl 1 ([B 0, B 0, B 0, B 1, B 0, B 0, B 1, B 0, B 1, B 1, B 1, B 0, B 0, B 0, B 1, B 2, B 1] ++ List.replicate 111 (B 0)) none] none, .v (.int .i64 0)]
theorem r1 : pureCall (env T0) (runA (env T0) 100000) 33 a1 = some y1 := by kernel_rfl
theorem c1 : PureOk Try.prog 33 a1 y1 := memo_run (fits k0) r1
def a2 : List AV := [.agg [B 1, .v (.int .i64 1), B 0, B 1, .v (.int .u32 1), B 2, .v (.int .i64 0), B 0, .v (.int .u32 0), B 0, .v (.int .i64 0), .v (.int .i64 0), B 0, .v (.int .u32 0), B 0, .v (.int .i64 0), B 0, .v (.int .u32 0), .v (.slice none 0 0), .v (.int .i64 0), .v (.int .i64 0), B 0, .v (.int .u32 0), .v (.bool false)], .v (.int .i64 2), .v (.int .i64 1)]
def y2 : AV := .tup [.isl 1 [.isl 1 ([B 0, B 0, B 0, B 2, B 0, B 0, B 1, B 0, B 1, B 1, B 1, B 0, B 0, B 0, B 1, B 2, B 1] ++ List.replicate 111 (B 0)) none] none, .v (.int .i64 0)]
theorem r2 : pureCall (env T0) (runA (env T0) 100000) 33 a2 = some y2 := by kernel_rfl
theorem c2 : PureOk Try.prog 33 a2 y2 := memo_run (fits k0) r2
def a3 : List AV := [.agg [B 1, .v (.int .i64 2), B 0, B 1, .v (.int .u32 1), B 2, .v (.int .i64 0), B 0, .v (.int .u32 0), B 0, .v (.int .i64 0), .v (.int .i64 0), B 0, .v (.int .u32 0), B 0, .v (.int .i64 0), B 0, .v (.int .u32 0), .v (.slice none 0 0), .v (.int .i64 0), .v (.int .i64 0), B 0, .v (.int .u32 0), .v (.bool false)], .v (.int .i64 2), .v (.int .i64 2)]
def y3 : AV := .tup [.isl 1 [.isl 1 ([B 0, B 0, B 0, B 2, B 0, B 0, B 2, B 0, B 1, B 1, B 1, B 0, B 0, B 0, B 1, B 2, B 2] ++ List.replicate 111 (B 0)) none] none, .v (.int .i64 0)]
theorem r3 : pureCall (env T0) (runA (env T0) 100000) 33 a3 = some y3 := by kernel_rfl
theorem c3 : PureOk Try.prog 33 a3 y3 := memo_run (fits k0) r3
def a4 : List AV := [.agg [B 1, .v (.int .i64 2), B 0, B 1, .v (.int .u32 1), B 2, .v (.int .i64 0), B 0, .v (.int .u32 0), B 0, .v (.int .i64 0), .v (.int .i64 0), B 0, .v (.int .u32 0), B 0, .v (.int .i64 0), B 0, .v (.int .u32 0), .v (.slice none 0 0), .v (.int .i64 0), .v (.int .i64 0), B 0, .v (.int .u32 0), .v (.bool false)], .v (.int .i64 1), .v (.int .i64 2)]
def y4 : AV := .tup [.isl 1 [.isl 1 ([B 0, B 0, B 0, B 1, B 0, B 0, B 2, B 0, B 1, B 1, B 1, B 0, B 0, B 0, B 1, B 2, B 2] ++ List.replicate 111 (B 0)) none] none, .v (.int .i64 0)]
theorem r4 : pureCall (env T0) (runA (env T0) 100000) 33 a4 = some y4 := by kernel_rfl
theorem c4 : PureOk Try.prog 33 a4 y4 := memo_run (fits k0) r4
def T1 : Memo := (33, a4, y4) :: (33, a3, y3) :: (33, a2, y2) :: (33, a1, y1) :: T0
theorem k1 : Known T1 := memo_cons c4 (memo_cons c3 (memo_cons c2 (memo_cons c1 (k0))))
def a5 : List AV := [.isl 1 ([B 0, B 0, B 0, B 1, B 0, B 0, B 1, B 0, B 1, B 1, B 1, B 0, B 0, B 0, B 1, B 2, B 1] ++ List.replicate 111 (B 0)) none]
def y5 : AV := .tup [.agg [.v (.int .i64 1), .v (.int .i64 1), .v (.int .i64 0), .v (.int .i64 1)], .v (.int .i64 0)]
theorem r5 : pureCall (env T1) (runA (env T1) 100000) 50 a5 = some y5 := by kernel_rfl
theorem c5 : PureOk Try.prog 50 a5 y5 := memo_run (fits k1) r5
def a6 : List AV := [.isl 1 ([B 0, B 0, B 0, B 1, B 0, B 0, B 2, B 0, B 1, B 1, B 1, B 0, B 0, B 0, B 1, B 2, B 2] ++ List.replicate 111 (B 0)) none]
def y6 : AV := .tup [.agg [.v (.int .i64 1), .v (.int .i64 2), .v (.int .i64 0), .v (.int .i64 1)], .v (.int .i64 0)]
theorem r6 : pureCall (env T1) (runA (env T1) 100000) 50 a6 = some y6 := by kernel_rfl
theorem c6 : PureOk Try.prog 50 a6 y6 := memo_run (fits k1) r6
def T2 : Memo := (50, a6, y6) :: (50, a5, y5) :: T1
theorem k2 : Known T2 := memo_cons c6 (memo_cons c5 (k1))
def a7 : List AV := [.isl 1 [.isl 1 ([B 0, B 0, B 0, B 1, B 0, B 0, B 1, B 0, B 1, B 1, B 1, B 0, B 0, B 0, B 1, B 2, B 1] ++ List.replicate 111 (B 0)) none] none]
def y7 : AV := .tup [.agg [B 1, .v (.int .i64 1), B 0, B 1, .v (.int .u32 1), B 2, .v (.int .i64 0), B 0, .v (.int .u32 0), B 0, .v (.int .i64 0), .v (.int .i64 0), B 0, .v (.int .u32 0), B 0, .v (.int .i64 0), B 0, .v (.int .u32 0), .v (.slice none 0 0), .v (.int .i64 0), .v (.int .i64 0), B 0, .v (.int .u32 0), .v (.bool false)], .agg [.v (.int .i64 1), .v (.int .i64 1), .v (.int .i64 0), .v (.int .i64 1)], .v (.int .i64 0)]
theorem r7 : pureCall (env T2) (runA (env T2) 100000) 51 a7 = some y7 := by kernel_rfl
theorem c7 : PureOk Try.prog 51 a7 y7 := memo_run (fits k2) r7
def a8 : List AV := [.isl 1 [.isl 1 ([B 0, B 0, B 0, B 1, B 0, B 0, B 2, B 0, B 1, B 1, B 1, B 0, B 0, B 0, B 1, B 2, B 2] ++ List.replicate 111 (B 0)) none] none]
def y8 : AV := .tup [.agg [B 1, .v (.int .i64 2), B 0, B 1, .v (.int .u32 1), B 2, .v (.int .i64 0), B 0, .v (.int .u32 0), B 0, .v (.int .i64 0), .v (.int .i64 0), B 0, .v (.int .u32 0), B 0, .v (.int .i64 0), B 0, .v (.int .u32 0), .v (.slice none 0 0), .v (.int .i64 0), .v (.int .i64 0), B 0, .v (.int .u32 0), .v (.bool false)], .agg [.v (.int .i64 1), .v (.int .i64 2), .v (.int .i64 0), .v (.int .i64 1)], .v (.int .i64 0)]
theorem r8 : pureCall (env T2) (runA (env T2) 100000) 51 a8 = some y8 := by kernel_rfl
theorem c8 : PureOk Try.prog 51 a8 y8 := memo_run (fits k2) r8
def T3 : Memo := (51, a8, y8) :: (51, a7, y7) :: T2
theorem k3 : Known T3 := memo_cons c8 (memo_cons c7 (k2))
def a9 : List AV := [.agg [.v (.slice none 0 0), .v (.int .i64 1), .v (.int .i64 (-1)), .v (.bool false)], .v (.int .i64 4096), .isl 1 ([B 0, B 0, B 0, B 1, B 0, B 0, B 1, B 0, B 1, B 1, B 1, B 0, B 0, B 0, B 1, B 2, B 1] ++ List.replicate 111 (B 0)) none]
def y9 : AV := .tup [.agg [.isl 2 [.agg [.v (.int .i64 4096), .isl 1 ([B 0, B 0, B 0, B 1, B 0, B 0, B 1, B 0, B 1, B 1, B 1, B 0, B 0, B 0, B 1, B 2, B 1] ++ List.replicate 111 (B 0)) none]] none, .v (.int .i64 1), .v (.int .i64 (-1)), .v (.bool false)], .v (.int .i64 0)]
theorem r9 : pureCall (env T3) (runA (env T3) 100000) 27 a9 = some y9 := by kernel_rfl
theorem c9 : PureOk Try.prog 27 a9 y9 := memo_run (fits k3) r9
def a10 : List AV := [.agg [.isl 2 [.agg [.v (.int .i64 4096), .isl 1 ([B 0, B 0, B 0, B 1, B 0, B 0, B 1, B 0, B 1, B 1, B 1, B 0, B 0, B 0, B 1, B 2, B 1] ++ List.replicate 111 (B 0)) none]] none, .v (.int .i64 1), .v (.int .i64 (-1)), .v (.bool false)], .v (.int .i64 6145), .isl 1 ([B 77, B 0, B 0, B 0, B 1, B 0, B 0, B 1] ++ List.replicate 120 (B 0)) none]
def y10 : AV := .tup [.agg [.isl 2 [.agg [.v (.int .i64 4096), .isl 1 ([B 0, B 0, B 0, B 1, B 0, B 0, B 1, B 0, B 1, B 1, B 1, B 0, B 0, B 0, B 1, B 2, B 1] ++ List.replicate 111 (B 0)) none], .agg [.v (.int .i64 6145), .isl 1 ([B 77, B 0, B 0, B 0, B 1, B 0, B 0, B 1] ++ List.replicate 120 (B 0)) none]] none, .v (.int .i64 1), .v (.int .i64 (-1)), .v (.bool false)], .v (.int .i64 0)]
theorem r10 : pureCall (env T3) (runA (env T3) 100000) 27 a10 = some y10 := by kernel_rfl
theorem c10 : PureOk Try.prog 27 a10 y10 := memo_run (fits k3) r10
def a11 : List AV := [.agg [.isl 2 [.agg [.v (.int .i64 4096), .isl 1 ([B 0, B 0, B 0, B 1, B 0, B 0, B 1, B 0, B 1, B 1, B 1, B 0, B 0, B 0, B 1, B 2, B 1] ++ List.replicate 111 (B 0)) none], .agg [.v (.int .i64 6145), .isl 1 ([B 77, B 0, B 0, B 0, B 1, B 0, B 0, B 1] ++ List.replicate 120 (B 0)) none]] none, .v (.int .i64 2), .v (.int .i64 2), .v (.bool false)], .v (.int .i64 2048), .isl 1 ([B 0, B 0, B 0, B 2, B 0, B 0, B 1, B 0, B 1, B 1, B 1, B 0, B 0, B 0, B 1, B 2, B 1] ++ List.replicate 111 (B 0)) none]
def y11 : AV := .tup [.agg [.isl 2 [.agg [.v (.int .i64 2048), .isl 1 ([B 0, B 0, B 0, B 2, B 0, B 0, B 1, B 0, B 1, B 1, B 1, B 0, B 0, B 0, B 1, B 2, B 1] ++ List.replicate 111 (B 0)) none], .agg [.v (.int .i64 4096), .isl 1 ([B 0, B 0, B 0, B 1, B 0, B 0, B 1, B 0, B 1, B 1, B 1, B 0, B 0, B 0, B 1, B 2, B 1] ++ List.replicate 111 (B 0)) none], .agg [.v (.int .i64 6145), .isl 1 ([B 77, B 0, B 0, B 0, B 1, B 0, B 0, B 1] ++ List.replicate 120 (B 0)) none]] none, .v (.int .i64 2), .v (.int .i64 1), .v (.bool false)], .v (.int .i64 0)]
theorem r11 : pureCall (env T3) (runA (env T3) 100000) 27 a11 = some y11 := by kernel_rfl
theorem c11 : PureOk Try.prog 27 a11 y11 := memo_run (fits k3) r11
def a12 : List AV := [.agg [.isl 2 [.agg [.v (.int .i64 2048), .isl 1 ([B 0, B 0, B 0, B 2, B 0, B 0, B 1, B 0, B 1, B 1, B 1, B 0, B 0, B 0, B 1, B 2, B 1] ++ List.replicate 111 (B 0)) none], .agg [.v (.int .i64 4096), .isl 1 ([B 0, B 0, B 0, B 1, B 0, B 0, B 1, B 0, B 1, B 1, B 1, B 0, B 0, B 0, B 1, B 2, B 1] ++ List.replicate 111 (B 0)) none], .agg [.v (.int .i64 6145), .isl 1 ([B 77, B 0, B 0, B 0, B 1, B 0, B 0, B 1] ++ List.replicate 120 (B 0)) none]] none, .v (.int .i64 2), .v (.int .i64 1), .v (.bool false)], .v (.int .i64 2049), .isl 1 ([B 0, B 0, B 0, B 2, B 0, B 0, B 2, B 0, B 1, B 1, B 1, B 0, B 0, B 0, B 1, B 2, B 2] ++ List.replicate 111 (B 0)) none]
def y12 : AV := .tup [.agg [.isl 2 [.agg [.v (.int .i64 2048), .isl 1 ([B 0, B 0, B 0, B 2, B 0, B 0, B 1, B 0, B 1, B 1, B 1, B 0, B 0, B 0, B 1, B 2, B 1] ++ List.replicate 111 (B 0)) none], .agg [.v (.int .i64 2049), .isl 1 ([B 0, B 0, B 0, B 2, B 0, B 0, B 2, B 0, B 1, B 1, B 1, B 0, B 0, B 0, B 1, B 2, B 2] ++ List.replicate 111 (B 0)) none], .agg [.v (.int .i64 4096), .isl 1 ([B 0, B 0, B 0, B 1, B 0, B 0, B 1, B 0, B 1, B 1, B 1, B 0, B 0, B 0, B 1, B 2, B 1] ++ List.replicate 111 (B 0)) none], .agg [.v (.int .i64 6145), .isl 1 ([B 77, B 0, B 0, B 0, B 1, B 0, B 0, B 1] ++ List.replicate 120 (B 0)) none]] none, .v (.int .i64 2), .v (.int .i64 0), .v (.bool false)], .v (.int .i64 0)]
theorem r12 : pureCall (env T3) (runA (env T3) 100000) 27 a12 = some y12 := by kernel_rfl
theorem c12 : PureOk Try.prog 27 a12 y12 := memo_run (fits k3) r12
def a13 : List AV := [.agg [.isl 2 [.agg [.v (.int .i64 2048), .isl 1 ([B 0, B 0, B 0, B 2, B 0, B 0, B 1, B 0, B 1, B 1, B 1, B 0, B 0, B 0, B 1, B 2, B 1] ++ List.replicate 111 (B 0)) none], .agg [.v (.int .i64 2049), .isl 1 ([B 0, B 0, B 0, B 2, B 0, B 0, B 2, B 0, B 1, B 1, B 1, B 0, B 0, B 0, B 1, B 2, B 2] ++ List.replicate 111 (B 0)) none], .agg [.v (.int .i64 4096), .isl 1 ([B 0, B 0, B 0, B 1, B 0, B 0, B 1, B 0, B 1, B 1, B 1, B 0, B 0, B 0, B 1, B 2, B 1] ++ List.replicate 111 (B 0)) none], .agg [.v (.int .i64 6145), .isl 1 ([B 77, B 0, B 0, B 0, B 1, B 0, B 0, B 1] ++ List.replicate 120 (B 0)) none]] none, .v (.int .i64 2), .v (.int .i64 0), .v (.bool false)], .v (.int .i64 6144), .isl 1 ([B 77, B 0, B 0, B 0, B 2, B 0, B 0, B 2] ++ List.replicate 120 (B 0)) none]
def y13 : AV := .tup [.agg [.isl 2 [.agg [.v (.int .i64 2048), .isl 1 ([B 0, B 0, B 0, B 2, B 0, B 0, B 1, B 0, B 1, B 1, B 1, B 0, B 0, B 0, B 1, B 2, B 1] ++ List.replicate 111 (B 0)) none], .agg [.v (.int .i64 2049), .isl 1 ([B 0, B 0, B 0, B 2, B 0, B 0, B 2, B 0, B 1, B 1, B 1, B 0, B 0, B 0, B 1, B 2, B 2] ++ List.replicate 111 (B 0)) none], .agg [.v (.int .i64 4096), .isl 1 ([B 0, B 0, B 0, B 1, B 0, B 0, B 1, B 0, B 1, B 1, B 1, B 0, B 0, B 0, B 1, B 2, B 1] ++ List.replicate 111 (B 0)) none], .agg [.v (.int .i64 6145), .isl 1 ([B 77, B 0, B 0, B 0, B 1, B 0, B 0, B 1] ++ List.replicate 120 (B 0)) none]] none, .v (.int .i64 2), .v (.int .i64 0), .v (.bool true)], .v (.int .i64 0)]
theorem r13 : pureCall (env T3) (runA (env T3) 100000) 27 a13 = some y13 := by kernel_rfl
theorem c13 : PureOk Try.prog 27 a13 y13 := memo_run (fits k3) r13
def a14 : List AV := [.agg [.isl 2 [.agg [.v (.int .i64 2048), .isl 1 ([B 0, B 0, B 0, B 2, B 0, B 0, B 1, B 0, B 1, B 1, B 1, B 0, B 0, B 0, B 1, B 2, B 1] ++ List.replicate 111 (B 0)) none], .agg [.v (.int .i64 2049), .isl 1 ([B 0, B 0, B 0, B 2, B 0, B 0, B 2, B 0, B 1, B 1, B 1, B 0, B 0, B 0, B 1, B 2, B 2] ++ List.replicate 111 (B 0)) none], .agg [.v (.int .i64 4096), .isl 1 ([B 0, B 0, B 0, B 1, B 0, B 0, B 1, B 0, B 1, B 1, B 1, B 0, B 0, B 0, B 1, B 2, B 1] ++ List.replicate 111 (B 0)) none], .agg [.v (.int .i64 6145), .isl 1 ([B 77, B 0, B 0, B 0, B 1, B 0, B 0, B 1] ++ List.replicate 120 (B 0)) none]] none, .v (.int .i64 2), .v (.int .i64 0), .v (.bool true)], .v (.int .i64 6144), .isl 1 ([B 77, B 0, B 0, B 0, B 2] ++ List.replicate 123 (B 0)) none]
def y14 : AV := .tup [.agg [.isl 2 [.agg [.v (.int .i64 2048), .isl 1 ([B 0, B 0, B 0, B 2, B 0, B 0, B 1, B 0, B 1, B 1, B 1, B 0, B 0, B 0, B 1, B 2, B 1] ++ List.replicate 111 (B 0)) none], .agg [.v (.int .i64 2049), .isl 1 ([B 0, B 0, B 0, B 2, B 0, B 0, B 2, B 0, B 1, B 1, B 1, B 0, B 0, B 0, B 1, B 2, B 2] ++ List.replicate 111 (B 0)) none], .agg [.v (.int .i64 4096), .isl 1 ([B 0, B 0, B 0, B 1, B 0, B 0, B 1, B 0, B 1, B 1, B 1, B 0, B 0, B 0, B 1, B 2, B 1] ++ List.replicate 111 (B 0)) none], .agg [.v (.int .i64 6145), .isl 1 ([B 77, B 0, B 0, B 0, B 1, B 0, B 0, B 1] ++ List.replicate 120 (B 0)) none]] none, .v (.int .i64 2), .v (.int .i64 0), .v (.bool true)], .v (.int .i64 0)]
theorem r14 : pureCall (env T3) (runA (env T3) 100000) 27 a14 = some y14 := by kernel_rfl
theorem c14 : PureOk Try.prog 27 a14 y14 := memo_run (fits k3) r14
def a15 : List AV := [.agg [.isl 2 [.agg [.v (.int .i64 4096), .isl 1 ([B 0, B 0, B 0, B 1, B 0, B 0, B 1, B 0, B 1, B 1, B 1, B 0, B 0, B 0, B 1, B 2, B 1] ++ List.replicate 111 (B 0)) none], .agg [.v (.int .i64 6145), .isl 1 ([B 77, B 0, B 0, B 0, B 1, B 0, B 0, B 1] ++ List.replicate 120 (B 0)) none]] none, .v (.int .i64 1), .v (.int .i64 (-1)), .v (.bool false)], .v (.int .i64 2048), .isl 1 ([B 0, B 0, B 0, B 1, B 0, B 0, B 1, B 0, B 1, B 1, B 1, B 0, B 0, B 0, B 1, B 2, B 1] ++ List.replicate 111 (B 0)) none]
def y15 : AV := .tup [.agg [.isl 2 [.agg [.v (.int .i64 2048), .isl 1 ([B 0, B 0, B 0, B 1, B 0, B 0, B 1, B 0, B 1, B 1, B 1, B 0, B 0, B 0, B 1, B 2, B 1] ++ List.replicate 111 (B 0)) none], .agg [.v (.int .i64 4096), .isl 1 ([B 0, B 0, B 0, B 1, B 0, B 0, B 1, B 0, B 1, B 1, B 1, B 0, B 0, B 0, B 1, B 2, B 1] ++ List.replicate 111 (B 0)) none], .agg [.v (.int .i64 6145), .isl 1 ([B 77, B 0, B 0, B 0, B 1, B 0, B 0, B 1] ++ List.replicate 120 (B 0)) none]] none, .v (.int .i64 1), .v (.int .i64 (-1)), .v (.bool false)], .v (.int .i64 0)]
theorem r15 : pureCall (env T3) (runA (env T3) 100000) 27 a15 = some y15 := by kernel_rfl
theorem c15 : PureOk Try.prog 27 a15 y15 := memo_run (fits k3) r15
def a16 : List AV := [.agg [.isl 2 [.agg [.v (.int .i64 2048), .isl 1 ([B 0, B 0, B 0, B 1, B 0, B 0, B 1, B 0, B 1, B 1, B 1, B 0, B 0, B 0, B 1, B 2, B 1] ++ List.replicate 111 (B 0)) none], .agg [.v (.int .i64 4096), .isl 1 ([B 0, B 0, B 0, B 1, B 0, B 0, B 1, B 0, B 1, B 1, B 1, B 0, B 0, B 0, B 1, B 2, B 1] ++ List.replicate 111 (B 0)) none], .agg [.v (.int .i64 6145), .isl 1 ([B 77, B 0, B 0, B 0, B 1, B 0, B 0, B 1] ++ List.replicate 120 (B 0)) none]] none, .v (.int .i64 1), .v (.int .i64 (-1)), .v (.bool false)], .v (.int .i64 2049), .isl 1 ([B 0, B 0, B 0, B 1, B 0, B 0, B 2, B 0, B 1, B 1, B 1, B 0, B 0, B 0, B 1, B 2, B 2] ++ List.replicate 111 (B 0)) none]
def y16 : AV := .tup [.agg [.isl 2 [.agg [.v (.int .i64 2048), .isl 1 ([B 0, B 0, B 0, B 1, B 0, B 0, B 1, B 0, B 1, B 1, B 1, B 0, B 0, B 0, B 1, B 2, B 1] ++ List.replicate 111 (B 0)) none], .agg [.v (.int .i64 2049), .isl 1 ([B 0, B 0, B 0, B 1, B 0, B 0, B 2, B 0, B 1, B 1, B 1, B 0, B 0, B 0, B 1, B 2, B 2] ++ List.replicate 111 (B 0)) none], .agg [.v (.int .i64 4096), .isl 1 ([B 0, B 0, B 0, B 1, B 0, B 0, B 1, B 0, B 1, B 1, B 1, B 0, B 0, B 0, B 1, B 2, B 1] ++ List.replicate 111 (B 0)) none], .agg [.v (.int .i64 6145), .isl 1 ([B 77, B 0, B 0, B 0, B 1, B 0, B 0, B 1] ++ List.replicate 120 (B 0)) none]] none, .v (.int .i64 1), .v (.int .i64 (-1)), .v (.bool false)], .v (.int .i64 0)]
theorem r16 : pureCall (env T3) (runA (env T3) 100000) 27 a16 = some y16 := by kernel_rfl
theorem c16 : PureOk Try.prog 27 a16 y16 := memo_run (fits k3) r16
def a17 : List AV := [.agg [.isl 2 [.agg [.v (.int .i64 2048), .isl 1 ([B 0, B 0, B 0, B 1, B 0, B 0, B 1, B 0, B 1, B 1, B 1, B 0, B 0, B 0, B 1, B 2, B 1] ++ List.replicate 111 (B 0)) none], .agg [.v (.int .i64 2049), .isl 1 ([B 0, B 0, B 0, B 1, B 0, B 0, B 2, B 0, B 1, B 1, B 1, B 0, B 0, B 0, B 1, B 2, B 2] ++ List.replicate 111 (B 0)) none], .agg [.v (.int .i64 4096), .isl 1 ([B 0, B 0, B 0, B 1, B 0, B 0, B 1, B 0, B 1, B 1, B 1, B 0, B 0, B 0, B 1, B 2, B 1] ++ List.replicate 111 (B 0)) none], .agg [.v (.int .i64 6145), .isl 1 ([B 77, B 0, B 0, B 0, B 1, B 0, B 0, B 1] ++ List.replicate 120 (B 0)) none]] none, .v (.int .i64 1), .v (.int .i64 (-1)), .v (.bool false)], .v (.int .i64 6144), .isl 1 ([B 77, B 0, B 0, B 0, B 2, B 0, B 0, B 2] ++ List.replicate 120 (B 0)) none]
def y17 : AV := .tup [.agg [.isl 2 [.agg [.v (.int .i64 2048), .isl 1 ([B 0, B 0, B 0, B 1, B 0, B 0, B 1, B 0, B 1, B 1, B 1, B 0, B 0, B 0, B 1, B 2, B 1] ++ List.replicate 111 (B 0)) none], .agg [.v (.int .i64 2049), .isl 1 ([B 0, B 0, B 0, B 1, B 0, B 0, B 2, B 0, B 1, B 1, B 1, B 0, B 0, B 0, B 1, B 2, B 2] ++ List.replicate 111 (B 0)) none], .agg [.v (.int .i64 4096), .isl 1 ([B 0, B 0, B 0, B 1, B 0, B 0, B 1, B 0, B 1, B 1, B 1, B 0, B 0, B 0, B 1, B 2, B 1] ++ List.replicate 111 (B 0)) none], .agg [.v (.int .i64 6144), .isl 1 ([B 77, B 0, B 0, B 0, B 2, B 0, B 0, B 2] ++ List.replicate 120 (B 0)) none], .agg [.v (.int .i64 6145), .isl 1 ([B 77, B 0, B 0, B 0, B 1, B 0, B 0, B 1] ++ List.replicate 120 (B 0)) none]] none, .v (.int .i64 1), .v (.int .i64 (-1)), .v (.bool false)], .v (.int .i64 0)]
theorem r17 : pureCall (env T3) (runA (env T3) 100000) 27 a17 = some y17 := by kernel_rfl
theorem c17 : PureOk Try.prog 27 a17 y17 := memo_run (fits k3) r17
def T4 : Memo := (27, a17, y17) :: (27, a16, y16) :: (27, a15, y15) :: (27, a14, y14) :: (27, a13, y13) :: (27, a12, y12) :: (27, a11, y11) :: (27, a10, y10) :: (27, a9, y9) :: T3
theorem k4 : Known T4 := memo_cons c17 (memo_cons c16 (memo_cons c15 (memo_cons c14 (memo_cons c13 (memo_cons c12 (memo_cons c11 (memo_cons c10 (memo_cons c9 (k3)))))))))
def a18 : List AV := [.agg [.v (.slice none 0 0), .v (.int .i64 1), .v (.int .i64 (-1)), .v (.bool false)], .v (.int .i64 6144)]
def y18 : AV := .tup [.isl 1 (List.replicate 128 (B 0)) none, .v (.int .i64 0)]
theorem r18 : pureCall (env T4) (runA (env T4) 100000) 49 a18 = some y18 := by kernel_rfl
theorem c18 : PureOk Try.prog 49 a18 y18 := memo_run (fits k4) r18
def a19 : List AV := [.agg [.v (.slice none 0 0), .v (.int .i64 1), .v (.int .i64 (-1)), .v (.bool false)], .v (.int .i64 6145)]
def y19 : AV := .tup [.isl 1 (List.replicate 128 (B 0)) none, .v (.int .i64 0)]
theorem r19 : pureCall (env T4) (runA (env T4) 100000) 49 a19 = some y19 := by kernel_rfl
theorem c19 : PureOk Try.prog 49 a19 y19 := memo_run (fits k4) r19
def a20 : List AV := [.agg [.isl 2 [.agg [.v (.int .i64 4096), .isl 1 ([B 0, B 0, B 0, B 1, B 0, B 0, B 1, B 0, B 1, B 1, B 1, B 0, B 0, B 0, B 1, B 2, B 1] ++ List.replicate 111 (B 0)) none], .agg [.v (.int .i64 6145), .isl 1 ([B 77, B 0, B 0, B 0, B 1, B 0, B 0, B 1] ++ List.replicate 120 (B 0)) none]] none, .v (.int .i64 2), .v (.int .i64 2), .v (.bool false)], .v (.int .i64 6144)]
def y20 : AV := .tup [.isl 1 (List.replicate 128 (B 0)) none, .v (.int .i64 0)]
theorem r20 : pureCall (env T4) (runA (env T4) 100000) 49 a20 = some y20 := by kernel_rfl
theorem c20 : PureOk Try.prog 49 a20 y20 := memo_run (fits k4) r20
def a21 : List AV := [.agg [.isl 2 [.agg [.v (.int .i64 4096), .isl 1 ([B 0, B 0, B 0, B 1, B 0, B 0, B 1, B 0, B 1, B 1, B 1, B 0, B 0, B 0, B 1, B 2, B 1] ++ List.replicate 111 (B 0)) none], .agg [.v (.int .i64 6145), .isl 1 ([B 77, B 0, B 0, B 0, B 1, B 0, B 0, B 1] ++ List.replicate 120 (B 0)) none]] none, .v (.int .i64 2), .v (.int .i64 2), .v (.bool false)], .v (.int .i64 6145)]
def y21 : AV := .tup [.isl 1 ([B 77, B 0, B 0, B 0, B 1, B 0, B 0, B 1] ++ List.replicate 120 (B 0)) none, .v (.int .i64 0)]
theorem r21 : pureCall (env T4) (runA (env T4) 100000) 49 a21 = some y21 := by kernel_rfl
theorem c21 : PureOk Try.prog 49 a21 y21 := memo_run (fits k4) r21
def a22 : List AV := [.agg [.v (.slice none 0 0), .v (.int .i64 0), .v (.int .i64 (-1)), .v (.bool false)], .v (.int .i64 6144)]
def y22 : AV := .tup [.isl 1 (List.replicate 128 (B 0)) none, .v (.int .i64 0)]
theorem r22 : pureCall (env T4) (runA (env T4) 100000) 49 a22 = some y22 := by kernel_rfl
theorem c22 : PureOk Try.prog 49 a22 y22 := memo_run (fits k4) r22
def a23 : List AV := [.agg [.v (.slice none 0 0), .v (.int .i64 0), .v (.int .i64 (-1)), .v (.bool false)], .v (.int .i64 6145)]
def y23 : AV := .tup [.isl 1 (List.replicate 128 (B 0)) none, .v (.int .i64 0)]
theorem r23 : pureCall (env T4) (runA (env T4) 100000) 49 a23 = some y23 := by kernel_rfl
theorem c23 : PureOk Try.prog 49 a23 y23 := memo_run (fits k4) r23
def a24 : List AV := [.agg [.isl 2 [.agg [.v (.int .i64 2048), .isl 1 ([B 0, B 0, B 0, B 2, B 0, B 0, B 1, B 0, B 1, B 1, B 1, B 0, B 0, B 0, B 1, B 2, B 1] ++ List.replicate 111 (B 0)) none], .agg [.v (.int .i64 2049), .isl 1 ([B 0, B 0, B 0, B 2, B 0, B 0, B 2, B 0, B 1, B 1, B 1, B 0, B 0, B 0, B 1, B 2, B 2] ++ List.replicate 111 (B 0)) none], .agg [.v (.int .i64 4096), .isl 1 ([B 0, B 0, B 0, B 1, B 0, B 0, B 1, B 0, B 1, B 1, B 1, B 0, B 0, B 0, B 1, B 2, B 1] ++ List.replicate 111 (B 0)) none], .agg [.v (.int .i64 6145), .isl 1 ([B 77, B 0, B 0, B 0, B 1, B 0, B 0, B 1] ++ List.replicate 120 (B 0)) none]] none, .v (.int .i64 2), .v (.int .i64 0), .v (.bool true)], .v (.int .i64 6144)]
def y24 : AV := .tup [.isl 1 (List.replicate 128 (B 0)) none, .v (.int .i64 0)]
theorem r24 : pureCall (env T4) (runA (env T4) 100000) 49 a24 = some y24 := by kernel_rfl
theorem c24 : PureOk Try.prog 49 a24 y24 := memo_run (fits k4) r24
def a25 : List AV := [.agg [.isl 2 [.agg [.v (.int .i64 2048), .isl 1 ([B 0, B 0, B 0, B 2, B 0, B 0, B 1, B 0, B 1, B 1, B 1, B 0, B 0, B 0, B 1, B 2, B 1] ++ List.replicate 111 (B 0)) none], .agg [.v (.int .i64 2049), .isl 1 ([B 0, B 0, B 0, B 2, B 0, B 0, B 2, B 0, B 1, B 1, B 1, B 0, B 0, B 0, B 1, B 2, B 2] ++ List.replicate 111 (B 0)) none], .agg [.v (.int .i64 4096), .isl 1 ([B 0, B 0, B 0, B 1, B 0, B 0, B 1, B 0, B 1, B 1, B 1, B 0, B 0, B 0, B 1, B 2, B 1] ++ List.replicate 111 (B 0)) none], .agg [.v (.int .i64 6145), .isl 1 ([B 77, B 0, B 0, B 0, B 1, B 0, B 0, B 1] ++ List.replicate 120 (B 0)) none]] none, .v (.int .i64 2), .v (.int .i64 0), .v (.bool true)], .v (.int .i64 6145)]
def y25 : AV := .tup [.isl 1 ([B 77, B 0, B 0, B 0, B 1, B 0, B 0, B 1] ++ List.replicate 120 (B 0)) none, .v (.int .i64 0)]
theorem r25 : pureCall (env T4) (runA (env T4) 100000) 49 a25 = some y25 := by kernel_rfl
theorem c25 : PureOk Try.prog 49 a25 y25 := memo_run (fits k4) r25
def a26 : List AV := [.agg [.isl 2 [.agg [.v (.int .i64 4096), .isl 1 ([B 0, B 0, B 0, B 1, B 0, B 0, B 1, B 0, B 1, B 1, B 1, B 0, B 0, B 0, B 1, B 2, B 1] ++ List.replicate 111 (B 0)) none], .agg [.v (.int .i64 6145), .isl 1 ([B 77, B 0, B 0, B 0, B 1, B 0, B 0, B 1] ++ List.replicate 120 (B 0)) none]] none, .v (.int .i64 1), .v (.int .i64 (-1)), .v (.bool false)], .v (.int .i64 6144)]
def y26 : AV := .tup [.isl 1 (List.replicate 128 (B 0)) none, .v (.int .i64 0)]
theorem r26 : pureCall (env T4) (runA (env T4) 100000) 49 a26 = some y26 := by kernel_rfl
theorem c26 : PureOk Try.prog 49 a26 y26 := memo_run (fits k4) r26
def a27 : List AV := [.agg [.isl 2 [.agg [.v (.int .i64 4096), .isl 1 ([B 0, B 0, B 0, B 1, B 0, B 0, B 1, B 0, B 1, B 1, B 1, B 0, B 0, B 0, B 1, B 2, B 1] ++ List.replicate 111 (B 0)) none], .agg [.v (.int .i64 6145), .isl 1 ([B 77, B 0, B 0, B 0, B 1, B 0, B 0, B 1] ++ List.replicate 120 (B 0)) none]] none, .v (.int .i64 1), .v (.int .i64 (-1)), .v (.bool false)], .v (.int .i64 6145)]
def y27 : AV := .tup [.isl 1 ([B 77, B 0, B 0, B 0, B 1, B 0, B 0, B 1] ++ List.replicate 120 (B 0)) none, .v (.int .i64 0)]
theorem r27 : pureCall (env T4) (runA (env T4) 100000) 49 a27 = some y27 := by kernel_rfl
theorem c27 : PureOk Try.prog 49 a27 y27 := memo_run (fits k4) r27
def a28 : List AV := [.agg [.isl 2 [.agg [.v (.int .i64 4096), .isl 1 ([B 0, B 0, B 0, B 1, B 0, B 0, B 1, B 0, B 1, B 1, B 1, B 0, B 0, B 0, B 1, B 2, B 1] ++ List.replicate 111 (B 0)) none], .agg [.v (.int .i64 6145), .isl 1 ([B 77, B 0, B 0, B 0, B 1, B 0, B 0, B 1] ++ List.replicate 120 (B 0)) none]] none, .v (.int .i64 1), .v (.int .i64 (-1)), .v (.bool false)], .v (.int .i64 4096)]
def y28 : AV := .tup [.isl 1 ([B 0, B 0, B 0, B 1, B 0, B 0, B 1, B 0, B 1, B 1, B 1, B 0, B 0, B 0, B 1, B 2, B 1] ++ List.replicate 111 (B 0)) none, .v (.int .i64 0)]
theorem r28 : pureCall (env T4) (runA (env T4) 100000) 49 a28 = some y28 := by kernel_rfl
theorem c28 : PureOk Try.prog 49 a28 y28 := memo_run (fits k4) r28
def a29 : List AV := [.agg [.isl 2 [.agg [.v (.int .i64 2048), .isl 1 ([B 0, B 0, B 0, B 1, B 0, B 0, B 1, B 0, B 1, B 1, B 1, B 0, B 0, B 0, B 1, B 2, B 1] ++ List.replicate 111 (B 0)) none], .agg [.v (.int .i64 2049), .isl 1 ([B 0, B 0, B 0, B 1, B 0, B 0, B 2, B 0, B 1, B 1, B 1, B 0, B 0, B 0, B 1, B 2, B 2] ++ List.replicate 111 (B 0)) none], .agg [.v (.int .i64 4096), .isl 1 ([B 0, B 0, B 0, B 1, B 0, B 0, B 1, B 0, B 1, B 1, B 1, B 0, B 0, B 0, B 1, B 2, B 1] ++ List.replicate 111 (B 0)) none], .agg [.v (.int .i64 6144), .isl 1 ([B 77, B 0, B 0, B 0, B 2, B 0, B 0, B 2] ++ List.replicate 120 (B 0)) none], .agg [.v (.int .i64 6145), .isl 1 ([B 77, B 0, B 0, B 0, B 1, B 0, B 0, B 1] ++ List.replicate 120 (B 0)) none]] none, .v (.int .i64 1), .v (.int .i64 (-1)), .v (.bool false)], .v (.int .i64 6144)]
def y29 : AV := .tup [.isl 1 ([B 77, B 0, B 0, B 0, B 2, B 0, B 0, B 2] ++ List.replicate 120 (B 0)) none, .v (.int .i64 0)]
theorem r29 : pureCall (env T4) (runA (env T4) 100000) 49 a29 = some y29 := by kernel_rfl
theorem c29 : PureOk Try.prog 49 a29 y29 := memo_run (fits k4) r29
def a30 : List AV := [.agg [.isl 2 [.agg [.v (.int .i64 2048), .isl 1 ([B 0, B 0, B 0, B 1, B 0, B 0, B 1, B 0, B 1, B 1, B 1, B 0, B 0, B 0, B 1, B 2, B 1] ++ List.replicate 111 (B 0)) none], .agg [.v (.int .i64 2049), .isl 1 ([B 0, B 0, B 0, B 1, B 0, B 0, B 2, B 0, B 1, B 1, B 1, B 0, B 0, B 0, B 1, B 2, B 2] ++ List.replicate 111 (B 0)) none], .agg [.v (.int .i64 4096), .isl 1 ([B 0, B 0, B 0, B 1, B 0, B 0, B 1, B 0, B 1, B 1, B 1, B 0, B 0, B 0, B 1, B 2, B 1] ++ List.replicate 111 (B 0)) none], .agg [.v (.int .i64 6144), .isl 1 ([B 77, B 0, B 0, B 0, B 2, B 0, B 0, B 2] ++ List.replicate 120 (B 0)) none], .agg [.v (.int .i64 6145), .isl 1 ([B 77, B 0, B 0, B 0, B 1, B 0, B 0, B 1] ++ List.replicate 120 (B 0)) none]] none, .v (.int .i64 1), .v (.int .i64 (-1)), .v (.bool false)], .v (.int .i64 6145)]
def y30 : AV := .tup [.isl 1 ([B 77, B 0, B 0, B 0, B 1, B 0, B 0, B 1] ++ List.replicate 120 (B 0)) none, .v (.int .i64 0)]
theorem r30 : pureCall (env T4) (runA (env T4) 100000) 49 a30 = some y30 := by kernel_rfl
theorem c30 : PureOk Try.prog 49 a30 y30 := memo_run (fits k4) r30
def a31 : List AV := [.agg [.isl 2 [.agg [.v (.int .i64 2048), .isl 1 ([B 0, B 0, B 0, B 1, B 0, B 0, B 1, B 0, B 1, B 1, B 1, B 0, B 0, B 0, B 1, B 2, B 1] ++ List.replicate 111 (B 0)) none], .agg [.v (.int .i64 2049), .isl 1 ([B 0, B 0, B 0, B 1, B 0, B 0, B 2, B 0, B 1, B 1, B 1, B 0, B 0, B 0, B 1, B 2, B 2] ++ List.replicate 111 (B 0)) none], .agg [.v (.int .i64 4096), .isl 1 ([B 0, B 0, B 0, B 1, B 0, B 0, B 1, B 0, B 1, B 1, B 1, B 0, B 0, B 0, B 1, B 2, B 1] ++ List.replicate 111 (B 0)) none], .agg [.v (.int .i64 6144), .isl 1 ([B 77, B 0, B 0, B 0, B 2, B 0, B 0, B 2] ++ List.replicate 120 (B 0)) none], .agg [.v (.int .i64 6145), .isl 1 ([B 77, B 0, B 0, B 0, B 1, B 0, B 0, B 1] ++ List.replicate 120 (B 0)) none]] none, .v (.int .i64 1), .v (.int .i64 (-1)), .v (.bool false)], .v (.int .i64 2048)]
def y31 : AV := .tup [.isl 1 ([B 0, B 0, B 0, B 1, B 0, B 0, B 1, B 0, B 1, B 1, B 1, B 0, B 0, B 0, B 1, B 2, B 1] ++ List.replicate 111 (B 0)) none, .v (.int .i64 0)]
theorem r31 : pureCall (env T4) (runA (env T4) 100000) 49 a31 = some y31 := by kernel_rfl
theorem c31 : PureOk Try.prog 49 a31 y31 := memo_run (fits k4) r31
def a32 : List AV := [.agg [.isl 2 [.agg [.v (.int .i64 2048), .isl 1 ([B 0, B 0, B 0, B 1, B 0, B 0, B 1, B 0, B 1, B 1, B 1, B 0, B 0, B 0, B 1, B 2, B 1] ++ List.replicate 111 (B 0)) none], .agg [.v (.int .i64 2049), .isl 1 ([B 0, B 0, B 0, B 1, B 0, B 0, B 2, B 0, B 1, B 1, B 1, B 0, B 0, B 0, B 1, B 2, B 2] ++ List.replicate 111 (B 0)) none], .agg [.v (.int .i64 4096), .isl 1 ([B 0, B 0, B 0, B 1, B 0, B 0, B 1, B 0, B 1, B 1, B 1, B 0, B 0, B 0, B 1, B 2, B 1] ++ List.replicate 111 (B 0)) none], .agg [.v (.int .i64 6144), .isl 1 ([B 77, B 0, B 0, B 0, B 2, B 0, B 0, B 2] ++ List.replicate 120 (B 0)) none], .agg [.v (.int .i64 6145), .isl 1 ([B 77, B 0, B 0, B 0, B 1, B 0, B 0, B 1] ++ List.replicate 120 (B 0)) none]] none, .v (.int .i64 1), .v (.int .i64 (-1)), .v (.bool false)], .v (.int .i64 2049)]
def y32 : AV := .tup [.isl 1 ([B 0, B 0, B 0, B 1, B 0, B 0, B 2, B 0, B 1, B 1, B 1, B 0, B 0, B 0, B 1, B 2, B 2] ++ List.replicate 111 (B 0)) none, .v (.int .i64 0)]
theorem r32 : pureCall (env T4) (runA (env T4) 100000) 49 a32 = some y32 := by kernel_rfl
theorem c32 : PureOk Try.prog 49 a32 y32 := memo_run (fits k4) r32
def a33 : List AV := [.agg [.isl 2 [.agg [.v (.int .i64 2048), .isl 1 ([B 0, B 0, B 0, B 2, B 0, B 0, B 1, B 0, B 1, B 1, B 1, B 0, B 0, B 0, B 1, B 2, B 1] ++ List.replicate 111 (B 0)) none], .agg [.v (.int .i64 2049), .isl 1 ([B 0, B 0, B 0, B 2, B 0, B 0, B 2, B 0, B 1, B 1, B 1, B 0, B 0, B 0, B 1, B 2, B 2] ++ List.replicate 111 (B 0)) none], .agg [.v (.int .i64 4096), .isl 1 ([B 0, B 0, B 0, B 1, B 0, B 0, B 1, B 0, B 1, B 1, B 1, B 0, B 0, B 0, B 1, B 2, B 1] ++ List.replicate 111 (B 0)) none], .agg [.v (.int .i64 6145), .isl 1 ([B 77, B 0, B 0, B 0, B 1, B 0, B 0, B 1] ++ List.replicate 120 (B 0)) none]] none, .v (.int .i64 2), .v (.int .i64 0), .v (.bool true)], .v (.int .i64 4096)]
def y33 : AV := .tup [.isl 1 ([B 0, B 0, B 0, B 1, B 0, B 0, B 1, B 0, B 1, B 1, B 1, B 0, B 0, B 0, B 1, B 2, B 1] ++ List.replicate 111 (B 0)) none, .v (.int .i64 0)]
theorem r33 : pureCall (env T4) (runA (env T4) 100000) 49 a33 = some y33 := by kernel_rfl
theorem c33 : PureOk Try.prog 49 a33 y33 := memo_run (fits k4) r33
def T5 : Memo := (49, a33, y33) :: (49, a32, y32) :: (49, a31, y31) :: (49, a30, y30) :: (49, a29, y29) :: (49, a28, y28) :: (49, a27, y27) :: (49, a26, y26) :: (49, a25, y25) :: (49, a24, y24) :: (49, a23, y23) :: (49, a22, y22) :: (49, a21, y21) :: (49, a20, y20) :: (49, a19, y19) :: (49, a18, y18) :: T4
theorem k5 : Known T5 := memo_cons c33 (memo_cons c32 (memo_cons c31 (memo_cons c30 (memo_cons c29 (memo_cons c28 (memo_cons c27 (memo_cons c26 (memo_cons c25 (memo_cons c24 (memo_cons c23 (memo_cons c22 (memo_cons c21 (memo_cons c20 (memo_cons c19 (memo_cons c18 (k4))))))))))))))))
theorem run : pureCall (env T5) (runA (env T5) 100000) 6 [] = some (.v (.bool true)) := by kernel_rfl
theorem own : ownKnob Try.prog.godebug = none := by kernel_rfl
theorem kids : Kids Try.prog (· < Try.prog.types.size) := kids_rows (by kernel_rfl) (by kernel_rfl)
theorem lifted (os : Os) (started : os.Started) (H : Type) (enc : TypeId × Value → H) :
    ReturnsInHanded {} Try.checked os 6 .any (Rows.slotsNamesSpec.pre6 enc Try.prog Try.f6 Rows.slotsNamesRow.domain false) (Rows.slotsNamesSpec.post enc Try.prog Try.f6 false true false false) := by
  refine returnsInHanded_of_change (C := Try.checked) own started (by kernel_rfl) Try.func6
    (ChangeSpec.witness6 (enc := enc) (C := Try.checked) false ⟨#[], #[], []⟩ 8 (by kernel_rfl) (by kernel_rfl) (by kernel_rfl) (by kernel_rfl)) ?_
  intro W base args ds gs before hval hW _ _
  exact closed_contract (E := env T5) (fits k5) kids (slices_full_of Try.prog (by kernel_rfl)) (by kernel_rfl) rfl rfl (by kernel_rfl) run W args ds gs before hW
theorem over : Rows.slotsNamesRow.holds Try.pinned (OpenSpec.ofChange Rows.slotsNamesSpec) :=
  OpenClaim.holds_of_wide 6 Try.f6 rfl rfl rfl rfl rfl rfl rfl ⟨rfl, rfl, rfl, rfl, rfl⟩ rfl rfl rfl rfl rfl (by kernel_rfl) Try.func6 (by kernel_rfl)
    (of_decide_eq_true (by kernel_rfl)) (by unfold Func.isWrapper; first | (rw [if_pos (by decide +kernel)]; kernel_rfl) | (rw [if_neg (by decide +kernel)]; exact ⟨rfl, rfl⟩))
    (fun os started H enc _ => lifted os started H enc)
theorem proved : Rows.SlotsNamesSaid :=
  over
end Go.Proofs.Ytmjkpdknicjjgaa.slotsNames
