/-
  'Rows.AdmitNamesSaid' is proved: the law returns true. No conditions.
-/
import Derived.Test.YtmkmimgokagimaaGreatRows
import Derived.Test.YtmkmimgokagimaaGreatAbsEnv
set_option linter.unusedVariables false
set_option maxRecDepth 1000000
namespace Go.Proofs.YtmkmimgokagimaaGreat.admitNames
open Go.Ab Go.ChangeShapes Go.WideShapes Go.RowKit
def B (n : Int) : AV := .v (.int .u8 n)
abbrev Memo := List (FuncId × List AV × AV)
def fns : List FuncId := [9, 17, 25, 27, 29, 31, 44, 47, 48, 49, 50, 51, 52, 53, 54, 59, 69, 70, 71, 72, 76, 82, 84, 87, 88, 90, 91, 92, 95, 97, 98, 100, 101, 102, 103, 104, 105, 106, 108, 111, 112, 113, 114, 115, 116, 117, 118, 119, 120, 121, 122, 123, 124, 125, 126, 127, 128, 129, 135, 136, 137, 145, 146, 147, 148, 149, 150, 151, 152, 153, 159, 160, 161, 162, 163, 164, 165, 166, 167, 168, 169, 170, 171, 172, 173, 174, 175, 176, 182, 183, 184, 185, 186, 187, 188, 189, 190, 191, 192, 193, 202, 203, 205, 206, 207, 208, 209, 210, 211, 212, 213, 214, 215, 216, 217, 218, 219, 220, 225, 226, 227, 228, 229, 230, 231, 232, 233, 234, 235, 239, 240, 241, 242, 243, 244, 246, 247, 248, 249, 250, 251]
noncomputable def env (memo : Memo) : Env := envOf Tryz.prog fns [48, 50, 84, 152, 160, 162, 163, 164, 173, 203, 205, 206, 208, 209, 225] [69, 71, 72, 87, 88, 90, 92, 95, 97, 98, 100, 145, 146, 147, 148, 149, 150, 151, 153, 172, 193, 218, 219, 220, 230, 232, 233, 234, 241, 242, 250] (strictOf [(19,13,18),(16,1,77777),(55,1,88888),(35,147,88889),(55,72,88889),(10,48,88889),(10,50,88889),(7,5,66666)]) (tabApart [(15, 12, 0, [(20, 23)]), (52, 10, 0, [(56, 58)]), (25, 34, 4, [(44, 43)]), (6, 21, 0, [(16, 4), (20, 4), (17, 4)]), (58, 23, 0, [(71, 61), (4, 61), (5, 61), (5, 68)]), (7, 6, 0, [(3, 5)])]) (tabFrz [(19,13,18),(16,1,77777),(55,1,88888),(35,147,88889),(55,72,88889),(10,48,88889),(10,50,88889),(7,5,66666)]) memo
theorem fnsFit : fnsOk (env []) fns = true := by kernel_rfl
theorem follows : Tryz.prog.follows .mixedOrders = true := by kernel_rfl
abbrev Known (T : Memo) : Prop := ∀ p ∈ T, PureOk Tryz.prog p.1 p.2.1 p.2.2
theorem fits {T : Memo} (h : Known T) : (env T).Ok (drawOk (env T)) := envM_ok h follows fnsFit
def T0 : Memo := []
theorem k0 : Known T0 := memo_nil
def a1 : List AV := [.agg [B 1, .v (.int .i64 0), B 0, B 1, .v (.int .u32 0), B 0, .v (.int .i64 0), B 0, .v (.int .u32 0), B 0, .v (.int .i64 0), .v (.int .i64 0), B 0, .v (.int .u32 0), B 0, .v (.int .i64 0), B 0, .v (.int .u32 0), .v (.slice none 0 0), .v (.int .i64 0), .v (.int .i64 0), B 0, .v (.int .u32 0), .v (.bool false)]]
def y1 : AV := .v (.int .i64 0)
theorem r1 : pureCall (env T0) (runA (env T0) 100000) 82 a1 = some y1 := by kernel_rfl
theorem c1 : PureOk Tryz.prog 82 a1 y1 := memo_run (fits k0) r1
def a2 : List AV := [.agg [B 2, .v (.int .i64 0), B 1, B 1, .v (.int .u32 0), B 0, .v (.int .i64 1), B 1, .v (.int .u32 0), B 0, .v (.int .i64 1), .v (.int .i64 2), B 0, .v (.int .u32 0), B 0, .v (.int .i64 0), B 0, .v (.int .u32 0), .isl 1 [.v (.int .i32 0), .v (.int .i32 0)] none, .v (.int .i64 0), .v (.int .i64 0), B 0, .v (.int .u32 0), .v (.bool false)]]
def y2 : AV := .v (.int .i64 0)
theorem r2 : pureCall (env T0) (runA (env T0) 100000) 82 a2 = some y2 := by kernel_rfl
theorem c2 : PureOk Tryz.prog 82 a2 y2 := memo_run (fits k0) r2
def T1 : Memo := (82, a2, y2) :: (82, a1, y1) :: T0
theorem k1 : Known T1 := memo_cons c2 (memo_cons c1 (k0))
def a3 : List AV := [.agg [.isl 3 [.agg [B 1, .v (.int .u32 0), .v (.bool true)]] (some 1), .isl 5 [.agg [B 1, .v (.int .u32 0), .v (.int .i64 1), .v (.int .i64 2), .v (.int .i64 2)]] (some 1), .v (.int .i64 0)]]
def y3 : AV := .v (.int .i64 0)
theorem r3 : pureCall (env T1) (runA (env T1) 100000) 102 a3 = some y3 := by kernel_rfl
theorem c3 : PureOk Tryz.prog 102 a3 y3 := memo_run (fits k1) r3
def a4 : List AV := [.agg [.isl 3 [.agg [B 1, .v (.int .u32 0), .v (.bool true)]] (some 1), .isl 5 [.agg [B 1, .v (.int .u32 0), .v (.int .i64 0), .v (.int .i64 2), .v (.int .i64 2)]] (some 1), .v (.int .i64 0)]]
def y4 : AV := .v (.int .i64 0)
theorem r4 : pureCall (env T1) (runA (env T1) 100000) 102 a4 = some y4 := by kernel_rfl
theorem c4 : PureOk Tryz.prog 102 a4 y4 := memo_run (fits k1) r4
def a5 : List AV := [.agg [.isl 3 [.agg [B 1, .v (.int .u32 0), .v (.bool true)]] none, .isl 5 [.agg [B 1, .v (.int .u32 0), .v (.int .i64 0), .v (.int .i64 2), .v (.int .i64 2)]] none, .v (.int .i64 0)]]
def y5 : AV := .v (.int .i64 0)
theorem r5 : pureCall (env T1) (runA (env T1) 100000) 102 a5 = some y5 := by kernel_rfl
theorem c5 : PureOk Tryz.prog 102 a5 y5 := memo_run (fits k1) r5
def a6 : List AV := [.agg [.isl 3 [.agg [B 1, .v (.int .u32 0), .v (.bool true)]] none, .isl 5 [.agg [B 1, .v (.int .u32 0), .v (.int .i64 1), .v (.int .i64 2), .v (.int .i64 2)]] none, .v (.int .i64 0)]]
def y6 : AV := .v (.int .i64 0)
theorem r6 : pureCall (env T1) (runA (env T1) 100000) 102 a6 = some y6 := by kernel_rfl
theorem c6 : PureOk Tryz.prog 102 a6 y6 := memo_run (fits k1) r6
def T2 : Memo := (102, a6, y6) :: (102, a5, y5) :: (102, a4, y4) :: (102, a3, y3) :: T1
theorem k2 : Known T2 := memo_cons c6 (memo_cons c5 (memo_cons c4 (memo_cons c3 (k1))))
def a7 : List AV := [.v (.slice none 0 0), .agg [B 1, B 1, .v (.int .u32 0), B 0, .v (.int .i64 1), B 1, .v (.int .u32 0), B 0, .v (.int .i64 1), .v (.int .i64 2), B 0, .v (.int .u32 0), B 0, .v (.int .i64 0), B 0, .v (.int .u32 0), .isl 1 [.v (.int .i32 0), .v (.int .i32 0)] none]]
def y7 : AV := .v (.int .i64 0)
theorem r7 : pureCall (env T2) (runA (env T2) 100000) 137 a7 = some y7 := by kernel_rfl
theorem c7 : PureOk Tryz.prog 137 a7 y7 := memo_run (fits k2) r7
def a8 : List AV := [.isl 17 [.agg [B 1, B 1, .v (.int .u32 0), B 0, .v (.int .i64 1), B 1, .v (.int .u32 0), B 0, .v (.int .i64 1), .v (.int .i64 2), B 0, .v (.int .u32 0), B 0, .v (.int .i64 0), B 0, .v (.int .u32 0), .isl 1 [.v (.int .i32 0), .v (.int .i32 0)] none]] none, .agg [B 1, B 1, .v (.int .u32 0), B 0, .v (.int .i64 2), B 1, .v (.int .u32 0), B 0, .v (.int .i64 3), .v (.int .i64 1), B 0, .v (.int .u32 0), B 0, .v (.int .i64 0), B 0, .v (.int .u32 0), .isl 1 [.v (.int .i32 0)] none]]
def y8 : AV := .v (.int .i64 0)
theorem r8 : pureCall (env T2) (runA (env T2) 100000) 137 a8 = some y8 := by kernel_rfl
theorem c8 : PureOk Tryz.prog 137 a8 y8 := memo_run (fits k2) r8
def T3 : Memo := (137, a8, y8) :: (137, a7, y7) :: T2
theorem k3 : Known T3 := memo_cons c8 (memo_cons c7 (k2))
def a9 : List AV := [.agg [.isl 3 [.agg [B 1, .v (.int .u32 0), .v (.bool true)]] none, .isl 5 [.agg [B 1, .v (.int .u32 0), .v (.int .i64 0), .v (.int .i64 2), .v (.int .i64 2)]] none, .v (.int .i64 0)], .v (.int .i64 0), .agg [B 1, .v (.int .u32 0)]]
def y9 : AV := .tup [.v (.bool true), .v (.int .i64 0)]
theorem r9 : pureCall (env T3) (runA (env T3) 100000) 174 a9 = some y9 := by kernel_rfl
theorem c9 : PureOk Tryz.prog 174 a9 y9 := memo_run (fits k3) r9
def a10 : List AV := [.agg [.isl 3 [.agg [B 1, .v (.int .u32 0), .v (.bool true)]] none, .isl 5 [.agg [B 1, .v (.int .u32 0), .v (.int .i64 1), .v (.int .i64 2), .v (.int .i64 2)]] none, .v (.int .i64 0)], .v (.int .i64 0), .agg [B 1, .v (.int .u32 0)]]
def y10 : AV := .tup [.v (.bool true), .v (.int .i64 0)]
theorem r10 : pureCall (env T3) (runA (env T3) 100000) 174 a10 = some y10 := by kernel_rfl
theorem c10 : PureOk Tryz.prog 174 a10 y10 := memo_run (fits k3) r10
def a11 : List AV := [.agg [.isl 3 [.agg [B 1, .v (.int .u32 0), .v (.bool true)]] none, .isl 5 [.agg [B 1, .v (.int .u32 0), .v (.int .i64 1), .v (.int .i64 2), .v (.int .i64 2)]] none, .v (.int .i64 0)], .v (.int .i64 1), .agg [B 1, .v (.int .u32 0)]]
def y11 : AV := .tup [.v (.bool false), .v (.int .i64 0)]
theorem r11 : pureCall (env T3) (runA (env T3) 100000) 174 a11 = some y11 := by kernel_rfl
theorem c11 : PureOk Tryz.prog 174 a11 y11 := memo_run (fits k3) r11
def T4 : Memo := (174, a11, y11) :: (174, a10, y10) :: (174, a9, y9) :: T3
theorem k4 : Known T4 := memo_cons c11 (memo_cons c10 (memo_cons c9 (k3)))
def a12 : List AV := [.agg [.isl 3 [.agg [B 1, .v (.int .u32 0), .v (.bool true)]] (some 1), .isl 5 [.agg [B 1, .v (.int .u32 0), .v (.int .i64 1), .v (.int .i64 2), .v (.int .i64 2)]] (some 1), .v (.int .i64 0)], .agg [B 1, .v (.int .u32 0)]]
def y12 : AV := .tup [.agg [B 1, .v (.int .u32 0), .v (.int .i64 1), .v (.int .i64 2), .v (.int .i64 2)], .v (.int .i64 0)]
theorem r12 : pureCall (env T4) (runA (env T4) 100000) 44 a12 = some y12 := by kernel_rfl
theorem c12 : PureOk Tryz.prog 44 a12 y12 := memo_run (fits k4) r12
def a13 : List AV := [.agg [.isl 3 [.agg [B 1, .v (.int .u32 0), .v (.bool true)]] (some 1), .isl 5 [.agg [B 1, .v (.int .u32 0), .v (.int .i64 0), .v (.int .i64 2), .v (.int .i64 2)]] (some 1), .v (.int .i64 0)], .agg [B 1, .v (.int .u32 0)]]
def y13 : AV := .tup [.agg [B 1, .v (.int .u32 0), .v (.int .i64 0), .v (.int .i64 2), .v (.int .i64 2)], .v (.int .i64 0)]
theorem r13 : pureCall (env T4) (runA (env T4) 100000) 44 a13 = some y13 := by kernel_rfl
theorem c13 : PureOk Tryz.prog 44 a13 y13 := memo_run (fits k4) r13
def T5 : Memo := (44, a13, y13) :: (44, a12, y12) :: T4
theorem k5 : Known T5 := memo_cons c13 (memo_cons c12 (k4))
def a14 : List AV := [.agg [.isl 3 [.agg [B 1, .v (.int .u32 0), .v (.bool true)]] (some 1), .isl 5 [.agg [B 1, .v (.int .u32 0), .v (.int .i64 1), .v (.int .i64 2), .v (.int .i64 2)]] (some 1), .v (.int .i64 0)], .isl 24 [.agg [B 1, .v (.int .i64 0), B 0, B 1, .v (.int .u32 0), B 0, .v (.int .i64 0), B 0, .v (.int .u32 0), B 0, .v (.int .i64 0), .v (.int .i64 0), B 0, .v (.int .u32 0), B 0, .v (.int .i64 0), B 0, .v (.int .u32 0), .v (.slice none 0 0), .v (.int .i64 0), .v (.int .i64 0), B 0, .v (.int .u32 0), .v (.bool false)], .agg [B 2, .v (.int .i64 0), B 1, B 1, .v (.int .u32 0), B 0, .v (.int .i64 1), B 1, .v (.int .u32 0), B 0, .v (.int .i64 1), .v (.int .i64 2), B 0, .v (.int .u32 0), B 0, .v (.int .i64 0), B 0, .v (.int .u32 0), .isl 1 [.v (.int .i32 0), .v (.int .i32 0)] none, .v (.int .i64 0), .v (.int .i64 0), B 0, .v (.int .u32 0), .v (.bool false)]] (some 2), .agg [B 1, B 1, .v (.int .u32 0), B 0, .v (.int .i64 2), B 1, .v (.int .u32 0), B 0, .v (.int .i64 3), .v (.int .i64 1), B 0, .v (.int .u32 0), B 0, .v (.int .i64 0), B 0, .v (.int .u32 0), .isl 1 [.v (.int .i32 0)] none]]
def y14 : AV := .tup [.v (.int .i64 9), .v (.int .i64 0)]
theorem r14 : pureCall (env T5) (runA (env T5) 100000) 17 a14 = some y14 := by kernel_rfl
theorem c14 : PureOk Tryz.prog 17 a14 y14 := memo_run (fits k5) r14
def T6 : Memo := (17, a14, y14) :: T5
theorem k6 : Known T6 := memo_cons c14 (k5)
def a15 : List AV := [.agg [.isl 3 [.agg [B 1, .v (.int .u32 0), .v (.bool true)]] (some 1), .isl 5 [.agg [B 1, .v (.int .u32 0), .v (.int .i64 1), .v (.int .i64 2), .v (.int .i64 2)]] (some 1), .v (.int .i64 0)], .v (.slice none 0 0)]
def y15 : AV := .tup [.agg [.isl 3 [.agg [B 1, .v (.int .u32 0), .v (.bool true)]] none, .isl 5 [.agg [B 1, .v (.int .u32 0), .v (.int .i64 1), .v (.int .i64 2), .v (.int .i64 2)]] none, .v (.int .i64 0)], .v (.int .i64 0)]
theorem r15 : pureCall (env T6) (runA (env T6) 100000) 25 a15 = some y15 := by kernel_rfl
theorem c15 : PureOk Tryz.prog 25 a15 y15 := memo_run (fits k6) r15
def a16 : List AV := [.agg [.isl 3 [.agg [B 1, .v (.int .u32 0), .v (.bool true)]] (some 1), .isl 5 [.agg [B 1, .v (.int .u32 0), .v (.int .i64 0), .v (.int .i64 2), .v (.int .i64 2)]] (some 1), .v (.int .i64 0)], .v (.slice none 0 0)]
def y16 : AV := .tup [.agg [.isl 3 [.agg [B 1, .v (.int .u32 0), .v (.bool true)]] none, .isl 5 [.agg [B 1, .v (.int .u32 0), .v (.int .i64 0), .v (.int .i64 2), .v (.int .i64 2)]] none, .v (.int .i64 0)], .v (.int .i64 0)]
theorem r16 : pureCall (env T6) (runA (env T6) 100000) 25 a16 = some y16 := by kernel_rfl
theorem c16 : PureOk Tryz.prog 25 a16 y16 := memo_run (fits k6) r16
def a17 : List AV := [.agg [.isl 3 [.agg [B 1, .v (.int .u32 0), .v (.bool true)]] (some 1), .isl 5 [.agg [B 1, .v (.int .u32 0), .v (.int .i64 1), .v (.int .i64 2), .v (.int .i64 2)]] (some 1), .v (.int .i64 0)], .isl 24 [.agg [B 1, .v (.int .i64 0), B 0, B 1, .v (.int .u32 0), B 0, .v (.int .i64 0), B 0, .v (.int .u32 0), B 0, .v (.int .i64 0), .v (.int .i64 0), B 0, .v (.int .u32 0), B 0, .v (.int .i64 0), B 0, .v (.int .u32 0), .v (.slice none 0 0), .v (.int .i64 0), .v (.int .i64 0), B 0, .v (.int .u32 0), .v (.bool false)], .agg [B 2, .v (.int .i64 0), B 1, B 1, .v (.int .u32 0), B 0, .v (.int .i64 1), B 1, .v (.int .u32 0), B 0, .v (.int .i64 1), .v (.int .i64 2), B 0, .v (.int .u32 0), B 0, .v (.int .i64 0), B 0, .v (.int .u32 0), .isl 1 [.v (.int .i32 0), .v (.int .i32 0)] none, .v (.int .i64 0), .v (.int .i64 0), B 0, .v (.int .u32 0), .v (.bool false)]] (some 2)]
def y17 : AV := .tup [.agg [.isl 3 [.agg [B 1, .v (.int .u32 0), .v (.bool true)]] none, .isl 5 [.agg [B 1, .v (.int .u32 0), .v (.int .i64 1), .v (.int .i64 2), .v (.int .i64 2)]] none, .v (.int .i64 0)], .v (.int .i64 0)]
theorem r17 : pureCall (env T6) (runA (env T6) 100000) 25 a17 = some y17 := by kernel_rfl
theorem c17 : PureOk Tryz.prog 25 a17 y17 := memo_run (fits k6) r17
def T7 : Memo := (25, a17, y17) :: (25, a16, y16) :: (25, a15, y15) :: T6
theorem k7 : Known T7 := memo_cons c17 (memo_cons c16 (memo_cons c15 (k6)))
def a18 : List AV := [.agg [.isl 3 [.agg [B 1, .v (.int .u32 0), .v (.bool true)]] (some 1), .isl 5 [.agg [B 1, .v (.int .u32 0), .v (.int .i64 1), .v (.int .i64 2), .v (.int .i64 2)]] (some 1), .v (.int .i64 0)], .v (.slice none 0 0), .agg [B 1, .v (.int .u32 0), B 0]]
def y18 : AV := .tup [.agg [.v (.bool false), .v (.int .i64 0), .v (.int .i64 0)], .v (.int .i64 0)]
theorem r18 : pureCall (env T7) (runA (env T7) 100000) 27 a18 = some y18 := by kernel_rfl
theorem c18 : PureOk Tryz.prog 27 a18 y18 := memo_run (fits k7) r18
def a19 : List AV := [.agg [.isl 3 [.agg [B 1, .v (.int .u32 0), .v (.bool true)]] (some 1), .isl 5 [.agg [B 1, .v (.int .u32 0), .v (.int .i64 0), .v (.int .i64 2), .v (.int .i64 2)]] (some 1), .v (.int .i64 0)], .v (.slice none 0 0), .agg [B 1, .v (.int .u32 0), B 0]]
def y19 : AV := .tup [.agg [.v (.bool false), .v (.int .i64 0), .v (.int .i64 0)], .v (.int .i64 0)]
theorem r19 : pureCall (env T7) (runA (env T7) 100000) 27 a19 = some y19 := by kernel_rfl
theorem c19 : PureOk Tryz.prog 27 a19 y19 := memo_run (fits k7) r19
def a20 : List AV := [.agg [.isl 3 [.agg [B 1, .v (.int .u32 0), .v (.bool true)]] (some 1), .isl 5 [.agg [B 1, .v (.int .u32 0), .v (.int .i64 1), .v (.int .i64 2), .v (.int .i64 2)]] (some 1), .v (.int .i64 0)], .isl 24 [.agg [B 1, .v (.int .i64 0), B 0, B 1, .v (.int .u32 0), B 0, .v (.int .i64 0), B 0, .v (.int .u32 0), B 0, .v (.int .i64 0), .v (.int .i64 0), B 0, .v (.int .u32 0), B 0, .v (.int .i64 0), B 0, .v (.int .u32 0), .v (.slice none 0 0), .v (.int .i64 0), .v (.int .i64 0), B 0, .v (.int .u32 0), .v (.bool false)], .agg [B 2, .v (.int .i64 0), B 1, B 1, .v (.int .u32 0), B 0, .v (.int .i64 1), B 1, .v (.int .u32 0), B 0, .v (.int .i64 1), .v (.int .i64 2), B 0, .v (.int .u32 0), B 0, .v (.int .i64 0), B 0, .v (.int .u32 0), .isl 1 [.v (.int .i32 0), .v (.int .i32 0)] none, .v (.int .i64 0), .v (.int .i64 0), B 0, .v (.int .u32 0), .v (.bool false)]] (some 2), .agg [B 1, .v (.int .u32 0), B 0]]
def y20 : AV := .tup [.agg [.v (.bool true), .v (.int .i64 0), .v (.int .i64 1)], .v (.int .i64 0)]
theorem r20 : pureCall (env T7) (runA (env T7) 100000) 27 a20 = some y20 := by kernel_rfl
theorem c20 : PureOk Tryz.prog 27 a20 y20 := memo_run (fits k7) r20
def T8 : Memo := (27, a20, y20) :: (27, a19, y19) :: (27, a18, y18) :: T7
theorem k8 : Known T8 := memo_cons c20 (memo_cons c19 (memo_cons c18 (k7)))
def a21 : List AV := [.agg [.isl 3 [.agg [B 1, .v (.int .u32 0), .v (.bool true)]] (some 1), .isl 5 [.agg [B 1, .v (.int .u32 0), .v (.int .i64 1), .v (.int .i64 2), .v (.int .i64 2)]] (some 1), .v (.int .i64 0)], .isl 24 [.agg [B 1, .v (.int .i64 0), B 0, B 1, .v (.int .u32 0), B 0, .v (.int .i64 0), B 0, .v (.int .u32 0), B 0, .v (.int .i64 0), .v (.int .i64 0), B 0, .v (.int .u32 0), B 0, .v (.int .i64 0), B 0, .v (.int .u32 0), .v (.slice none 0 0), .v (.int .i64 0), .v (.int .i64 0), B 0, .v (.int .u32 0), .v (.bool false)], .agg [B 2, .v (.int .i64 0), B 1, B 1, .v (.int .u32 0), B 0, .v (.int .i64 1), B 1, .v (.int .u32 0), B 0, .v (.int .i64 1), .v (.int .i64 2), B 0, .v (.int .u32 0), B 0, .v (.int .i64 0), B 0, .v (.int .u32 0), .isl 1 [.v (.int .i32 0), .v (.int .i32 0)] none, .v (.int .i64 0), .v (.int .i64 0), B 0, .v (.int .u32 0), .v (.bool false)]] (some 2), .agg [B 1, .v (.int .u32 0), B 0], .v (.int .i64 1)]
def y21 : AV := .tup [.v (.int .i64 0), .v (.int .i64 0)]
theorem r21 : pureCall (env T8) (runA (env T8) 100000) 29 a21 = some y21 := by kernel_rfl
theorem c21 : PureOk Tryz.prog 29 a21 y21 := memo_run (fits k8) r21
def T9 : Memo := (29, a21, y21) :: T8
theorem k9 : Known T9 := memo_cons c21 (k8)
def a22 : List AV := [.agg [.isl 3 [.agg [B 1, .v (.int .u32 0), .v (.bool true)]] (some 1), .isl 5 [.agg [B 1, .v (.int .u32 0), .v (.int .i64 1), .v (.int .i64 2), .v (.int .i64 2)]] (some 1), .v (.int .i64 0)], .v (.slice none 0 0), .agg [B 1, .v (.int .u32 0)]]
def y22 : AV := .tup [.agg [B 1, .v (.int .u32 0), .v (.int .i64 0), .v (.int .i64 0), .v (.int .i64 0)], .v (.int .i64 0)]
theorem r22 : pureCall (env T9) (runA (env T9) 100000) 31 a22 = some y22 := by kernel_rfl
theorem c22 : PureOk Tryz.prog 31 a22 y22 := memo_run (fits k9) r22
def a23 : List AV := [.agg [.isl 3 [.agg [B 1, .v (.int .u32 0), .v (.bool true)]] (some 1), .isl 5 [.agg [B 1, .v (.int .u32 0), .v (.int .i64 0), .v (.int .i64 2), .v (.int .i64 2)]] (some 1), .v (.int .i64 0)], .v (.slice none 0 0), .agg [B 1, .v (.int .u32 0)]]
def y23 : AV := .tup [.agg [B 1, .v (.int .u32 0), .v (.int .i64 0), .v (.int .i64 0), .v (.int .i64 0)], .v (.int .i64 0)]
theorem r23 : pureCall (env T9) (runA (env T9) 100000) 31 a23 = some y23 := by kernel_rfl
theorem c23 : PureOk Tryz.prog 31 a23 y23 := memo_run (fits k9) r23
def a24 : List AV := [.agg [.isl 3 [.agg [B 1, .v (.int .u32 0), .v (.bool true)]] (some 1), .isl 5 [.agg [B 1, .v (.int .u32 0), .v (.int .i64 1), .v (.int .i64 2), .v (.int .i64 2)]] (some 1), .v (.int .i64 0)], .isl 24 [.agg [B 1, .v (.int .i64 0), B 0, B 1, .v (.int .u32 0), B 0, .v (.int .i64 0), B 0, .v (.int .u32 0), B 0, .v (.int .i64 0), .v (.int .i64 0), B 0, .v (.int .u32 0), B 0, .v (.int .i64 0), B 0, .v (.int .u32 0), .v (.slice none 0 0), .v (.int .i64 0), .v (.int .i64 0), B 0, .v (.int .u32 0), .v (.bool false)], .agg [B 2, .v (.int .i64 0), B 1, B 1, .v (.int .u32 0), B 0, .v (.int .i64 1), B 1, .v (.int .u32 0), B 0, .v (.int .i64 1), .v (.int .i64 2), B 0, .v (.int .u32 0), B 0, .v (.int .i64 0), B 0, .v (.int .u32 0), .isl 1 [.v (.int .i32 0), .v (.int .i32 0)] none, .v (.int .i64 0), .v (.int .i64 0), B 0, .v (.int .u32 0), .v (.bool false)]] (some 2), .agg [B 1, .v (.int .u32 0)]]
def y24 : AV := .tup [.agg [B 1, .v (.int .u32 0), .v (.int .i64 1), .v (.int .i64 1), .v (.int .i64 2)], .v (.int .i64 0)]
theorem r24 : pureCall (env T9) (runA (env T9) 100000) 31 a24 = some y24 := by kernel_rfl
theorem c24 : PureOk Tryz.prog 31 a24 y24 := memo_run (fits k9) r24
def T10 : Memo := (31, a24, y24) :: (31, a23, y23) :: (31, a22, y22) :: T9
theorem k10 : Known T10 := memo_cons c24 (memo_cons c23 (memo_cons c22 (k9)))
theorem run : pureCall (env T10) (runA (env T10) 100000) 9 [] = some (.v (.bool true)) := by kernel_rfl
theorem own : ownKnob Tryz.prog.godebug = none := by kernel_rfl
theorem kids : Kids Tryz.prog (· < Tryz.prog.types.size) := kids_rows (by kernel_rfl) (by kernel_rfl)
theorem lifted (os : Os) (started : os.Started) (H : Type) (enc : TypeId × Value → H) :
    ReturnsInHanded {} Tryz.checked os 9 .any (Rows.admitNamesSpec.pre6 enc Tryz.prog Tryz.f9 Rows.admitNamesRow.domain false) (Rows.admitNamesSpec.post enc Tryz.prog Tryz.f9 false true false false) := by
  refine returnsInHanded_of_change (C := Tryz.checked) own started (by kernel_rfl) Tryz.func9
    (ChangeSpec.witness6 (enc := enc) (C := Tryz.checked) false ⟨#[], #[], []⟩ 8 (by kernel_rfl) (by kernel_rfl) (by kernel_rfl) (by kernel_rfl)) ?_
  intro W base args ds gs before hval hW _ _
  exact closed_contract (E := env T10) (fits k10) kids (slices_full_of Tryz.prog (by kernel_rfl)) (by kernel_rfl) rfl rfl (by kernel_rfl) run W args ds gs before hW
theorem over : Rows.admitNamesRow.holds Tryz.pinned (OpenSpec.ofChange Rows.admitNamesSpec) :=
  OpenClaim.holds_of_wide 9 Tryz.f9 rfl rfl rfl rfl rfl rfl rfl ⟨rfl, rfl, rfl, rfl, rfl⟩ rfl rfl rfl rfl rfl (by kernel_rfl) Tryz.func9 (by kernel_rfl)
    (of_decide_eq_true (by kernel_rfl)) (by unfold Func.isWrapper; first | (rw [if_pos (by decide +kernel)]; kernel_rfl) | (rw [if_neg (by decide +kernel)]; exact ⟨rfl, rfl⟩))
    (fun os started H enc _ => lifted os started H enc)
theorem proved : Rows.AdmitNamesSaid :=
  over
end Go.Proofs.YtmkmimgokagimaaGreat.admitNames
