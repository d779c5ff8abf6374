/-
  The facts on the program's types, computed. No statement of a seat is proved here.
-/
import Derived.Test.YtehkjjcdkbcebaaRows
import Derived.Test.YtehkjjcdkbcebaaAbsRules
set_option linter.unusedVariables false
set_option maxRecDepth 1000000
namespace Go.Proofs.Ytehkjjcdkbcebaa
open Go.Ab
def fns : List FuncId := [10, 14, 15, 17, 21, 22, 16, 26, 30, 41, 42, 43, 44, 45, 46, 50, 51, 52, 53, 54, 55, 56, 57, 58, 59, 60, 61, 62, 63, 64, 70, 71, 74, 75, 76, 77, 78, 79, 80, 81, 83, 84, 85, 86, 87, 88, 89, 90, 91, 92, 93, 94, 95, 96, 97, 98, 99, 100, 127, 128, 129, 130, 131, 132, 133, 135, 136]
def keep : List FuncId := [51, 53, 59, 70, 85]
def thr : List FuncId := [55, 56, 128]
def memo : List (FuncId × List AV × AV) := [(40, [], .v (.bool true))]
noncomputable def env : Env := envOf Try.prog fns keep thr (strictOf [(150, 0, 55555), (156, 0, 55555), (19, 13, 18), (16, 1, 77777), (55, 1, 88888)]) (tabApart [(129, 19, 22, [(3, 4)]), (35, 21, 0, [(36, 52), (37, 52), (38, 52), (41, 52), (42, 52), (43, 52), (47, 52), (48, 52), (49, 52)]), (145, 8, 4, [(148, 2)]), (7, 6, 0, [(3, 5)]), (49, 9, 0, [(6, 50), (6, 54)]), (13, 5, 4, [(3, 2)]), (67, 5, 4, [(3, 2)]), (14, 5, 3, [(15, 2)]), (15, 12, 0, [(20, 23)]), (52, 10, 0, [(56, 58)])]) (tabFrz [(150, 0, 55555), (156, 0, 55555), (19, 13, 18), (16, 1, 77777), (55, 1, 88888)]) memo
theorem fnsFit : fnsOk env fns = true := by kernel_rfl
@[simp] theorem no_thr {f : FuncId} (h : thr.contains f = false) : (env.mode f == 2) = false := by
  show ((if keep.contains f then 1 else if thr.contains f then 2 else 0) == 2) = false
  rw [h]
  split <;> rfl
theorem mode0 {f : FuncId} (h : keep.contains f = false) : (env.mode f == 1) = false := by
  show ((if keep.contains f then 1 else if thr.contains f then 2 else 0) == 1) = false
  rw [h]
  cases thr.contains f <;> rfl
@[simp] theorem handed0 {f : FuncId} (h : keep.contains f = false) (x : AV) (H : Heap) (y : AV) : handed env f x H y ↔ view H.get depth x = some y := handed_of (mode0 h) x H y
theorem mode1 {f : FuncId} (h : keep.contains f = true) : (env.mode f == 1) = true := by
  show ((if keep.contains f then 1 else if thr.contains f then 2 else 0) == 1) = true
  rw [h]; rfl
@[simp] theorem handed1 {f : FuncId} (h : keep.contains f = true) (x : AV) (H : Heap) (y : AV) : handed env f x H y ↔ (viewRefs H.get depth x).Nodup ∧ exportA H.get depth x = some y := handed_keep (mode1 h) x H y
@[simp] theorem tsize_3 : tsize env.P 3 = (some 1) := by kernel_rfl
@[simp] theorem tagg_3 : tagg env.P 3 = (some false) := by kernel_rfl
@[simp] theorem tzero_3 : tzero env.P 3 = (some (.v (.int .i64 0))) := by kernel_rfl
@[simp] theorem leafT_3 : leafT env.P 3 = (some 1) := by kernel_rfl
@[simp] theorem isInt_3 : isInt env.P 3 = true := by kernel_rfl
@[simp] theorem intKind_3 : intKind env.P 3 = (some .i64) := by kernel_rfl
@[simp] theorem undS_3 : (env.P.underlying 3).isNone = false := by kernel_rfl
@[simp] theorem tsize_4 : tsize env.P 4 = (some 1) := by kernel_rfl
@[simp] theorem tagg_4 : tagg env.P 4 = (some false) := by kernel_rfl
@[simp] theorem leafT_4 : leafT env.P 4 = (some 0) := by kernel_rfl
@[simp] theorem isBool_4 : isBool env.P 4 = true := by kernel_rfl
@[simp] theorem tsize_5 : tsize env.P 5 = (some 1) := by kernel_rfl
@[simp] theorem tagg_5 : tagg env.P 5 = (some false) := by kernel_rfl
@[simp] theorem leafT_5 : leafT env.P 5 = (some 1) := by kernel_rfl
@[simp] theorem intKind_5 : intKind env.P 5 = (some .u8) := by kernel_rfl
@[simp] theorem undS_5 : (env.P.underlying 5).isNone = false := by kernel_rfl
@[simp] theorem isStr_9 : isStr env.P 9 = true := by kernel_rfl
@[simp] theorem tsize_21 : tsize env.P 21 = (some 1) := by kernel_rfl
@[simp] theorem tagg_21 : tagg env.P 21 = (some false) := by kernel_rfl
@[simp] theorem intKind_21 : intKind env.P 21 = (some .i32) := by kernel_rfl
@[simp] theorem undS_21 : (env.P.underlying 21).isNone = false := by kernel_rfl
@[simp] theorem tsize_22 : tsize env.P 22 = (some 1) := by kernel_rfl
@[simp] theorem tagg_22 : tagg env.P 22 = (some false) := by kernel_rfl
@[simp] theorem leafT_22 : leafT env.P 22 = (some 1) := by kernel_rfl
@[simp] theorem intKind_22 : intKind env.P 22 = (some .u32) := by kernel_rfl
@[simp] theorem undS_22 : (env.P.underlying 22).isNone = false := by kernel_rfl
@[simp] theorem tsize_24 : tsize env.P 24 = (some 2) := by kernel_rfl
@[simp] theorem tagg_24 : tagg env.P 24 = (some true) := by kernel_rfl
@[simp] theorem tarr_24 : tarr env.P 24 = none := by kernel_rfl
@[simp] theorem tzero_24 : tzero env.P 24 = (some (.agg [(a8 0), (a32 0)])) := by kernel_rfl
@[simp] theorem leafT_24 : leafT env.P 24 = none := by kernel_rfl
@[simp] theorem eqTy_24 : eqTy env.P 24 = true := by kernel_rfl
@[simp] theorem fieldTys_24 : fieldTys env.P 24 = (some [5, 22]) := by kernel_rfl
@[simp] theorem places_24 : placesOf env.P 24 = (some [(0, 1), (1, 1)]) := by kernel_rfl
@[simp] theorem fplace_0_24 : fieldPlaces env.P 24 0 = (some (0, 1)) := by kernel_rfl
@[simp] theorem fplace_1_24 : fieldPlaces env.P 24 1 = (some (1, 1)) := by kernel_rfl
@[simp] theorem tsize_26 : tsize env.P 26 = (some 3) := by kernel_rfl
@[simp] theorem tagg_26 : tagg env.P 26 = (some true) := by kernel_rfl
@[simp] theorem tarr_26 : tarr env.P 26 = none := by kernel_rfl
@[simp] theorem tzero_26 : tzero env.P 26 = (some (.agg [(a8 0), (a32 0), (a8 0)])) := by kernel_rfl
@[simp] theorem leafT_26 : leafT env.P 26 = none := by kernel_rfl
@[simp] theorem eqTy_26 : eqTy env.P 26 = true := by kernel_rfl
@[simp] theorem fieldTys_26 : fieldTys env.P 26 = (some [24, 5]) := by kernel_rfl
@[simp] theorem places_26 : placesOf env.P 26 = (some [(0, 2), (2, 1)]) := by kernel_rfl
@[simp] theorem fplace_0_26 : fieldPlaces env.P 26 0 = (some (0, 2)) := by kernel_rfl
@[simp] theorem fplace_1_26 : fieldPlaces env.P 26 1 = (some (2, 1)) := by kernel_rfl
@[simp] theorem tsize_28 : tsize env.P 28 = (some 4) := by kernel_rfl
@[simp] theorem tagg_28 : tagg env.P 28 = (some true) := by kernel_rfl
@[simp] theorem tarr_28 : tarr env.P 28 = none := by kernel_rfl
@[simp] theorem tzero_28 : tzero env.P 28 = (some (.agg [(a8 0), (a32 0), (a8 0), (.v (.int .i64 0))])) := by kernel_rfl
@[simp] theorem leafT_28 : leafT env.P 28 = none := by kernel_rfl
@[simp] theorem eqTy_28 : eqTy env.P 28 = true := by kernel_rfl
@[simp] theorem fieldTys_28 : fieldTys env.P 28 = (some [26, 3]) := by kernel_rfl
@[simp] theorem places_28 : placesOf env.P 28 = (some [(0, 3), (3, 1)]) := by kernel_rfl
@[simp] theorem fplace_0_28 : fieldPlaces env.P 28 0 = (some (0, 3)) := by kernel_rfl
@[simp] theorem fplace_1_28 : fieldPlaces env.P 28 1 = (some (3, 1)) := by kernel_rfl
@[simp] theorem tsize_30 : tsize env.P 30 = (some 5) := by kernel_rfl
@[simp] theorem tagg_30 : tagg env.P 30 = (some true) := by kernel_rfl
@[simp] theorem leafT_30 : leafT env.P 30 = none := by kernel_rfl
@[simp] theorem eqTy_30 : eqTy env.P 30 = true := by kernel_rfl
@[simp] theorem fieldTys_30 : fieldTys env.P 30 = (some [28, 3]) := by kernel_rfl
@[simp] theorem fplace_0_30 : fieldPlaces env.P 30 0 = (some (0, 4)) := by kernel_rfl
@[simp] theorem fplace_1_30 : fieldPlaces env.P 30 1 = (some (4, 1)) := by kernel_rfl
@[simp] theorem tsize_31 : tsize env.P 31 = (some 1) := by kernel_rfl
@[simp] theorem tagg_31 : tagg env.P 31 = (some false) := by kernel_rfl
@[simp] theorem telem_31 : telem env.P 31 = (some 21) := by kernel_rfl
@[simp] theorem tarr_31 : tarr env.P 31 = none := by kernel_rfl
@[simp] theorem isStr_31 : isStr env.P 31 = false := by kernel_rfl
@[simp] theorem tzero_31 : tzero env.P 31 = (some (.v (.slice none 0 0))) := by kernel_rfl
@[simp] theorem apT_31 : apT env.P 31 = true := by kernel_rfl
@[simp] theorem elOk_31 : elOk env.P 31 = true := by kernel_rfl
@[simp] theorem elZ_31 : elZ env.P 31 = 1 := by kernel_rfl
@[simp] theorem elBy_31 : elBy env.P 31 = 4 := by kernel_rfl
@[simp] theorem elZero_31 : elZero env.P 31 = (.v (.int .i32 0)) := by kernel_rfl
@[simp] theorem tsize_33 : tsize env.P 33 = (some 17) := by kernel_rfl
@[simp] theorem tagg_33 : tagg env.P 33 = (some true) := by kernel_rfl
@[simp] theorem tarr_33 : tarr env.P 33 = none := by kernel_rfl
@[simp] theorem tzero_33 : tzero env.P 33 = (some (.agg [(a8 0), (a8 0), (a32 0), (a8 0), (.v (.int .i64 0)), (a8 0), (a32 0), (a8 0), (.v (.int .i64 0)), (.v (.int .i64 0)), (a8 0), (a32 0), (a8 0), (.v (.int .i64 0)), (a8 0), (a32 0), (.v (.slice none 0 0))])) := by kernel_rfl
@[simp] theorem fieldTys_33 : fieldTys env.P 33 = (some [5, 26, 3, 30, 28, 24, 31]) := by kernel_rfl
@[simp] theorem places_33 : placesOf env.P 33 = (some [(0, 1), (1, 3), (4, 1), (5, 5), (10, 4), (14, 2), (16, 1)]) := by kernel_rfl
@[simp] theorem fplace_0_33 : fieldPlaces env.P 33 0 = (some (0, 1)) := by kernel_rfl
@[simp] theorem fplace_1_33 : fieldPlaces env.P 33 1 = (some (1, 3)) := by kernel_rfl
@[simp] theorem fplace_2_33 : fieldPlaces env.P 33 2 = (some (4, 1)) := by kernel_rfl
@[simp] theorem fplace_3_33 : fieldPlaces env.P 33 3 = (some (5, 5)) := by kernel_rfl
@[simp] theorem fplace_4_33 : fieldPlaces env.P 33 4 = (some (10, 4)) := by kernel_rfl
@[simp] theorem fplace_5_33 : fieldPlaces env.P 33 5 = (some (14, 2)) := by kernel_rfl
@[simp] theorem fplace_6_33 : fieldPlaces env.P 33 6 = (some (16, 1)) := by kernel_rfl
@[simp] theorem tsize_34 : tsize env.P 34 = (some 1) := by kernel_rfl
@[simp] theorem tagg_34 : tagg env.P 34 = (some false) := by kernel_rfl
@[simp] theorem telem_34 : telem env.P 34 = (some 5) := by kernel_rfl
@[simp] theorem tarr_34 : tarr env.P 34 = none := by kernel_rfl
@[simp] theorem isStr_34 : isStr env.P 34 = false := by kernel_rfl
@[simp] theorem apT_34 : apT env.P 34 = true := by kernel_rfl
@[simp] theorem elOk_34 : elOk env.P 34 = true := by kernel_rfl
@[simp] theorem elZ_34 : elZ env.P 34 = 1 := by kernel_rfl
@[simp] theorem elBy_34 : elBy env.P 34 = 1 := by kernel_rfl
@[simp] theorem elZero_34 : elZero env.P 34 = (a8 0) := by kernel_rfl
@[simp] theorem isBys_34 : isByteSlice env.P 34 = true := by kernel_rfl
@[simp] theorem tsize_36 : tsize env.P 36 = (some 1) := by kernel_rfl
@[simp] theorem tagg_36 : tagg env.P 36 = (some false) := by kernel_rfl
@[simp] theorem intKind_36 : intKind env.P 36 = (some .i64) := by kernel_rfl
@[simp] theorem undS_36 : (env.P.underlying 36).isNone = false := by kernel_rfl
@[simp] theorem tsize_49 : tsize env.P 49 = (some 1) := by kernel_rfl
@[simp] theorem tagg_49 : tagg env.P 49 = (some false) := by kernel_rfl
@[simp] theorem tsize_71 : tsize env.P 71 = (some 3) := by kernel_rfl
@[simp] theorem tarr_71 : tarr env.P 71 = none := by kernel_rfl
@[simp] theorem tzero_71 : tzero env.P 71 = (some (.agg [(a8 0), (a32 0), (.v (.bool false))])) := by kernel_rfl
@[simp] theorem leafT_71 : leafT env.P 71 = none := by kernel_rfl
@[simp] theorem fieldTys_71 : fieldTys env.P 71 = (some [24, 4]) := by kernel_rfl
@[simp] theorem places_71 : placesOf env.P 71 = (some [(0, 2), (2, 1)]) := by kernel_rfl
@[simp] theorem fplace_0_71 : fieldPlaces env.P 71 0 = (some (0, 2)) := by kernel_rfl
@[simp] theorem fplace_1_71 : fieldPlaces env.P 71 1 = (some (2, 1)) := by kernel_rfl
@[simp] theorem tsize_73 : tsize env.P 73 = (some 4) := by kernel_rfl
@[simp] theorem tagg_73 : tagg env.P 73 = (some true) := by kernel_rfl
@[simp] theorem tarr_73 : tarr env.P 73 = none := by kernel_rfl
@[simp] theorem tzero_73 : tzero env.P 73 = (some (.agg [(.v (.int .i64 0)), (a8 0), (a32 0), (.v (.bool false))])) := by kernel_rfl
@[simp] theorem leafT_73 : leafT env.P 73 = none := by kernel_rfl
@[simp] theorem eqTy_73 : eqTy env.P 73 = true := by kernel_rfl
@[simp] theorem fieldTys_73 : fieldTys env.P 73 = (some [3, 71]) := by kernel_rfl
@[simp] theorem places_73 : placesOf env.P 73 = (some [(0, 1), (1, 3)]) := by kernel_rfl
@[simp] theorem fplace_0_73 : fieldPlaces env.P 73 0 = (some (0, 1)) := by kernel_rfl
@[simp] theorem fplace_1_73 : fieldPlaces env.P 73 1 = (some (1, 3)) := by kernel_rfl
@[simp] theorem tsize_75 : tsize env.P 75 = (some 24) := by kernel_rfl
@[simp] theorem tagg_75 : tagg env.P 75 = (some true) := by kernel_rfl
@[simp] theorem tarr_75 : tarr env.P 75 = none := by kernel_rfl
@[simp] theorem tzero_75 : tzero env.P 75 = (some (.agg [(a8 0), (.v (.int .i64 0)), (a8 0), (a8 0), (a32 0), (a8 0), (.v (.int .i64 0)), (a8 0), (a32 0), (a8 0), (.v (.int .i64 0)), (.v (.int .i64 0)), (a8 0), (a32 0), (a8 0), (.v (.int .i64 0)), (a8 0), (a32 0), (.v (.slice none 0 0)), (.v (.int .i64 0)), (.v (.int .i64 0)), (a8 0), (a32 0), (.v (.bool false))])) := by kernel_rfl
@[simp] theorem fieldTys_75 : fieldTys env.P 75 = (some [5, 3, 33, 36, 73]) := by kernel_rfl
@[simp] theorem places_75 : placesOf env.P 75 = (some [(0, 1), (1, 1), (2, 17), (19, 1), (20, 4)]) := by kernel_rfl
@[simp] theorem fplace_0_75 : fieldPlaces env.P 75 0 = (some (0, 1)) := by kernel_rfl
@[simp] theorem fplace_1_75 : fieldPlaces env.P 75 1 = (some (1, 1)) := by kernel_rfl
@[simp] theorem fplace_2_75 : fieldPlaces env.P 75 2 = (some (2, 17)) := by kernel_rfl
@[simp] theorem fplace_3_75 : fieldPlaces env.P 75 3 = (some (19, 1)) := by kernel_rfl
@[simp] theorem fplace_4_75 : fieldPlaces env.P 75 4 = (some (20, 4)) := by kernel_rfl
@[simp] theorem tsize_76 : tsize env.P 76 = (some 1) := by kernel_rfl
@[simp] theorem tagg_76 : tagg env.P 76 = (some false) := by kernel_rfl
@[simp] theorem telem_76 : telem env.P 76 = (some 34) := by kernel_rfl
@[simp] theorem tarr_76 : tarr env.P 76 = none := by kernel_rfl
@[simp] theorem isStr_76 : isStr env.P 76 = false := by kernel_rfl
@[simp] theorem tzero_76 : tzero env.P 76 = (some (.v (.slice none 0 0))) := by kernel_rfl
@[simp] theorem apT_76 : apT env.P 76 = true := by kernel_rfl
@[simp] theorem elOk_76 : elOk env.P 76 = true := by kernel_rfl
@[simp] theorem elZ_76 : elZ env.P 76 = 1 := by kernel_rfl
@[simp] theorem elBy_76 : elBy env.P 76 = 24 := by kernel_rfl
@[simp] theorem elZero_76 : elZero env.P 76 = (.v (.slice none 0 0)) := by kernel_rfl
@[simp] theorem tsize_80 : tsize env.P 80 = (some 4) := by kernel_rfl
@[simp] theorem tagg_80 : tagg env.P 80 = (some true) := by kernel_rfl
@[simp] theorem tarr_80 : tarr env.P 80 = none := by kernel_rfl
@[simp] theorem tzero_80 : tzero env.P 80 = (some (.agg [(.v (.int .i64 0)), (.v (.int .i64 0)), (.v (.int .i64 0)), (.v (.int .i64 0))])) := by kernel_rfl
@[simp] theorem leafT_80 : leafT env.P 80 = none := by kernel_rfl
@[simp] theorem eqTy_80 : eqTy env.P 80 = true := by kernel_rfl
@[simp] theorem fieldTys_80 : fieldTys env.P 80 = (some [3, 3, 3, 3]) := by kernel_rfl
@[simp] theorem places_80 : placesOf env.P 80 = (some [(0, 1), (1, 1), (2, 1), (3, 1)]) := by kernel_rfl
@[simp] theorem fplace_0_80 : fieldPlaces env.P 80 0 = (some (0, 1)) := by kernel_rfl
@[simp] theorem fplace_1_80 : fieldPlaces env.P 80 1 = (some (1, 1)) := by kernel_rfl
@[simp] theorem fplace_2_80 : fieldPlaces env.P 80 2 = (some (2, 1)) := by kernel_rfl
@[simp] theorem fplace_3_80 : fieldPlaces env.P 80 3 = (some (3, 1)) := by kernel_rfl
@[simp] theorem tsize_101 : tsize env.P 101 = (some 3) := by kernel_rfl
@[simp] theorem tarr_101 : tarr env.P 101 = none := by kernel_rfl
@[simp] theorem tzero_101 : tzero env.P 101 = (some (.agg [(.v (.slice none 0 0)), (.v (.int .i64 0)), (.v (.bool false))])) := by kernel_rfl
@[simp] theorem places_101 : placesOf env.P 101 = (some [(0, 1), (1, 1), (2, 1)]) := by kernel_rfl
@[simp] theorem fplace_0_101 : fieldPlaces env.P 101 0 = (some (0, 1)) := by kernel_rfl
@[simp] theorem fplace_1_101 : fieldPlaces env.P 101 1 = (some (1, 1)) := by kernel_rfl
@[simp] theorem fplace_2_101 : fieldPlaces env.P 101 2 = (some (2, 1)) := by kernel_rfl
@[simp] theorem tsize_112 : tsize env.P 112 = (some 2) := by kernel_rfl
@[simp] theorem tagg_112 : tagg env.P 112 = (some true) := by kernel_rfl
@[simp] theorem tfield_0_112 : tfield env.P 112 0 = (some (0, 49)) := by kernel_rfl
@[simp] theorem tarr_113 : tarr env.P 113 = (some (4, 112)) := by kernel_rfl
@[simp] theorem tsize_136 : tsize env.P 136 = (some 24) := by kernel_rfl
@[simp] theorem tarr_136 : tarr env.P 136 = none := by kernel_rfl
@[simp] theorem tzero_136 : tzero env.P 136 = (some (.agg [(a8 0), (.v (.int .i64 0)), (a8 0), (a8 0), (a32 0), (a8 0), (.v (.int .i64 0)), (a8 0), (a32 0), (a8 0), (.v (.int .i64 0)), (.v (.int .i64 0)), (a8 0), (a32 0), (a8 0), (.v (.int .i64 0)), (a8 0), (a32 0), (.v (.slice none 0 0)), (.v (.int .i64 0)), (.v (.int .i64 0)), (a8 0), (a32 0), (.v (.bool false))])) := by kernel_rfl
@[simp] theorem places_136 : placesOf env.P 136 = (some [(0, 24)]) := by kernel_rfl
@[simp] theorem fplace_0_136 : fieldPlaces env.P 136 0 = (some (0, 24)) := by kernel_rfl
@[simp] theorem tsize_153 : tsize env.P 153 = (some 4) := by kernel_rfl
@[simp] theorem tagg_153 : tagg env.P 153 = (some true) := by kernel_rfl
@[simp] theorem tarr_153 : tarr env.P 153 = none := by kernel_rfl
@[simp] theorem tzero_153 : tzero env.P 153 = (some (.agg [(a8 0), (a32 0), (a8 0), (.v (.int .i64 0))])) := by kernel_rfl
@[simp] theorem places_153 : placesOf env.P 153 = (some [(0, 3), (3, 1)]) := by kernel_rfl
@[simp] theorem tfield_0_153 : tfield env.P 153 0 = (some (0, 26)) := by kernel_rfl
@[simp] theorem fplace_0_153 : fieldPlaces env.P 153 0 = (some (0, 3)) := by kernel_rfl
@[simp] theorem fplace_1_153 : fieldPlaces env.P 153 1 = (some (3, 1)) := by kernel_rfl
end Go.Proofs.Ytehkjjcdkbcebaa
