/-
  The facts on the program's types, computed. No statement of a seat is proved here.
-/
import Derived.Test.YtehkjjcdkbcebaaRows
import Derived.Test.YtehkjjcdkbcebaaAbsRules
set_option linter.unusedVariables false
set_option maxRecDepth 1000000
namespace Go.Proofs.Ytehkjjcdkbcebaa
open Go.Ab
def fns : List FuncId := [7, 9, 14, 15, 16, 17, 21, 22, 30, 32, 33, 34, 35, 36, 37, 51, 52, 53, 54, 55, 56, 57, 58, 59, 60, 61, 62, 63, 64, 70, 71, 72, 73, 76, 80, 83, 84, 85, 86, 87, 88, 89, 90, 91, 92, 93, 94, 95, 96, 97, 98, 99, 100, 111, 112, 113, 114, 115, 116, 117, 118, 119, 120, 121, 122, 123, 124, 125, 126, 128, 130, 131, 132, 133, 136]
def keep : List FuncId := [51, 53, 59, 70, 72, 85]
def thr : List FuncId := [55, 56, 113, 114, 115, 116, 118, 119, 120, 121, 122, 124, 125, 128]
def memo : List (FuncId × List AV × AV) := [(31, [], .v (.bool true))]
noncomputable def env : Env := envOf Try.prog fns keep thr (strictOf [(19, 13, 18), (16, 1, 77777), (55, 1, 88888)]) (tabApart [(35, 21, 0, [(36, 52), (37, 52), (38, 52), (41, 52), (42, 52), (43, 52), (47, 52), (48, 52), (49, 52)]), (145, 8, 4, [(148, 2)]), (7, 6, 0, [(3, 5)]), (14, 5, 3, [(15, 2)]), (8, 6, 0, [(3, 5)]), (72, 19, 0, [(76, 82), (76, 83), (83, 86)])]) (tabFrz [(19, 13, 18), (16, 1, 77777), (55, 1, 88888)]) memo
theorem fnsFit : fnsOk env fns = true := by kernel_rfl
@[simp] theorem no_thr {f : FuncId} (h : thr.contains f = false) : (env.mode f == 2) = false := by
  show ((if keep.contains f then 1 else if thr.contains f then 2 else 0) == 2) = false
  rw [h]
  split <;> rfl
theorem mode0 {f : FuncId} (h : keep.contains f = false) : (env.mode f == 1) = false := by
  show ((if keep.contains f then 1 else if thr.contains f then 2 else 0) == 1) = false
  rw [h]
  cases thr.contains f <;> rfl
@[simp] theorem handed0 {f : FuncId} (h : keep.contains f = false) (x : AV) (H : Heap) (y : AV) : handed env f x H y ↔ view H.get depth x = some y := handed_of (mode0 h) x H y
theorem mode1 {f : FuncId} (h : keep.contains f = true) : (env.mode f == 1) = true := by
  show ((if keep.contains f then 1 else if thr.contains f then 2 else 0) == 1) = true
  rw [h]; rfl
@[simp] theorem handed1 {f : FuncId} (h : keep.contains f = true) (x : AV) (H : Heap) (y : AV) : handed env f x H y ↔ (viewRefs H.get depth x).Nodup ∧ exportA H.get depth x = some y := handed_keep (mode1 h) x H y
@[simp] theorem tsize_3 : tsize env.P 3 = (some 1) := by kernel_rfl
@[simp] theorem tagg_3 : tagg env.P 3 = (some false) := by kernel_rfl
@[simp] theorem tzero_3 : tzero env.P 3 = (some (.v (.int .i64 0))) := by kernel_rfl
@[simp] theorem leafT_3 : leafT env.P 3 = (some 1) := by kernel_rfl
@[simp] theorem isInt_3 : isInt env.P 3 = true := by kernel_rfl
@[simp] theorem intKind_3 : intKind env.P 3 = (some .i64) := by kernel_rfl
@[simp] theorem undS_3 : (env.P.underlying 3).isNone = false := by kernel_rfl
@[simp] theorem tsize_4 : tsize env.P 4 = (some 1) := by kernel_rfl
@[simp] theorem tagg_4 : tagg env.P 4 = (some false) := by kernel_rfl
@[simp] theorem tsize_5 : tsize env.P 5 = (some 1) := by kernel_rfl
@[simp] theorem tagg_5 : tagg env.P 5 = (some false) := by kernel_rfl
@[simp] theorem leafT_5 : leafT env.P 5 = (some 1) := by kernel_rfl
@[simp] theorem intKind_5 : intKind env.P 5 = (some .u8) := by kernel_rfl
@[simp] theorem undS_5 : (env.P.underlying 5).isNone = false := by kernel_rfl
@[simp] theorem isStr_9 : isStr env.P 9 = true := by kernel_rfl
@[simp] theorem tsize_21 : tsize env.P 21 = (some 1) := by kernel_rfl
@[simp] theorem tagg_21 : tagg env.P 21 = (some false) := by kernel_rfl
@[simp] theorem intKind_21 : intKind env.P 21 = (some .i32) := by kernel_rfl
@[simp] theorem undS_21 : (env.P.underlying 21).isNone = false := by kernel_rfl
@[simp] theorem tsize_22 : tsize env.P 22 = (some 1) := by kernel_rfl
@[simp] theorem tagg_22 : tagg env.P 22 = (some false) := by kernel_rfl
@[simp] theorem leafT_22 : leafT env.P 22 = (some 1) := by kernel_rfl
@[simp] theorem intKind_22 : intKind env.P 22 = (some .u32) := by kernel_rfl
@[simp] theorem undS_22 : (env.P.underlying 22).isNone = false := by kernel_rfl
@[simp] theorem tsize_24 : tsize env.P 24 = (some 2) := by kernel_rfl
@[simp] theorem tagg_24 : tagg env.P 24 = (some true) := by kernel_rfl
@[simp] theorem tarr_24 : tarr env.P 24 = none := by kernel_rfl
@[simp] theorem tzero_24 : tzero env.P 24 = (some (.agg [(a8 0), (a32 0)])) := by kernel_rfl
@[simp] theorem leafT_24 : leafT env.P 24 = none := by kernel_rfl
@[simp] theorem eqTy_24 : eqTy env.P 24 = true := by kernel_rfl
@[simp] theorem fieldTys_24 : fieldTys env.P 24 = (some [5, 22]) := by kernel_rfl
@[simp] theorem places_24 : placesOf env.P 24 = (some [(0, 1), (1, 1)]) := by kernel_rfl
@[simp] theorem fplace_0_24 : fieldPlaces env.P 24 0 = (some (0, 1)) := by kernel_rfl
@[simp] theorem fplace_1_24 : fieldPlaces env.P 24 1 = (some (1, 1)) := by kernel_rfl
@[simp] theorem tsize_26 : tsize env.P 26 = (some 3) := by kernel_rfl
@[simp] theorem tagg_26 : tagg env.P 26 = (some true) := by kernel_rfl
@[simp] theorem tarr_26 : tarr env.P 26 = none := by kernel_rfl
@[simp] theorem tzero_26 : tzero env.P 26 = (some (.agg [(a8 0), (a32 0), (a8 0)])) := by kernel_rfl
@[simp] theorem leafT_26 : leafT env.P 26 = none := by kernel_rfl
@[simp] theorem eqTy_26 : eqTy env.P 26 = true := by kernel_rfl
@[simp] theorem fieldTys_26 : fieldTys env.P 26 = (some [24, 5]) := by kernel_rfl
@[simp] theorem places_26 : placesOf env.P 26 = (some [(0, 2), (2, 1)]) := by kernel_rfl
@[simp] theorem fplace_0_26 : fieldPlaces env.P 26 0 = (some (0, 2)) := by kernel_rfl
@[simp] theorem fplace_1_26 : fieldPlaces env.P 26 1 = (some (2, 1)) := by kernel_rfl
@[simp] theorem tsize_28 : tsize env.P 28 = (some 4) := by kernel_rfl
@[simp] theorem tagg_28 : tagg env.P 28 = (some true) := by kernel_rfl
@[simp] theorem tarr_28 : tarr env.P 28 = none := by kernel_rfl
@[simp] theorem tzero_28 : tzero env.P 28 = (some (.agg [(a8 0), (a32 0), (a8 0), (.v (.int .i64 0))])) := by kernel_rfl
@[simp] theorem leafT_28 : leafT env.P 28 = none := by kernel_rfl
@[simp] theorem eqTy_28 : eqTy env.P 28 = true := by kernel_rfl
@[simp] theorem fieldTys_28 : fieldTys env.P 28 = (some [26, 3]) := by kernel_rfl
@[simp] theorem places_28 : placesOf env.P 28 = (some [(0, 3), (3, 1)]) := by kernel_rfl
@[simp] theorem fplace_0_28 : fieldPlaces env.P 28 0 = (some (0, 3)) := by kernel_rfl
@[simp] theorem fplace_1_28 : fieldPlaces env.P 28 1 = (some (3, 1)) := by kernel_rfl
@[simp] theorem tsize_30 : tsize env.P 30 = (some 5) := by kernel_rfl
@[simp] theorem tagg_30 : tagg env.P 30 = (some true) := by kernel_rfl
@[simp] theorem leafT_30 : leafT env.P 30 = none := by kernel_rfl
@[simp] theorem eqTy_30 : eqTy env.P 30 = true := by kernel_rfl
@[simp] theorem fieldTys_30 : fieldTys env.P 30 = (some [28, 3]) := by kernel_rfl
@[simp] theorem fplace_0_30 : fieldPlaces env.P 30 0 = (some (0, 4)) := by kernel_rfl
@[simp] theorem fplace_1_30 : fieldPlaces env.P 30 1 = (some (4, 1)) := by kernel_rfl
@[simp] theorem tsize_31 : tsize env.P 31 = (some 1) := by kernel_rfl
@[simp] theorem tagg_31 : tagg env.P 31 = (some false) := by kernel_rfl
@[simp] theorem telem_31 : telem env.P 31 = (some 21) := by kernel_rfl
@[simp] theorem tarr_31 : tarr env.P 31 = none := by kernel_rfl
@[simp] theorem isStr_31 : isStr env.P 31 = false := by kernel_rfl
@[simp] theorem tzero_31 : tzero env.P 31 = (some (.v (.slice none 0 0))) := by kernel_rfl
@[simp] theorem apT_31 : apT env.P 31 = true := by kernel_rfl
@[simp] theorem elOk_31 : elOk env.P 31 = true := by kernel_rfl
@[simp] theorem elZ_31 : elZ env.P 31 = 1 := by kernel_rfl
@[simp] theorem elBy_31 : elBy env.P 31 = 4 := by kernel_rfl
@[simp] theorem elZero_31 : elZero env.P 31 = (.v (.int .i32 0)) := by kernel_rfl
@[simp] theorem tsize_33 : tsize env.P 33 = (some 17) := by kernel_rfl
@[simp] theorem tagg_33 : tagg env.P 33 = (some true) := by kernel_rfl
@[simp] theorem tarr_33 : tarr env.P 33 = none := by kernel_rfl
@[simp] theorem tzero_33 : tzero env.P 33 = (some (.agg [(a8 0), (a8 0), (a32 0), (a8 0), (.v (.int .i64 0)), (a8 0), (a32 0), (a8 0), (.v (.int .i64 0)), (.v (.int .i64 0)), (a8 0), (a32 0), (a8 0), (.v (.int .i64 0)), (a8 0), (a32 0), (.v (.slice none 0 0))])) := by kernel_rfl
@[simp] theorem fieldTys_33 : fieldTys env.P 33 = (some [5, 26, 3, 30, 28, 24, 31]) := by kernel_rfl
@[simp] theorem places_33 : placesOf env.P 33 = (some [(0, 1), (1, 3), (4, 1), (5, 5), (10, 4), (14, 2), (16, 1)]) := by kernel_rfl
@[simp] theorem fplace_0_33 : fieldPlaces env.P 33 0 = (some (0, 1)) := by kernel_rfl
@[simp] theorem fplace_1_33 : fieldPlaces env.P 33 1 = (some (1, 3)) := by kernel_rfl
@[simp] theorem fplace_2_33 : fieldPlaces env.P 33 2 = (some (4, 1)) := by kernel_rfl
@[simp] theorem fplace_3_33 : fieldPlaces env.P 33 3 = (some (5, 5)) := by kernel_rfl
@[simp] theorem fplace_4_33 : fieldPlaces env.P 33 4 = (some (10, 4)) := by kernel_rfl
@[simp] theorem fplace_5_33 : fieldPlaces env.P 33 5 = (some (14, 2)) := by kernel_rfl
@[simp] theorem fplace_6_33 : fieldPlaces env.P 33 6 = (some (16, 1)) := by kernel_rfl
@[simp] theorem tsize_34 : tsize env.P 34 = (some 1) := by kernel_rfl
@[simp] theorem tagg_34 : tagg env.P 34 = (some false) := by kernel_rfl
@[simp] theorem telem_34 : telem env.P 34 = (some 5) := by kernel_rfl
@[simp] theorem tarr_34 : tarr env.P 34 = none := by kernel_rfl
@[simp] theorem isStr_34 : isStr env.P 34 = false := by kernel_rfl
@[simp] theorem apT_34 : apT env.P 34 = true := by kernel_rfl
@[simp] theorem elOk_34 : elOk env.P 34 = true := by kernel_rfl
@[simp] theorem elZ_34 : elZ env.P 34 = 1 := by kernel_rfl
@[simp] theorem elBy_34 : elBy env.P 34 = 1 := by kernel_rfl
@[simp] theorem elZero_34 : elZero env.P 34 = (a8 0) := by kernel_rfl
@[simp] theorem isBys_34 : isByteSlice env.P 34 = true := by kernel_rfl
@[simp] theorem tsize_36 : tsize env.P 36 = (some 1) := by kernel_rfl
@[simp] theorem tagg_36 : tagg env.P 36 = (some false) := by kernel_rfl
@[simp] theorem intKind_36 : intKind env.P 36 = (some .i64) := by kernel_rfl
@[simp] theorem tsize_49 : tsize env.P 49 = (some 1) := by kernel_rfl
@[simp] theorem tagg_49 : tagg env.P 49 = (some false) := by kernel_rfl
@[simp] theorem tsize_57 : tsize env.P 57 = (some 4) := by kernel_rfl
@[simp] theorem tagg_57 : tagg env.P 57 = (some true) := by kernel_rfl
@[simp] theorem telem_57 : telem env.P 57 = none := by kernel_rfl
@[simp] theorem tarr_57 : tarr env.P 57 = (some (4, 3)) := by kernel_rfl
@[simp] theorem leafT_57 : leafT env.P 57 = none := by kernel_rfl
@[simp] theorem eqTy_57 : eqTy env.P 57 = true := by kernel_rfl
@[simp] theorem fieldTys_57 : fieldTys env.P 57 = none := by kernel_rfl
@[simp] theorem tsize_58 : tsize env.P 58 = (some 1) := by kernel_rfl
@[simp] theorem tagg_58 : tagg env.P 58 = (some false) := by kernel_rfl
@[simp] theorem telem_58 : telem env.P 58 = (some 33) := by kernel_rfl
@[simp] theorem tarr_58 : tarr env.P 58 = none := by kernel_rfl
@[simp] theorem isStr_58 : isStr env.P 58 = false := by kernel_rfl
@[simp] theorem apT_58 : apT env.P 58 = true := by kernel_rfl
@[simp] theorem elOk_58 : elOk env.P 58 = true := by kernel_rfl
@[simp] theorem elZ_58 : elZ env.P 58 = 17 := by kernel_rfl
@[simp] theorem elBy_58 : elBy env.P 58 = 112 := by kernel_rfl
@[simp] theorem elZero_58 : elZero env.P 58 = (.agg [(a8 0), (a8 0), (a32 0), (a8 0), (.v (.int .i64 0)), (a8 0), (a32 0), (a8 0), (.v (.int .i64 0)), (.v (.int .i64 0)), (a8 0), (a32 0), (a8 0), (.v (.int .i64 0)), (a8 0), (a32 0), (.v (.slice none 0 0))]) := by kernel_rfl
@[simp] theorem tsize_60 : tsize env.P 60 = (some 12) := by kernel_rfl
@[simp] theorem tagg_60 : tagg env.P 60 = (some true) := by kernel_rfl
@[simp] theorem tarr_60 : tarr env.P 60 = none := by kernel_rfl
@[simp] theorem tzero_60 : tzero env.P 60 = (some (.agg [(a8 0), (.v (.int .i64 0)), (.v (.int .i64 0)), (.v (.int .i64 0)), (.v (.int .i64 0)), (.v (.int .i64 0)), (a8 0), (.v (.int .i64 0)), (.v (.int .i64 0)), (.v (.int .i64 0)), (.v (.int .i64 0)), (.v (.slice none 0 0))])) := by kernel_rfl
@[simp] theorem fieldTys_60 : fieldTys env.P 60 = (some [5, 3, 3, 36, 3, 3, 5, 57, 58]) := by kernel_rfl
@[simp] theorem places_60 : placesOf env.P 60 = (some [(0, 1), (1, 1), (2, 1), (3, 1), (4, 1), (5, 1), (6, 1), (7, 4), (11, 1)]) := by kernel_rfl
@[simp] theorem fplace_0_60 : fieldPlaces env.P 60 0 = (some (0, 1)) := by kernel_rfl
@[simp] theorem fplace_1_60 : fieldPlaces env.P 60 1 = (some (1, 1)) := by kernel_rfl
@[simp] theorem fplace_2_60 : fieldPlaces env.P 60 2 = (some (2, 1)) := by kernel_rfl
@[simp] theorem fplace_3_60 : fieldPlaces env.P 60 3 = (some (3, 1)) := by kernel_rfl
@[simp] theorem fplace_4_60 : fieldPlaces env.P 60 4 = (some (4, 1)) := by kernel_rfl
@[simp] theorem fplace_5_60 : fieldPlaces env.P 60 5 = (some (5, 1)) := by kernel_rfl
@[simp] theorem fplace_6_60 : fieldPlaces env.P 60 6 = (some (6, 1)) := by kernel_rfl
@[simp] theorem fplace_7_60 : fieldPlaces env.P 60 7 = (some (7, 4)) := by kernel_rfl
@[simp] theorem fplace_8_60 : fieldPlaces env.P 60 8 = (some (11, 1)) := by kernel_rfl
@[simp] theorem tsize_61 : tsize env.P 61 = (some 1) := by kernel_rfl
@[simp] theorem tagg_61 : tagg env.P 61 = (some false) := by kernel_rfl
@[simp] theorem telem_76 : telem env.P 76 = (some 34) := by kernel_rfl
@[simp] theorem tarr_76 : tarr env.P 76 = none := by kernel_rfl
@[simp] theorem isStr_76 : isStr env.P 76 = false := by kernel_rfl
@[simp] theorem elOk_76 : elOk env.P 76 = true := by kernel_rfl
@[simp] theorem elZ_76 : elZ env.P 76 = 1 := by kernel_rfl
@[simp] theorem elZero_76 : elZero env.P 76 = (.v (.slice none 0 0)) := by kernel_rfl
@[simp] theorem tsize_101 : tsize env.P 101 = (some 3) := by kernel_rfl
@[simp] theorem tarr_101 : tarr env.P 101 = none := by kernel_rfl
@[simp] theorem tzero_101 : tzero env.P 101 = (some (.agg [(.v (.slice none 0 0)), (.v (.int .i64 0)), (.v (.bool false))])) := by kernel_rfl
@[simp] theorem places_101 : placesOf env.P 101 = (some [(0, 1), (1, 1), (2, 1)]) := by kernel_rfl
@[simp] theorem fplace_0_101 : fieldPlaces env.P 101 0 = (some (0, 1)) := by kernel_rfl
@[simp] theorem fplace_1_101 : fieldPlaces env.P 101 1 = (some (1, 1)) := by kernel_rfl
@[simp] theorem fplace_2_101 : fieldPlaces env.P 101 2 = (some (2, 1)) := by kernel_rfl
@[simp] theorem tsize_110 : tsize env.P 110 = (some 1) := by kernel_rfl
@[simp] theorem tagg_110 : tagg env.P 110 = (some false) := by kernel_rfl
@[simp] theorem tsize_112 : tsize env.P 112 = (some 2) := by kernel_rfl
@[simp] theorem tagg_112 : tagg env.P 112 = (some true) := by kernel_rfl
@[simp] theorem tfield_0_112 : tfield env.P 112 0 = (some (0, 49)) := by kernel_rfl
@[simp] theorem tfield_1_112 : tfield env.P 112 1 = (some (1, 110)) := by kernel_rfl
@[simp] theorem tarr_113 : tarr env.P 113 = (some (4, 112)) := by kernel_rfl
@[simp] theorem tsize_124 : tsize env.P 124 = (some 1) := by kernel_rfl
@[simp] theorem tagg_124 : tagg env.P 124 = (some false) := by kernel_rfl
@[simp] theorem tsize_126 : tsize env.P 126 = (some 2) := by kernel_rfl
@[simp] theorem tzero_126 : tzero env.P 126 = (some (.agg [(.v .nilFunc), (.v .nilFunc)])) := by kernel_rfl
@[simp] theorem fplace_0_126 : fieldPlaces env.P 126 0 = (some (0, 1)) := by kernel_rfl
@[simp] theorem fplace_1_126 : fieldPlaces env.P 126 1 = (some (1, 1)) := by kernel_rfl
@[simp] theorem tsize_132 : tsize env.P 132 = (some 3) := by kernel_rfl
@[simp] theorem tarr_132 : tarr env.P 132 = none := by kernel_rfl
@[simp] theorem tzero_132 : tzero env.P 132 = (some (.agg [(.v (.slice none 0 0)), (.v (.bool false)), (.v (.bool false))])) := by kernel_rfl
@[simp] theorem places_132 : placesOf env.P 132 = (some [(0, 1), (1, 1), (2, 1)]) := by kernel_rfl
@[simp] theorem fplace_0_132 : fieldPlaces env.P 132 0 = (some (0, 1)) := by kernel_rfl
@[simp] theorem fplace_1_132 : fieldPlaces env.P 132 1 = (some (1, 1)) := by kernel_rfl
@[simp] theorem fplace_2_132 : fieldPlaces env.P 132 2 = (some (2, 1)) := by kernel_rfl
@[simp] theorem tsize_153 : tsize env.P 153 = (some 4) := by kernel_rfl
@[simp] theorem tagg_153 : tagg env.P 153 = (some true) := by kernel_rfl
@[simp] theorem tarr_153 : tarr env.P 153 = none := by kernel_rfl
@[simp] theorem tzero_153 : tzero env.P 153 = (some (.agg [(a8 0), (a32 0), (a8 0), (.v (.int .i64 0))])) := by kernel_rfl
@[simp] theorem places_153 : placesOf env.P 153 = (some [(0, 3), (3, 1)]) := by kernel_rfl
@[simp] theorem tfield_0_153 : tfield env.P 153 0 = (some (0, 26)) := by kernel_rfl
@[simp] theorem fplace_0_153 : fieldPlaces env.P 153 0 = (some (0, 3)) := by kernel_rfl
@[simp] theorem fplace_1_153 : fieldPlaces env.P 153 1 = (some (3, 1)) := by kernel_rfl
end Go.Proofs.Ytehkjjcdkbcebaa
