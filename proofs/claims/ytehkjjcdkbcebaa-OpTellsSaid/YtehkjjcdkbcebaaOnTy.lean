/-
  The facts on the program's types, computed. No statement of a seat is proved here.
-/
import Derived.Test.YtehkjjcdkbcebaaRows
import Derived.Test.YtehkjjcdkbcebaaAbsRules
set_option linter.unusedVariables false
set_option maxRecDepth 1000000
namespace Go.Proofs.Ytehkjjcdkbcebaa
open Go.Ab

def fns : List FuncId := [3, 4, 6, 13, 14, 15, 16, 17, 18, 19, 20, 21, 22, 23, 24, 25, 26, 27, 28, 29, 30, 51, 52, 53, 54, 55, 56, 57, 58, 59, 60, 61, 62, 63, 64, 65, 66, 67, 68, 69, 70, 71, 76, 80, 83, 84, 85, 86, 87, 88, 89, 90, 91, 92, 93, 94, 95, 96, 97, 98, 99, 100, 101, 102, 103, 104, 105, 106, 107, 108, 109, 110, 128, 130, 131, 132, 133, 134, 136]
def keep : List FuncId := [15, 26, 51, 53, 58, 59, 70, 85, 107]
def thr : List FuncId := [55, 56, 128]
def memo : List (FuncId × List AV × AV) := []
noncomputable def env : Env := envOf Try.prog fns keep thr (strictOf [(19, 13, 18), (16, 1, 77777)]) (tabApart [(35, 21, 0, [(36, 52), (37, 52), (38, 52), (41, 52), (42, 52), (43, 52), (47, 52), (48, 52), (49, 52)]), (145, 8, 4, [(148, 2)]), (14, 5, 3, [(15, 2)]), (7, 6, 0, [(3, 5)]), (15, 12, 0, [(20, 23)]), (52, 10, 0, [(56, 58)])]) (tabFrz [(19, 13, 18), (16, 1, 77777)]) memo
theorem fnsFit : fnsOk env fns = true := by kernel_rfl
@[simp] theorem no_thr {f : FuncId} (h : thr.contains f = false) : (env.mode f == 2) = false := by
  show ((if keep.contains f then 1 else if thr.contains f then 2 else 0) == 2) = false
  rw [h]
  split <;> rfl
theorem mode0 {f : FuncId} (h : keep.contains f = false) : (env.mode f == 1) = false := by
  show ((if keep.contains f then 1 else if thr.contains f then 2 else 0) == 1) = false
  rw [h]
  cases thr.contains f <;> rfl
@[simp] theorem handed0 {f : FuncId} (h : keep.contains f = false) (x : AV) (H : Heap) (y : AV) : handed env f x H y ↔ view H.get depth x = some y := handed_of (mode0 h) x H y
theorem mode1 {f : FuncId} (h : keep.contains f = true) : (env.mode f == 1) = true := by
  show ((if keep.contains f then 1 else if thr.contains f then 2 else 0) == 1) = true
  rw [h]; rfl
@[simp] theorem handed1 {f : FuncId} (h : keep.contains f = true) (x : AV) (H : Heap) (y : AV) : handed env f x H y ↔ (viewRefs H.get depth x).Nodup ∧ exportA H.get depth x = some y := handed_keep (mode1 h) x H y
@[simp] theorem tsize_0 : tsize env.P 0 = (some 1) := by kernel_rfl
@[simp] theorem tagg_0 : tagg env.P 0 = (some false) := by kernel_rfl
@[simp] theorem telem_0 : telem env.P 0 = none := by kernel_rfl
@[simp] theorem tarr_0 : tarr env.P 0 = none := by kernel_rfl
@[simp] theorem isStr_0 : isStr env.P 0 = false := by kernel_rfl
@[simp] theorem tzero_0 : tzero env.P 0 = (some (.v (.tuple #[]))) := by kernel_rfl
@[simp] theorem tbytes_0 : tbytes env.P 0 = (some 0) := by kernel_rfl
@[simp] theorem apT_0 : apT env.P 0 = true := by kernel_rfl
@[simp] theorem leafT_0 : leafT env.P 0 = none := by kernel_rfl
@[simp] theorem fieldTys_0 : fieldTys env.P 0 = none := by kernel_rfl
@[simp] theorem isBool_0 : isBool env.P 0 = false := by kernel_rfl
@[simp] theorem plain_0 : plain env.P 20 0 = false := by kernel_rfl
@[simp] theorem isInt_0 : isInt env.P 0 = false := by kernel_rfl
@[simp] theorem intKind_0 : intKind env.P 0 = none := by kernel_rfl
@[simp] theorem isBys_0 : isByteSlice env.P 0 = false := by kernel_rfl
@[simp] theorem undS_0 : (env.P.underlying 0).isNone = false := by kernel_rfl
@[simp] theorem tsize_3 : tsize env.P 3 = (some 1) := by kernel_rfl
@[simp] theorem tagg_3 : tagg env.P 3 = (some false) := by kernel_rfl
@[simp] theorem telem_3 : telem env.P 3 = none := by kernel_rfl
@[simp] theorem tarr_3 : tarr env.P 3 = none := by kernel_rfl
@[simp] theorem isStr_3 : isStr env.P 3 = false := by kernel_rfl
@[simp] theorem tzero_3 : tzero env.P 3 = (some (.v (.int .i64 0))) := by kernel_rfl
@[simp] theorem tbytes_3 : tbytes env.P 3 = (some 8) := by kernel_rfl
@[simp] theorem apT_3 : apT env.P 3 = false := by kernel_rfl
@[simp] theorem leafT_3 : leafT env.P 3 = (some 1) := by kernel_rfl
@[simp] theorem fieldTys_3 : fieldTys env.P 3 = none := by kernel_rfl
@[simp] theorem isBool_3 : isBool env.P 3 = false := by kernel_rfl
@[simp] theorem plain_3 : plain env.P 20 3 = true := by kernel_rfl
@[simp] theorem isInt_3 : isInt env.P 3 = true := by kernel_rfl
@[simp] theorem intKind_3 : intKind env.P 3 = (some .i64) := by kernel_rfl
@[simp] theorem isBys_3 : isByteSlice env.P 3 = false := by kernel_rfl
@[simp] theorem undS_3 : (env.P.underlying 3).isNone = false := by kernel_rfl
@[simp] theorem tsize_4 : tsize env.P 4 = (some 1) := by kernel_rfl
@[simp] theorem tagg_4 : tagg env.P 4 = (some false) := by kernel_rfl
@[simp] theorem telem_4 : telem env.P 4 = none := by kernel_rfl
@[simp] theorem tarr_4 : tarr env.P 4 = none := by kernel_rfl
@[simp] theorem isStr_4 : isStr env.P 4 = false := by kernel_rfl
@[simp] theorem tzero_4 : tzero env.P 4 = (some (.v (.bool false))) := by kernel_rfl
@[simp] theorem tbytes_4 : tbytes env.P 4 = (some 1) := by kernel_rfl
@[simp] theorem apT_4 : apT env.P 4 = true := by kernel_rfl
@[simp] theorem leafT_4 : leafT env.P 4 = (some 0) := by kernel_rfl
@[simp] theorem fieldTys_4 : fieldTys env.P 4 = none := by kernel_rfl
@[simp] theorem isBool_4 : isBool env.P 4 = true := by kernel_rfl
@[simp] theorem plain_4 : plain env.P 20 4 = true := by kernel_rfl
@[simp] theorem isInt_4 : isInt env.P 4 = false := by kernel_rfl
@[simp] theorem intKind_4 : intKind env.P 4 = none := by kernel_rfl
@[simp] theorem isBys_4 : isByteSlice env.P 4 = false := by kernel_rfl
@[simp] theorem undS_4 : (env.P.underlying 4).isNone = false := by kernel_rfl
@[simp] theorem tsize_5 : tsize env.P 5 = (some 1) := by kernel_rfl
@[simp] theorem tagg_5 : tagg env.P 5 = (some false) := by kernel_rfl
@[simp] theorem telem_5 : telem env.P 5 = none := by kernel_rfl
@[simp] theorem tarr_5 : tarr env.P 5 = none := by kernel_rfl
@[simp] theorem isStr_5 : isStr env.P 5 = false := by kernel_rfl
@[simp] theorem tzero_5 : tzero env.P 5 = (some (a8 0)) := by kernel_rfl
@[simp] theorem tbytes_5 : tbytes env.P 5 = (some 1) := by kernel_rfl
@[simp] theorem apT_5 : apT env.P 5 = false := by kernel_rfl
@[simp] theorem leafT_5 : leafT env.P 5 = (some 1) := by kernel_rfl
@[simp] theorem fieldTys_5 : fieldTys env.P 5 = none := by kernel_rfl
@[simp] theorem isBool_5 : isBool env.P 5 = false := by kernel_rfl
@[simp] theorem plain_5 : plain env.P 20 5 = true := by kernel_rfl
@[simp] theorem isInt_5 : isInt env.P 5 = true := by kernel_rfl
@[simp] theorem intKind_5 : intKind env.P 5 = (some .u8) := by kernel_rfl
@[simp] theorem isBys_5 : isByteSlice env.P 5 = false := by kernel_rfl
@[simp] theorem undS_5 : (env.P.underlying 5).isNone = false := by kernel_rfl
@[simp] theorem tsize_9 : tsize env.P 9 = (some 1) := by kernel_rfl
@[simp] theorem tagg_9 : tagg env.P 9 = (some false) := by kernel_rfl
@[simp] theorem telem_9 : telem env.P 9 = none := by kernel_rfl
@[simp] theorem tarr_9 : tarr env.P 9 = none := by kernel_rfl
@[simp] theorem isStr_9 : isStr env.P 9 = true := by kernel_rfl
@[simp] theorem tzero_9 : tzero env.P 9 = (some (.v (.string ⟨#[]⟩))) := by kernel_rfl
@[simp] theorem tbytes_9 : tbytes env.P 9 = (some 16) := by kernel_rfl
@[simp] theorem apT_9 : apT env.P 9 = true := by kernel_rfl
@[simp] theorem leafT_9 : leafT env.P 9 = (some 2) := by kernel_rfl
@[simp] theorem fieldTys_9 : fieldTys env.P 9 = none := by kernel_rfl
@[simp] theorem isBool_9 : isBool env.P 9 = false := by kernel_rfl
@[simp] theorem plain_9 : plain env.P 20 9 = true := by kernel_rfl
@[simp] theorem isInt_9 : isInt env.P 9 = false := by kernel_rfl
@[simp] theorem intKind_9 : intKind env.P 9 = none := by kernel_rfl
@[simp] theorem isBys_9 : isByteSlice env.P 9 = false := by kernel_rfl
@[simp] theorem undS_9 : (env.P.underlying 9).isNone = false := by kernel_rfl
@[simp] theorem tsize_20 : tsize env.P 20 = (some 1) := by kernel_rfl
@[simp] theorem tagg_20 : tagg env.P 20 = (some false) := by kernel_rfl
@[simp] theorem telem_20 : telem env.P 20 = none := by kernel_rfl
@[simp] theorem tarr_20 : tarr env.P 20 = none := by kernel_rfl
@[simp] theorem isStr_20 : isStr env.P 20 = false := by kernel_rfl
@[simp] theorem tzero_20 : tzero env.P 20 = (some (.v .nilIface)) := by kernel_rfl
@[simp] theorem tbytes_20 : tbytes env.P 20 = (some 16) := by kernel_rfl
@[simp] theorem apT_20 : apT env.P 20 = true := by kernel_rfl
@[simp] theorem leafT_20 : leafT env.P 20 = none := by kernel_rfl
@[simp] theorem fieldTys_20 : fieldTys env.P 20 = none := by kernel_rfl
@[simp] theorem isBool_20 : isBool env.P 20 = false := by kernel_rfl
@[simp] theorem plain_20 : plain env.P 20 20 = false := by kernel_rfl
@[simp] theorem isInt_20 : isInt env.P 20 = false := by kernel_rfl
@[simp] theorem intKind_20 : intKind env.P 20 = none := by kernel_rfl
@[simp] theorem isBys_20 : isByteSlice env.P 20 = false := by kernel_rfl
@[simp] theorem undS_20 : (env.P.underlying 20).isNone = false := by kernel_rfl
@[simp] theorem tsize_21 : tsize env.P 21 = (some 1) := by kernel_rfl
@[simp] theorem tagg_21 : tagg env.P 21 = (some false) := by kernel_rfl
@[simp] theorem telem_21 : telem env.P 21 = none := by kernel_rfl
@[simp] theorem tarr_21 : tarr env.P 21 = none := by kernel_rfl
@[simp] theorem isStr_21 : isStr env.P 21 = false := by kernel_rfl
@[simp] theorem tzero_21 : tzero env.P 21 = (some (.v (.int .i32 0))) := by kernel_rfl
@[simp] theorem tbytes_21 : tbytes env.P 21 = (some 4) := by kernel_rfl
@[simp] theorem apT_21 : apT env.P 21 = false := by kernel_rfl
@[simp] theorem leafT_21 : leafT env.P 21 = (some 1) := by kernel_rfl
@[simp] theorem fieldTys_21 : fieldTys env.P 21 = none := by kernel_rfl
@[simp] theorem isBool_21 : isBool env.P 21 = false := by kernel_rfl
@[simp] theorem plain_21 : plain env.P 20 21 = true := by kernel_rfl
@[simp] theorem isInt_21 : isInt env.P 21 = true := by kernel_rfl
@[simp] theorem intKind_21 : intKind env.P 21 = (some .i32) := by kernel_rfl
@[simp] theorem isBys_21 : isByteSlice env.P 21 = false := by kernel_rfl
@[simp] theorem undS_21 : (env.P.underlying 21).isNone = false := by kernel_rfl
@[simp] theorem tsize_22 : tsize env.P 22 = (some 1) := by kernel_rfl
@[simp] theorem tagg_22 : tagg env.P 22 = (some false) := by kernel_rfl
@[simp] theorem telem_22 : telem env.P 22 = none := by kernel_rfl
@[simp] theorem tarr_22 : tarr env.P 22 = none := by kernel_rfl
@[simp] theorem isStr_22 : isStr env.P 22 = false := by kernel_rfl
@[simp] theorem tzero_22 : tzero env.P 22 = (some (a32 0)) := by kernel_rfl
@[simp] theorem tbytes_22 : tbytes env.P 22 = (some 4) := by kernel_rfl
@[simp] theorem apT_22 : apT env.P 22 = false := by kernel_rfl
@[simp] theorem leafT_22 : leafT env.P 22 = (some 1) := by kernel_rfl
@[simp] theorem fieldTys_22 : fieldTys env.P 22 = none := by kernel_rfl
@[simp] theorem isBool_22 : isBool env.P 22 = false := by kernel_rfl
@[simp] theorem plain_22 : plain env.P 20 22 = true := by kernel_rfl
@[simp] theorem isInt_22 : isInt env.P 22 = true := by kernel_rfl
@[simp] theorem intKind_22 : intKind env.P 22 = (some .u32) := by kernel_rfl
@[simp] theorem isBys_22 : isByteSlice env.P 22 = false := by kernel_rfl
@[simp] theorem undS_22 : (env.P.underlying 22).isNone = false := by kernel_rfl
@[simp] theorem tsize_24 : tsize env.P 24 = (some 2) := by kernel_rfl
@[simp] theorem tagg_24 : tagg env.P 24 = (some true) := by kernel_rfl
@[simp] theorem telem_24 : telem env.P 24 = none := by kernel_rfl
@[simp] theorem tarr_24 : tarr env.P 24 = none := by kernel_rfl
@[simp] theorem isStr_24 : isStr env.P 24 = false := by kernel_rfl
@[simp] theorem tzero_24 : tzero env.P 24 = (some (.agg [(a8 0), (a32 0)])) := by kernel_rfl
@[simp] theorem tbytes_24 : tbytes env.P 24 = (some 8) := by kernel_rfl
@[simp] theorem apT_24 : apT env.P 24 = true := by kernel_rfl
@[simp] theorem leafT_24 : leafT env.P 24 = none := by kernel_rfl
@[simp] theorem eqTy_24 : eqTy env.P 24 = true := by kernel_rfl
@[simp] theorem fieldTys_24 : fieldTys env.P 24 = (some [5, 22]) := by kernel_rfl
@[simp] theorem isBool_24 : isBool env.P 24 = false := by kernel_rfl
@[simp] theorem plain_24 : plain env.P 20 24 = true := by kernel_rfl
@[simp] theorem isInt_24 : isInt env.P 24 = false := by kernel_rfl
@[simp] theorem intKind_24 : intKind env.P 24 = none := by kernel_rfl
@[simp] theorem isBys_24 : isByteSlice env.P 24 = false := by kernel_rfl
@[simp] theorem undS_24 : (env.P.underlying 24).isNone = false := by kernel_rfl
@[simp] theorem places_24 : placesOf env.P 24 = (some [(0, 1), (1, 1)]) := by kernel_rfl
@[simp] theorem tfield_0_24 : tfield env.P 24 0 = (some (0, 5)) := by kernel_rfl
@[simp] theorem fplace_0_24 : fieldPlaces env.P 24 0 = (some (0, 1)) := by kernel_rfl
@[simp] theorem tfield_1_24 : tfield env.P 24 1 = (some (1, 22)) := by kernel_rfl
@[simp] theorem fplace_1_24 : fieldPlaces env.P 24 1 = (some (1, 1)) := by kernel_rfl
@[simp] theorem tsize_26 : tsize env.P 26 = (some 3) := by kernel_rfl
@[simp] theorem tagg_26 : tagg env.P 26 = (some true) := by kernel_rfl
@[simp] theorem telem_26 : telem env.P 26 = none := by kernel_rfl
@[simp] theorem tarr_26 : tarr env.P 26 = none := by kernel_rfl
@[simp] theorem isStr_26 : isStr env.P 26 = false := by kernel_rfl
@[simp] theorem tzero_26 : tzero env.P 26 = (some (.agg [(a8 0), (a32 0), (a8 0)])) := by kernel_rfl
@[simp] theorem tbytes_26 : tbytes env.P 26 = (some 12) := by kernel_rfl
@[simp] theorem apT_26 : apT env.P 26 = true := by kernel_rfl
@[simp] theorem leafT_26 : leafT env.P 26 = none := by kernel_rfl
@[simp] theorem eqTy_26 : eqTy env.P 26 = true := by kernel_rfl
@[simp] theorem fieldTys_26 : fieldTys env.P 26 = (some [24, 5]) := by kernel_rfl
@[simp] theorem isBool_26 : isBool env.P 26 = false := by kernel_rfl
@[simp] theorem plain_26 : plain env.P 20 26 = true := by kernel_rfl
@[simp] theorem isInt_26 : isInt env.P 26 = false := by kernel_rfl
@[simp] theorem intKind_26 : intKind env.P 26 = none := by kernel_rfl
@[simp] theorem isBys_26 : isByteSlice env.P 26 = false := by kernel_rfl
@[simp] theorem undS_26 : (env.P.underlying 26).isNone = false := by kernel_rfl
@[simp] theorem places_26 : placesOf env.P 26 = (some [(0, 2), (2, 1)]) := by kernel_rfl
@[simp] theorem tfield_0_26 : tfield env.P 26 0 = (some (0, 24)) := by kernel_rfl
@[simp] theorem fplace_0_26 : fieldPlaces env.P 26 0 = (some (0, 2)) := by kernel_rfl
@[simp] theorem tfield_1_26 : tfield env.P 26 1 = (some (2, 5)) := by kernel_rfl
@[simp] theorem fplace_1_26 : fieldPlaces env.P 26 1 = (some (2, 1)) := by kernel_rfl
@[simp] theorem tsize_28 : tsize env.P 28 = (some 4) := by kernel_rfl
@[simp] theorem tagg_28 : tagg env.P 28 = (some true) := by kernel_rfl
@[simp] theorem telem_28 : telem env.P 28 = none := by kernel_rfl
@[simp] theorem tarr_28 : tarr env.P 28 = none := by kernel_rfl
@[simp] theorem isStr_28 : isStr env.P 28 = false := by kernel_rfl
@[simp] theorem tzero_28 : tzero env.P 28 = (some (.agg [(a8 0), (a32 0), (a8 0), (.v (.int .i64 0))])) := by kernel_rfl
@[simp] theorem tbytes_28 : tbytes env.P 28 = (some 24) := by kernel_rfl
@[simp] theorem apT_28 : apT env.P 28 = true := by kernel_rfl
@[simp] theorem leafT_28 : leafT env.P 28 = none := by kernel_rfl
@[simp] theorem eqTy_28 : eqTy env.P 28 = true := by kernel_rfl
@[simp] theorem fieldTys_28 : fieldTys env.P 28 = (some [26, 3]) := by kernel_rfl
@[simp] theorem isBool_28 : isBool env.P 28 = false := by kernel_rfl
@[simp] theorem plain_28 : plain env.P 20 28 = true := by kernel_rfl
@[simp] theorem isInt_28 : isInt env.P 28 = false := by kernel_rfl
@[simp] theorem intKind_28 : intKind env.P 28 = none := by kernel_rfl
@[simp] theorem isBys_28 : isByteSlice env.P 28 = false := by kernel_rfl
@[simp] theorem undS_28 : (env.P.underlying 28).isNone = false := by kernel_rfl
@[simp] theorem places_28 : placesOf env.P 28 = (some [(0, 3), (3, 1)]) := by kernel_rfl
@[simp] theorem tfield_0_28 : tfield env.P 28 0 = (some (0, 26)) := by kernel_rfl
@[simp] theorem fplace_0_28 : fieldPlaces env.P 28 0 = (some (0, 3)) := by kernel_rfl
@[simp] theorem tfield_1_28 : tfield env.P 28 1 = (some (3, 3)) := by kernel_rfl
@[simp] theorem fplace_1_28 : fieldPlaces env.P 28 1 = (some (3, 1)) := by kernel_rfl
@[simp] theorem tsize_30 : tsize env.P 30 = (some 5) := by kernel_rfl
@[simp] theorem tagg_30 : tagg env.P 30 = (some true) := by kernel_rfl
@[simp] theorem telem_30 : telem env.P 30 = none := by kernel_rfl
@[simp] theorem tarr_30 : tarr env.P 30 = none := by kernel_rfl
@[simp] theorem isStr_30 : isStr env.P 30 = false := by kernel_rfl
@[simp] theorem tzero_30 : tzero env.P 30 = (some (.agg [(a8 0), (a32 0), (a8 0), (.v (.int .i64 0)), (.v (.int .i64 0))])) := by kernel_rfl
@[simp] theorem tbytes_30 : tbytes env.P 30 = (some 32) := by kernel_rfl
@[simp] theorem apT_30 : apT env.P 30 = true := by kernel_rfl
@[simp] theorem leafT_30 : leafT env.P 30 = none := by kernel_rfl
@[simp] theorem eqTy_30 : eqTy env.P 30 = true := by kernel_rfl
@[simp] theorem fieldTys_30 : fieldTys env.P 30 = (some [28, 3]) := by kernel_rfl
@[simp] theorem isBool_30 : isBool env.P 30 = false := by kernel_rfl
@[simp] theorem plain_30 : plain env.P 20 30 = true := by kernel_rfl
@[simp] theorem isInt_30 : isInt env.P 30 = false := by kernel_rfl
@[simp] theorem intKind_30 : intKind env.P 30 = none := by kernel_rfl
@[simp] theorem isBys_30 : isByteSlice env.P 30 = false := by kernel_rfl
@[simp] theorem undS_30 : (env.P.underlying 30).isNone = false := by kernel_rfl
@[simp] theorem places_30 : placesOf env.P 30 = (some [(0, 4), (4, 1)]) := by kernel_rfl
@[simp] theorem tfield_0_30 : tfield env.P 30 0 = (some (0, 28)) := by kernel_rfl
@[simp] theorem fplace_0_30 : fieldPlaces env.P 30 0 = (some (0, 4)) := by kernel_rfl
@[simp] theorem tfield_1_30 : tfield env.P 30 1 = (some (4, 3)) := by kernel_rfl
@[simp] theorem fplace_1_30 : fieldPlaces env.P 30 1 = (some (4, 1)) := by kernel_rfl
@[simp] theorem tsize_31 : tsize env.P 31 = (some 1) := by kernel_rfl
@[simp] theorem tagg_31 : tagg env.P 31 = (some false) := by kernel_rfl
@[simp] theorem telem_31 : telem env.P 31 = (some 21) := by kernel_rfl
@[simp] theorem tarr_31 : tarr env.P 31 = none := by kernel_rfl
@[simp] theorem isStr_31 : isStr env.P 31 = false := by kernel_rfl
@[simp] theorem tzero_31 : tzero env.P 31 = (some (.v (.slice none 0 0))) := by kernel_rfl
@[simp] theorem tbytes_31 : tbytes env.P 31 = (some 24) := by kernel_rfl
@[simp] theorem apT_31 : apT env.P 31 = true := by kernel_rfl
@[simp] theorem leafT_31 : leafT env.P 31 = none := by kernel_rfl
@[simp] theorem fieldTys_31 : fieldTys env.P 31 = none := by kernel_rfl
@[simp] theorem isBool_31 : isBool env.P 31 = false := by kernel_rfl
@[simp] theorem plain_31 : plain env.P 20 31 = true := by kernel_rfl
@[simp] theorem elT_31 : elT env.P 31 1 4 = true := by kernel_rfl
@[simp] theorem elOk_31 : elOk env.P 31 = true := by kernel_rfl
@[simp] theorem elZ_31 : elZ env.P 31 = 1 := by kernel_rfl
@[simp] theorem elBy_31 : elBy env.P 31 = 4 := by kernel_rfl
@[simp] theorem elZero_31 : elZero env.P 31 = (.v (.int .i32 0)) := by kernel_rfl
@[simp] theorem isInt_31 : isInt env.P 31 = false := by kernel_rfl
@[simp] theorem intKind_31 : intKind env.P 31 = none := by kernel_rfl
@[simp] theorem isBys_31 : isByteSlice env.P 31 = false := by kernel_rfl
@[simp] theorem undS_31 : (env.P.underlying 31).isNone = false := by kernel_rfl
@[simp] theorem tsize_33 : tsize env.P 33 = (some 17) := by kernel_rfl
@[simp] theorem tagg_33 : tagg env.P 33 = (some true) := by kernel_rfl
@[simp] theorem telem_33 : telem env.P 33 = none := by kernel_rfl
@[simp] theorem tarr_33 : tarr env.P 33 = none := by kernel_rfl
@[simp] theorem isStr_33 : isStr env.P 33 = false := by kernel_rfl
@[simp] theorem tzero_33 : tzero env.P 33 = (some (.agg [(a8 0), (a8 0), (a32 0), (a8 0), (.v (.int .i64 0)), (a8 0), (a32 0), (a8 0), (.v (.int .i64 0)), (.v (.int .i64 0)), (a8 0), (a32 0), (a8 0), (.v (.int .i64 0)), (a8 0), (a32 0), (.v (.slice none 0 0))])) := by kernel_rfl
@[simp] theorem tbytes_33 : tbytes env.P 33 = (some 112) := by kernel_rfl
@[simp] theorem apT_33 : apT env.P 33 = true := by kernel_rfl
@[simp] theorem leafT_33 : leafT env.P 33 = none := by kernel_rfl
@[simp] theorem fieldTys_33 : fieldTys env.P 33 = (some [5, 26, 3, 30, 28, 24, 31]) := by kernel_rfl
@[simp] theorem isBool_33 : isBool env.P 33 = false := by kernel_rfl
@[simp] theorem plain_33 : plain env.P 20 33 = true := by kernel_rfl
@[simp] theorem isInt_33 : isInt env.P 33 = false := by kernel_rfl
@[simp] theorem intKind_33 : intKind env.P 33 = none := by kernel_rfl
@[simp] theorem isBys_33 : isByteSlice env.P 33 = false := by kernel_rfl
@[simp] theorem undS_33 : (env.P.underlying 33).isNone = false := by kernel_rfl
@[simp] theorem places_33 : placesOf env.P 33 = (some [(0, 1), (1, 3), (4, 1), (5, 5), (10, 4), (14, 2), (16, 1)]) := by kernel_rfl
@[simp] theorem tfield_0_33 : tfield env.P 33 0 = (some (0, 5)) := by kernel_rfl
@[simp] theorem fplace_0_33 : fieldPlaces env.P 33 0 = (some (0, 1)) := by kernel_rfl
@[simp] theorem tfield_1_33 : tfield env.P 33 1 = (some (1, 26)) := by kernel_rfl
@[simp] theorem fplace_1_33 : fieldPlaces env.P 33 1 = (some (1, 3)) := by kernel_rfl
@[simp] theorem tfield_2_33 : tfield env.P 33 2 = (some (4, 3)) := by kernel_rfl
@[simp] theorem fplace_2_33 : fieldPlaces env.P 33 2 = (some (4, 1)) := by kernel_rfl
@[simp] theorem tfield_3_33 : tfield env.P 33 3 = (some (5, 30)) := by kernel_rfl
@[simp] theorem fplace_3_33 : fieldPlaces env.P 33 3 = (some (5, 5)) := by kernel_rfl
@[simp] theorem tfield_4_33 : tfield env.P 33 4 = (some (10, 28)) := by kernel_rfl
@[simp] theorem fplace_4_33 : fieldPlaces env.P 33 4 = (some (10, 4)) := by kernel_rfl
@[simp] theorem tfield_5_33 : tfield env.P 33 5 = (some (14, 24)) := by kernel_rfl
@[simp] theorem fplace_5_33 : fieldPlaces env.P 33 5 = (some (14, 2)) := by kernel_rfl
@[simp] theorem tfield_6_33 : tfield env.P 33 6 = (some (16, 31)) := by kernel_rfl
@[simp] theorem fplace_6_33 : fieldPlaces env.P 33 6 = (some (16, 1)) := by kernel_rfl
@[simp] theorem tsize_34 : tsize env.P 34 = (some 1) := by kernel_rfl
@[simp] theorem tagg_34 : tagg env.P 34 = (some false) := by kernel_rfl
@[simp] theorem telem_34 : telem env.P 34 = (some 5) := by kernel_rfl
@[simp] theorem tarr_34 : tarr env.P 34 = none := by kernel_rfl
@[simp] theorem isStr_34 : isStr env.P 34 = false := by kernel_rfl
@[simp] theorem tzero_34 : tzero env.P 34 = (some (.v (.slice none 0 0))) := by kernel_rfl
@[simp] theorem tbytes_34 : tbytes env.P 34 = (some 24) := by kernel_rfl
@[simp] theorem apT_34 : apT env.P 34 = true := by kernel_rfl
@[simp] theorem leafT_34 : leafT env.P 34 = none := by kernel_rfl
@[simp] theorem fieldTys_34 : fieldTys env.P 34 = none := by kernel_rfl
@[simp] theorem isBool_34 : isBool env.P 34 = false := by kernel_rfl
@[simp] theorem plain_34 : plain env.P 20 34 = true := by kernel_rfl
@[simp] theorem elT_34 : elT env.P 34 1 1 = true := by kernel_rfl
@[simp] theorem elOk_34 : elOk env.P 34 = true := by kernel_rfl
@[simp] theorem elZ_34 : elZ env.P 34 = 1 := by kernel_rfl
@[simp] theorem elBy_34 : elBy env.P 34 = 1 := by kernel_rfl
@[simp] theorem elZero_34 : elZero env.P 34 = (a8 0) := by kernel_rfl
@[simp] theorem isInt_34 : isInt env.P 34 = false := by kernel_rfl
@[simp] theorem intKind_34 : intKind env.P 34 = none := by kernel_rfl
@[simp] theorem isBys_34 : isByteSlice env.P 34 = true := by kernel_rfl
@[simp] theorem undS_34 : (env.P.underlying 34).isNone = false := by kernel_rfl
@[simp] theorem tsize_36 : tsize env.P 36 = (some 1) := by kernel_rfl
@[simp] theorem tagg_36 : tagg env.P 36 = (some false) := by kernel_rfl
@[simp] theorem telem_36 : telem env.P 36 = none := by kernel_rfl
@[simp] theorem tarr_36 : tarr env.P 36 = none := by kernel_rfl
@[simp] theorem isStr_36 : isStr env.P 36 = false := by kernel_rfl
@[simp] theorem tzero_36 : tzero env.P 36 = (some (.v (.int .i64 0))) := by kernel_rfl
@[simp] theorem tbytes_36 : tbytes env.P 36 = (some 8) := by kernel_rfl
@[simp] theorem apT_36 : apT env.P 36 = false := by kernel_rfl
@[simp] theorem leafT_36 : leafT env.P 36 = (some 1) := by kernel_rfl
@[simp] theorem fieldTys_36 : fieldTys env.P 36 = none := by kernel_rfl
@[simp] theorem isBool_36 : isBool env.P 36 = false := by kernel_rfl
@[simp] theorem plain_36 : plain env.P 20 36 = true := by kernel_rfl
@[simp] theorem isInt_36 : isInt env.P 36 = true := by kernel_rfl
@[simp] theorem intKind_36 : intKind env.P 36 = (some .i64) := by kernel_rfl
@[simp] theorem isBys_36 : isByteSlice env.P 36 = false := by kernel_rfl
@[simp] theorem undS_36 : (env.P.underlying 36).isNone = false := by kernel_rfl
@[simp] theorem tsize_37 : tsize env.P 37 = (some 1) := by kernel_rfl
@[simp] theorem tagg_37 : tagg env.P 37 = (some false) := by kernel_rfl
@[simp] theorem telem_37 : telem env.P 37 = none := by kernel_rfl
@[simp] theorem tarr_37 : tarr env.P 37 = none := by kernel_rfl
@[simp] theorem isStr_37 : isStr env.P 37 = false := by kernel_rfl
@[simp] theorem tzero_37 : tzero env.P 37 = (some (.tup [(.v (.slice none 0 0)), (.v (.int .i64 0))])) := by kernel_rfl
@[simp] theorem tbytes_37 : tbytes env.P 37 = (some 0) := by kernel_rfl
@[simp] theorem apT_37 : apT env.P 37 = true := by kernel_rfl
@[simp] theorem leafT_37 : leafT env.P 37 = none := by kernel_rfl
@[simp] theorem fieldTys_37 : fieldTys env.P 37 = none := by kernel_rfl
@[simp] theorem isBool_37 : isBool env.P 37 = false := by kernel_rfl
@[simp] theorem plain_37 : plain env.P 20 37 = false := by kernel_rfl
@[simp] theorem isInt_37 : isInt env.P 37 = false := by kernel_rfl
@[simp] theorem intKind_37 : intKind env.P 37 = none := by kernel_rfl
@[simp] theorem isBys_37 : isByteSlice env.P 37 = false := by kernel_rfl
@[simp] theorem undS_37 : (env.P.underlying 37).isNone = false := by kernel_rfl
@[simp] theorem tsize_39 : tsize env.P 39 = (some 1) := by kernel_rfl
@[simp] theorem tagg_39 : tagg env.P 39 = (some false) := by kernel_rfl
@[simp] theorem telem_39 : telem env.P 39 = none := by kernel_rfl
@[simp] theorem tarr_39 : tarr env.P 39 = none := by kernel_rfl
@[simp] theorem isStr_39 : isStr env.P 39 = false := by kernel_rfl
@[simp] theorem tbytes_39 : tbytes env.P 39 = (some 0) := by kernel_rfl
@[simp] theorem apT_39 : apT env.P 39 = true := by kernel_rfl
@[simp] theorem leafT_39 : leafT env.P 39 = none := by kernel_rfl
@[simp] theorem fieldTys_39 : fieldTys env.P 39 = none := by kernel_rfl
@[simp] theorem isBool_39 : isBool env.P 39 = false := by kernel_rfl
@[simp] theorem plain_39 : plain env.P 20 39 = false := by kernel_rfl
@[simp] theorem isInt_39 : isInt env.P 39 = false := by kernel_rfl
@[simp] theorem intKind_39 : intKind env.P 39 = none := by kernel_rfl
@[simp] theorem isBys_39 : isByteSlice env.P 39 = false := by kernel_rfl
@[simp] theorem undS_39 : (env.P.underlying 39).isNone = false := by kernel_rfl
@[simp] theorem tsize_49 : tsize env.P 49 = (some 1) := by kernel_rfl
@[simp] theorem tagg_49 : tagg env.P 49 = (some false) := by kernel_rfl
@[simp] theorem telem_49 : telem env.P 49 = none := by kernel_rfl
@[simp] theorem tarr_49 : tarr env.P 49 = none := by kernel_rfl
@[simp] theorem isStr_49 : isStr env.P 49 = false := by kernel_rfl
@[simp] theorem tzero_49 : tzero env.P 49 = (some (.v .nilFunc)) := by kernel_rfl
@[simp] theorem tbytes_49 : tbytes env.P 49 = (some 8) := by kernel_rfl
@[simp] theorem apT_49 : apT env.P 49 = true := by kernel_rfl
@[simp] theorem leafT_49 : leafT env.P 49 = none := by kernel_rfl
@[simp] theorem fieldTys_49 : fieldTys env.P 49 = none := by kernel_rfl
@[simp] theorem isBool_49 : isBool env.P 49 = false := by kernel_rfl
@[simp] theorem plain_49 : plain env.P 20 49 = false := by kernel_rfl
@[simp] theorem isInt_49 : isInt env.P 49 = false := by kernel_rfl
@[simp] theorem intKind_49 : intKind env.P 49 = none := by kernel_rfl
@[simp] theorem isBys_49 : isByteSlice env.P 49 = false := by kernel_rfl
@[simp] theorem undS_49 : (env.P.underlying 49).isNone = false := by kernel_rfl
@[simp] theorem tsize_51 : tsize env.P 51 = (some 1) := by kernel_rfl
@[simp] theorem tagg_51 : tagg env.P 51 = (some false) := by kernel_rfl
@[simp] theorem telem_51 : telem env.P 51 = none := by kernel_rfl
@[simp] theorem tarr_51 : tarr env.P 51 = none := by kernel_rfl
@[simp] theorem isStr_51 : isStr env.P 51 = false := by kernel_rfl
@[simp] theorem tzero_51 : tzero env.P 51 = (some (.tup [(.v (.slice none 0 0)), (.v (.int .i64 0))])) := by kernel_rfl
@[simp] theorem tbytes_51 : tbytes env.P 51 = (some 0) := by kernel_rfl
@[simp] theorem apT_51 : apT env.P 51 = true := by kernel_rfl
@[simp] theorem leafT_51 : leafT env.P 51 = none := by kernel_rfl
@[simp] theorem fieldTys_51 : fieldTys env.P 51 = none := by kernel_rfl
@[simp] theorem isBool_51 : isBool env.P 51 = false := by kernel_rfl
@[simp] theorem plain_51 : plain env.P 20 51 = false := by kernel_rfl
@[simp] theorem isInt_51 : isInt env.P 51 = false := by kernel_rfl
@[simp] theorem intKind_51 : intKind env.P 51 = none := by kernel_rfl
@[simp] theorem isBys_51 : isByteSlice env.P 51 = false := by kernel_rfl
@[simp] theorem undS_51 : (env.P.underlying 51).isNone = false := by kernel_rfl
@[simp] theorem tsize_53 : tsize env.P 53 = (some 1) := by kernel_rfl
@[simp] theorem tagg_53 : tagg env.P 53 = (some false) := by kernel_rfl
@[simp] theorem telem_53 : telem env.P 53 = none := by kernel_rfl
@[simp] theorem tarr_53 : tarr env.P 53 = none := by kernel_rfl
@[simp] theorem isStr_53 : isStr env.P 53 = false := by kernel_rfl
@[simp] theorem tbytes_53 : tbytes env.P 53 = (some 0) := by kernel_rfl
@[simp] theorem apT_53 : apT env.P 53 = true := by kernel_rfl
@[simp] theorem leafT_53 : leafT env.P 53 = none := by kernel_rfl
@[simp] theorem fieldTys_53 : fieldTys env.P 53 = none := by kernel_rfl
@[simp] theorem isBool_53 : isBool env.P 53 = false := by kernel_rfl
@[simp] theorem plain_53 : plain env.P 20 53 = false := by kernel_rfl
@[simp] theorem isInt_53 : isInt env.P 53 = false := by kernel_rfl
@[simp] theorem intKind_53 : intKind env.P 53 = none := by kernel_rfl
@[simp] theorem isBys_53 : isByteSlice env.P 53 = false := by kernel_rfl
@[simp] theorem undS_53 : (env.P.underlying 53).isNone = false := by kernel_rfl
@[simp] theorem tsize_76 : tsize env.P 76 = (some 1) := by kernel_rfl
@[simp] theorem tagg_76 : tagg env.P 76 = (some false) := by kernel_rfl
@[simp] theorem telem_76 : telem env.P 76 = (some 34) := by kernel_rfl
@[simp] theorem tarr_76 : tarr env.P 76 = none := by kernel_rfl
@[simp] theorem isStr_76 : isStr env.P 76 = false := by kernel_rfl
@[simp] theorem tzero_76 : tzero env.P 76 = (some (.v (.slice none 0 0))) := by kernel_rfl
@[simp] theorem tbytes_76 : tbytes env.P 76 = (some 24) := by kernel_rfl
@[simp] theorem apT_76 : apT env.P 76 = true := by kernel_rfl
@[simp] theorem leafT_76 : leafT env.P 76 = none := by kernel_rfl
@[simp] theorem fieldTys_76 : fieldTys env.P 76 = none := by kernel_rfl
@[simp] theorem isBool_76 : isBool env.P 76 = false := by kernel_rfl
@[simp] theorem plain_76 : plain env.P 20 76 = true := by kernel_rfl
@[simp] theorem elT_76 : elT env.P 76 1 24 = true := by kernel_rfl
@[simp] theorem elOk_76 : elOk env.P 76 = true := by kernel_rfl
@[simp] theorem elZ_76 : elZ env.P 76 = 1 := by kernel_rfl
@[simp] theorem elBy_76 : elBy env.P 76 = 24 := by kernel_rfl
@[simp] theorem elZero_76 : elZero env.P 76 = (.v (.slice none 0 0)) := by kernel_rfl
@[simp] theorem isInt_76 : isInt env.P 76 = false := by kernel_rfl
@[simp] theorem intKind_76 : intKind env.P 76 = none := by kernel_rfl
@[simp] theorem isBys_76 : isByteSlice env.P 76 = false := by kernel_rfl
@[simp] theorem undS_76 : (env.P.underlying 76).isNone = false := by kernel_rfl
@[simp] theorem tsize_97 : tsize env.P 97 = (some 1) := by kernel_rfl
@[simp] theorem tagg_97 : tagg env.P 97 = (some false) := by kernel_rfl
@[simp] theorem telem_97 : telem env.P 97 = none := by kernel_rfl
@[simp] theorem tarr_97 : tarr env.P 97 = none := by kernel_rfl
@[simp] theorem isStr_97 : isStr env.P 97 = false := by kernel_rfl
@[simp] theorem tzero_97 : tzero env.P 97 = (some (.v (.int .u64 0))) := by kernel_rfl
@[simp] theorem tbytes_97 : tbytes env.P 97 = (some 8) := by kernel_rfl
@[simp] theorem apT_97 : apT env.P 97 = false := by kernel_rfl
@[simp] theorem leafT_97 : leafT env.P 97 = (some 1) := by kernel_rfl
@[simp] theorem fieldTys_97 : fieldTys env.P 97 = none := by kernel_rfl
@[simp] theorem isBool_97 : isBool env.P 97 = false := by kernel_rfl
@[simp] theorem plain_97 : plain env.P 20 97 = true := by kernel_rfl
@[simp] theorem isInt_97 : isInt env.P 97 = true := by kernel_rfl
@[simp] theorem intKind_97 : intKind env.P 97 = (some .u64) := by kernel_rfl
@[simp] theorem isBys_97 : isByteSlice env.P 97 = false := by kernel_rfl
@[simp] theorem undS_97 : (env.P.underlying 97).isNone = false := by kernel_rfl
@[simp] theorem tsize_99 : tsize env.P 99 = (some 1) := by kernel_rfl
@[simp] theorem tagg_99 : tagg env.P 99 = (some false) := by kernel_rfl
@[simp] theorem telem_99 : telem env.P 99 = none := by kernel_rfl
@[simp] theorem tarr_99 : tarr env.P 99 = none := by kernel_rfl
@[simp] theorem isStr_99 : isStr env.P 99 = false := by kernel_rfl
@[simp] theorem tzero_99 : tzero env.P 99 = (some (.v (.pointer none))) := by kernel_rfl
@[simp] theorem tbytes_99 : tbytes env.P 99 = (some 8) := by kernel_rfl
@[simp] theorem apT_99 : apT env.P 99 = true := by kernel_rfl
@[simp] theorem leafT_99 : leafT env.P 99 = none := by kernel_rfl
@[simp] theorem fieldTys_99 : fieldTys env.P 99 = none := by kernel_rfl
@[simp] theorem isBool_99 : isBool env.P 99 = false := by kernel_rfl
@[simp] theorem plain_99 : plain env.P 20 99 = false := by kernel_rfl
@[simp] theorem isInt_99 : isInt env.P 99 = false := by kernel_rfl
@[simp] theorem intKind_99 : intKind env.P 99 = none := by kernel_rfl
@[simp] theorem isBys_99 : isByteSlice env.P 99 = false := by kernel_rfl
@[simp] theorem undS_99 : (env.P.underlying 99).isNone = false := by kernel_rfl
@[simp] theorem tsize_101 : tsize env.P 101 = (some 3) := by kernel_rfl
@[simp] theorem tagg_101 : tagg env.P 101 = (some true) := by kernel_rfl
@[simp] theorem telem_101 : telem env.P 101 = none := by kernel_rfl
@[simp] theorem tarr_101 : tarr env.P 101 = none := by kernel_rfl
@[simp] theorem isStr_101 : isStr env.P 101 = false := by kernel_rfl
@[simp] theorem tzero_101 : tzero env.P 101 = (some (.agg [(.v (.slice none 0 0)), (.v (.int .i64 0)), (.v (.bool false))])) := by kernel_rfl
@[simp] theorem tbytes_101 : tbytes env.P 101 = (some 40) := by kernel_rfl
@[simp] theorem apT_101 : apT env.P 101 = true := by kernel_rfl
@[simp] theorem leafT_101 : leafT env.P 101 = none := by kernel_rfl
@[simp] theorem fieldTys_101 : fieldTys env.P 101 = (some [34, 3, 4]) := by kernel_rfl
@[simp] theorem isBool_101 : isBool env.P 101 = false := by kernel_rfl
@[simp] theorem plain_101 : plain env.P 20 101 = true := by kernel_rfl
@[simp] theorem isInt_101 : isInt env.P 101 = false := by kernel_rfl
@[simp] theorem intKind_101 : intKind env.P 101 = none := by kernel_rfl
@[simp] theorem isBys_101 : isByteSlice env.P 101 = false := by kernel_rfl
@[simp] theorem undS_101 : (env.P.underlying 101).isNone = false := by kernel_rfl
@[simp] theorem places_101 : placesOf env.P 101 = (some [(0, 1), (1, 1), (2, 1)]) := by kernel_rfl
@[simp] theorem tfield_0_101 : tfield env.P 101 0 = (some (0, 34)) := by kernel_rfl
@[simp] theorem fplace_0_101 : fieldPlaces env.P 101 0 = (some (0, 1)) := by kernel_rfl
@[simp] theorem tfield_1_101 : tfield env.P 101 1 = (some (1, 3)) := by kernel_rfl
@[simp] theorem fplace_1_101 : fieldPlaces env.P 101 1 = (some (1, 1)) := by kernel_rfl
@[simp] theorem tfield_2_101 : tfield env.P 101 2 = (some (2, 4)) := by kernel_rfl
@[simp] theorem fplace_2_101 : fieldPlaces env.P 101 2 = (some (2, 1)) := by kernel_rfl
@[simp] theorem tsize_102 : tsize env.P 102 = (some 1) := by kernel_rfl
@[simp] theorem tagg_102 : tagg env.P 102 = (some false) := by kernel_rfl
@[simp] theorem telem_102 : telem env.P 102 = none := by kernel_rfl
@[simp] theorem tarr_102 : tarr env.P 102 = none := by kernel_rfl
@[simp] theorem isStr_102 : isStr env.P 102 = false := by kernel_rfl
@[simp] theorem tzero_102 : tzero env.P 102 = (some (.v .nilFunc)) := by kernel_rfl
@[simp] theorem tbytes_102 : tbytes env.P 102 = (some 8) := by kernel_rfl
@[simp] theorem apT_102 : apT env.P 102 = true := by kernel_rfl
@[simp] theorem leafT_102 : leafT env.P 102 = none := by kernel_rfl
@[simp] theorem fieldTys_102 : fieldTys env.P 102 = none := by kernel_rfl
@[simp] theorem isBool_102 : isBool env.P 102 = false := by kernel_rfl
@[simp] theorem plain_102 : plain env.P 20 102 = false := by kernel_rfl
@[simp] theorem isInt_102 : isInt env.P 102 = false := by kernel_rfl
@[simp] theorem intKind_102 : intKind env.P 102 = none := by kernel_rfl
@[simp] theorem isBys_102 : isByteSlice env.P 102 = false := by kernel_rfl
@[simp] theorem undS_102 : (env.P.underlying 102).isNone = false := by kernel_rfl
@[simp] theorem tsize_103 : tsize env.P 103 = (some 1) := by kernel_rfl
@[simp] theorem tagg_103 : tagg env.P 103 = (some false) := by kernel_rfl
@[simp] theorem telem_103 : telem env.P 103 = none := by kernel_rfl
@[simp] theorem tarr_103 : tarr env.P 103 = none := by kernel_rfl
@[simp] theorem isStr_103 : isStr env.P 103 = false := by kernel_rfl
@[simp] theorem tzero_103 : tzero env.P 103 = (some (.v .nilFunc)) := by kernel_rfl
@[simp] theorem tbytes_103 : tbytes env.P 103 = (some 8) := by kernel_rfl
@[simp] theorem apT_103 : apT env.P 103 = true := by kernel_rfl
@[simp] theorem leafT_103 : leafT env.P 103 = none := by kernel_rfl
@[simp] theorem fieldTys_103 : fieldTys env.P 103 = none := by kernel_rfl
@[simp] theorem isBool_103 : isBool env.P 103 = false := by kernel_rfl
@[simp] theorem plain_103 : plain env.P 20 103 = false := by kernel_rfl
@[simp] theorem isInt_103 : isInt env.P 103 = false := by kernel_rfl
@[simp] theorem intKind_103 : intKind env.P 103 = none := by kernel_rfl
@[simp] theorem isBys_103 : isByteSlice env.P 103 = false := by kernel_rfl
@[simp] theorem undS_103 : (env.P.underlying 103).isNone = false := by kernel_rfl
@[simp] theorem tsize_104 : tsize env.P 104 = (some 1) := by kernel_rfl
@[simp] theorem tagg_104 : tagg env.P 104 = (some false) := by kernel_rfl
@[simp] theorem telem_104 : telem env.P 104 = none := by kernel_rfl
@[simp] theorem tarr_104 : tarr env.P 104 = none := by kernel_rfl
@[simp] theorem isStr_104 : isStr env.P 104 = false := by kernel_rfl
@[simp] theorem tbytes_104 : tbytes env.P 104 = (some 0) := by kernel_rfl
@[simp] theorem apT_104 : apT env.P 104 = true := by kernel_rfl
@[simp] theorem leafT_104 : leafT env.P 104 = none := by kernel_rfl
@[simp] theorem fieldTys_104 : fieldTys env.P 104 = none := by kernel_rfl
@[simp] theorem isBool_104 : isBool env.P 104 = false := by kernel_rfl
@[simp] theorem plain_104 : plain env.P 20 104 = false := by kernel_rfl
@[simp] theorem isInt_104 : isInt env.P 104 = false := by kernel_rfl
@[simp] theorem intKind_104 : intKind env.P 104 = none := by kernel_rfl
@[simp] theorem isBys_104 : isByteSlice env.P 104 = false := by kernel_rfl
@[simp] theorem undS_104 : (env.P.underlying 104).isNone = false := by kernel_rfl
@[simp] theorem tsize_106 : tsize env.P 106 = (some 1) := by kernel_rfl
@[simp] theorem tagg_106 : tagg env.P 106 = (some false) := by kernel_rfl
@[simp] theorem telem_106 : telem env.P 106 = none := by kernel_rfl
@[simp] theorem tarr_106 : tarr env.P 106 = none := by kernel_rfl
@[simp] theorem isStr_106 : isStr env.P 106 = false := by kernel_rfl
@[simp] theorem tzero_106 : tzero env.P 106 = (some (.tup [(.v (.slice none 0 0)), (.v (.int .i64 0))])) := by kernel_rfl
@[simp] theorem tbytes_106 : tbytes env.P 106 = (some 0) := by kernel_rfl
@[simp] theorem apT_106 : apT env.P 106 = true := by kernel_rfl
@[simp] theorem leafT_106 : leafT env.P 106 = none := by kernel_rfl
@[simp] theorem fieldTys_106 : fieldTys env.P 106 = none := by kernel_rfl
@[simp] theorem isBool_106 : isBool env.P 106 = false := by kernel_rfl
@[simp] theorem plain_106 : plain env.P 20 106 = false := by kernel_rfl
@[simp] theorem isInt_106 : isInt env.P 106 = false := by kernel_rfl
@[simp] theorem intKind_106 : intKind env.P 106 = none := by kernel_rfl
@[simp] theorem isBys_106 : isByteSlice env.P 106 = false := by kernel_rfl
@[simp] theorem undS_106 : (env.P.underlying 106).isNone = false := by kernel_rfl
@[simp] theorem tsize_110 : tsize env.P 110 = (some 1) := by kernel_rfl
@[simp] theorem tagg_110 : tagg env.P 110 = (some false) := by kernel_rfl
@[simp] theorem telem_110 : telem env.P 110 = none := by kernel_rfl
@[simp] theorem tarr_110 : tarr env.P 110 = none := by kernel_rfl
@[simp] theorem isStr_110 : isStr env.P 110 = false := by kernel_rfl
@[simp] theorem tzero_110 : tzero env.P 110 = (some (.v .nilFunc)) := by kernel_rfl
@[simp] theorem tbytes_110 : tbytes env.P 110 = (some 8) := by kernel_rfl
@[simp] theorem apT_110 : apT env.P 110 = true := by kernel_rfl
@[simp] theorem leafT_110 : leafT env.P 110 = none := by kernel_rfl
@[simp] theorem fieldTys_110 : fieldTys env.P 110 = none := by kernel_rfl
@[simp] theorem isBool_110 : isBool env.P 110 = false := by kernel_rfl
@[simp] theorem plain_110 : plain env.P 20 110 = false := by kernel_rfl
@[simp] theorem isInt_110 : isInt env.P 110 = false := by kernel_rfl
@[simp] theorem intKind_110 : intKind env.P 110 = none := by kernel_rfl
@[simp] theorem isBys_110 : isByteSlice env.P 110 = false := by kernel_rfl
@[simp] theorem undS_110 : (env.P.underlying 110).isNone = false := by kernel_rfl
@[simp] theorem tsize_112 : tsize env.P 112 = (some 2) := by kernel_rfl
@[simp] theorem tagg_112 : tagg env.P 112 = (some true) := by kernel_rfl
@[simp] theorem telem_112 : telem env.P 112 = none := by kernel_rfl
@[simp] theorem tarr_112 : tarr env.P 112 = none := by kernel_rfl
@[simp] theorem isStr_112 : isStr env.P 112 = false := by kernel_rfl
@[simp] theorem tzero_112 : tzero env.P 112 = (some (.agg [(.v .nilFunc), (.v .nilFunc)])) := by kernel_rfl
@[simp] theorem tbytes_112 : tbytes env.P 112 = (some 16) := by kernel_rfl
@[simp] theorem apT_112 : apT env.P 112 = true := by kernel_rfl
@[simp] theorem leafT_112 : leafT env.P 112 = none := by kernel_rfl
@[simp] theorem fieldTys_112 : fieldTys env.P 112 = (some [49, 110]) := by kernel_rfl
@[simp] theorem isBool_112 : isBool env.P 112 = false := by kernel_rfl
@[simp] theorem plain_112 : plain env.P 20 112 = false := by kernel_rfl
@[simp] theorem isInt_112 : isInt env.P 112 = false := by kernel_rfl
@[simp] theorem intKind_112 : intKind env.P 112 = none := by kernel_rfl
@[simp] theorem isBys_112 : isByteSlice env.P 112 = false := by kernel_rfl
@[simp] theorem undS_112 : (env.P.underlying 112).isNone = false := by kernel_rfl
@[simp] theorem places_112 : placesOf env.P 112 = (some [(0, 1), (1, 1)]) := by kernel_rfl
@[simp] theorem tfield_0_112 : tfield env.P 112 0 = (some (0, 49)) := by kernel_rfl
@[simp] theorem fplace_0_112 : fieldPlaces env.P 112 0 = (some (0, 1)) := by kernel_rfl
@[simp] theorem tfield_1_112 : tfield env.P 112 1 = (some (1, 110)) := by kernel_rfl
@[simp] theorem fplace_1_112 : fieldPlaces env.P 112 1 = (some (1, 1)) := by kernel_rfl
@[simp] theorem tsize_113 : tsize env.P 113 = (some 8) := by kernel_rfl
@[simp] theorem tagg_113 : tagg env.P 113 = (some true) := by kernel_rfl
@[simp] theorem telem_113 : telem env.P 113 = none := by kernel_rfl
@[simp] theorem tarr_113 : tarr env.P 113 = (some (4, 112)) := by kernel_rfl
@[simp] theorem isStr_113 : isStr env.P 113 = false := by kernel_rfl
@[simp] theorem tzero_113 : tzero env.P 113 = (some (.agg [(.v .nilFunc), (.v .nilFunc), (.v .nilFunc), (.v .nilFunc), (.v .nilFunc), (.v .nilFunc), (.v .nilFunc), (.v .nilFunc)])) := by kernel_rfl
@[simp] theorem tbytes_113 : tbytes env.P 113 = (some 64) := by kernel_rfl
@[simp] theorem apT_113 : apT env.P 113 = true := by kernel_rfl
@[simp] theorem leafT_113 : leafT env.P 113 = none := by kernel_rfl
@[simp] theorem fieldTys_113 : fieldTys env.P 113 = none := by kernel_rfl
@[simp] theorem isBool_113 : isBool env.P 113 = false := by kernel_rfl
@[simp] theorem plain_113 : plain env.P 20 113 = false := by kernel_rfl
@[simp] theorem isInt_113 : isInt env.P 113 = false := by kernel_rfl
@[simp] theorem intKind_113 : intKind env.P 113 = none := by kernel_rfl
@[simp] theorem isBys_113 : isByteSlice env.P 113 = false := by kernel_rfl
@[simp] theorem undS_113 : (env.P.underlying 113).isNone = false := by kernel_rfl
@[simp] theorem tsize_121 : tsize env.P 121 = (some 1) := by kernel_rfl
@[simp] theorem tagg_121 : tagg env.P 121 = (some false) := by kernel_rfl
@[simp] theorem telem_121 : telem env.P 121 = none := by kernel_rfl
@[simp] theorem tarr_121 : tarr env.P 121 = none := by kernel_rfl
@[simp] theorem isStr_121 : isStr env.P 121 = false := by kernel_rfl
@[simp] theorem tzero_121 : tzero env.P 121 = (some (.tup [(.v (.slice none 0 0)), (.v (.int .i64 0))])) := by kernel_rfl
@[simp] theorem tbytes_121 : tbytes env.P 121 = (some 0) := by kernel_rfl
@[simp] theorem apT_121 : apT env.P 121 = true := by kernel_rfl
@[simp] theorem leafT_121 : leafT env.P 121 = none := by kernel_rfl
@[simp] theorem fieldTys_121 : fieldTys env.P 121 = none := by kernel_rfl
@[simp] theorem isBool_121 : isBool env.P 121 = false := by kernel_rfl
@[simp] theorem plain_121 : plain env.P 20 121 = false := by kernel_rfl
@[simp] theorem isInt_121 : isInt env.P 121 = false := by kernel_rfl
@[simp] theorem intKind_121 : intKind env.P 121 = none := by kernel_rfl
@[simp] theorem isBys_121 : isByteSlice env.P 121 = false := by kernel_rfl
@[simp] theorem undS_121 : (env.P.underlying 121).isNone = false := by kernel_rfl
@[simp] theorem tsize_139 : tsize env.P 139 = (some 1) := by kernel_rfl
@[simp] theorem tagg_139 : tagg env.P 139 = (some false) := by kernel_rfl
@[simp] theorem telem_139 : telem env.P 139 = none := by kernel_rfl
@[simp] theorem tarr_139 : tarr env.P 139 = none := by kernel_rfl
@[simp] theorem isStr_139 : isStr env.P 139 = false := by kernel_rfl
@[simp] theorem tzero_139 : tzero env.P 139 = (some (.v .nilFunc)) := by kernel_rfl
@[simp] theorem tbytes_139 : tbytes env.P 139 = (some 8) := by kernel_rfl
@[simp] theorem apT_139 : apT env.P 139 = true := by kernel_rfl
@[simp] theorem leafT_139 : leafT env.P 139 = none := by kernel_rfl
@[simp] theorem fieldTys_139 : fieldTys env.P 139 = none := by kernel_rfl
@[simp] theorem isBool_139 : isBool env.P 139 = false := by kernel_rfl
@[simp] theorem plain_139 : plain env.P 20 139 = false := by kernel_rfl
@[simp] theorem isInt_139 : isInt env.P 139 = false := by kernel_rfl
@[simp] theorem intKind_139 : intKind env.P 139 = none := by kernel_rfl
@[simp] theorem isBys_139 : isByteSlice env.P 139 = false := by kernel_rfl
@[simp] theorem undS_139 : (env.P.underlying 139).isNone = false := by kernel_rfl
@[simp] theorem tsize_140 : tsize env.P 140 = (some 1) := by kernel_rfl
@[simp] theorem tagg_140 : tagg env.P 140 = (some false) := by kernel_rfl
@[simp] theorem telem_140 : telem env.P 140 = none := by kernel_rfl
@[simp] theorem tarr_140 : tarr env.P 140 = none := by kernel_rfl
@[simp] theorem isStr_140 : isStr env.P 140 = false := by kernel_rfl
@[simp] theorem tzero_140 : tzero env.P 140 = (some (.v .nilFunc)) := by kernel_rfl
@[simp] theorem tbytes_140 : tbytes env.P 140 = (some 8) := by kernel_rfl
@[simp] theorem apT_140 : apT env.P 140 = true := by kernel_rfl
@[simp] theorem leafT_140 : leafT env.P 140 = none := by kernel_rfl
@[simp] theorem fieldTys_140 : fieldTys env.P 140 = none := by kernel_rfl
@[simp] theorem isBool_140 : isBool env.P 140 = false := by kernel_rfl
@[simp] theorem plain_140 : plain env.P 20 140 = false := by kernel_rfl
@[simp] theorem isInt_140 : isInt env.P 140 = false := by kernel_rfl
@[simp] theorem intKind_140 : intKind env.P 140 = none := by kernel_rfl
@[simp] theorem isBys_140 : isByteSlice env.P 140 = false := by kernel_rfl
@[simp] theorem undS_140 : (env.P.underlying 140).isNone = false := by kernel_rfl
@[simp] theorem tsize_150 : tsize env.P 150 = (some 1) := by kernel_rfl
@[simp] theorem tagg_150 : tagg env.P 150 = (some false) := by kernel_rfl
@[simp] theorem telem_150 : telem env.P 150 = none := by kernel_rfl
@[simp] theorem tarr_150 : tarr env.P 150 = none := by kernel_rfl
@[simp] theorem isStr_150 : isStr env.P 150 = false := by kernel_rfl
@[simp] theorem tbytes_150 : tbytes env.P 150 = (some 0) := by kernel_rfl
@[simp] theorem apT_150 : apT env.P 150 = true := by kernel_rfl
@[simp] theorem leafT_150 : leafT env.P 150 = none := by kernel_rfl
@[simp] theorem fieldTys_150 : fieldTys env.P 150 = none := by kernel_rfl
@[simp] theorem isBool_150 : isBool env.P 150 = false := by kernel_rfl
@[simp] theorem plain_150 : plain env.P 20 150 = false := by kernel_rfl
@[simp] theorem isInt_150 : isInt env.P 150 = false := by kernel_rfl
@[simp] theorem intKind_150 : intKind env.P 150 = none := by kernel_rfl
@[simp] theorem isBys_150 : isByteSlice env.P 150 = false := by kernel_rfl
@[simp] theorem undS_150 : (env.P.underlying 150).isNone = false := by kernel_rfl
@[simp] theorem tsize_153 : tsize env.P 153 = (some 4) := by kernel_rfl
@[simp] theorem tagg_153 : tagg env.P 153 = (some true) := by kernel_rfl
@[simp] theorem telem_153 : telem env.P 153 = none := by kernel_rfl
@[simp] theorem tarr_153 : tarr env.P 153 = none := by kernel_rfl
@[simp] theorem isStr_153 : isStr env.P 153 = false := by kernel_rfl
@[simp] theorem tzero_153 : tzero env.P 153 = (some (.agg [(a8 0), (a32 0), (a8 0), (.v (.int .i64 0))])) := by kernel_rfl
@[simp] theorem tbytes_153 : tbytes env.P 153 = (some 24) := by kernel_rfl
@[simp] theorem apT_153 : apT env.P 153 = true := by kernel_rfl
@[simp] theorem leafT_153 : leafT env.P 153 = none := by kernel_rfl
@[simp] theorem eqTy_153 : eqTy env.P 153 = true := by kernel_rfl
@[simp] theorem fieldTys_153 : fieldTys env.P 153 = (some [26, 36]) := by kernel_rfl
@[simp] theorem isBool_153 : isBool env.P 153 = false := by kernel_rfl
@[simp] theorem plain_153 : plain env.P 20 153 = true := by kernel_rfl
@[simp] theorem isInt_153 : isInt env.P 153 = false := by kernel_rfl
@[simp] theorem intKind_153 : intKind env.P 153 = none := by kernel_rfl
@[simp] theorem isBys_153 : isByteSlice env.P 153 = false := by kernel_rfl
@[simp] theorem undS_153 : (env.P.underlying 153).isNone = false := by kernel_rfl
@[simp] theorem places_153 : placesOf env.P 153 = (some [(0, 3), (3, 1)]) := by kernel_rfl
@[simp] theorem tfield_0_153 : tfield env.P 153 0 = (some (0, 26)) := by kernel_rfl
@[simp] theorem fplace_0_153 : fieldPlaces env.P 153 0 = (some (0, 3)) := by kernel_rfl
@[simp] theorem tfield_1_153 : tfield env.P 153 1 = (some (3, 36)) := by kernel_rfl
@[simp] theorem fplace_1_153 : fieldPlaces env.P 153 1 = (some (3, 1)) := by kernel_rfl
@[simp] theorem tsize_174 : tsize env.P 174 = (some 1) := by kernel_rfl
@[simp] theorem tagg_174 : tagg env.P 174 = (some false) := by kernel_rfl
@[simp] theorem telem_174 : telem env.P 174 = none := by kernel_rfl
@[simp] theorem tarr_174 : tarr env.P 174 = none := by kernel_rfl
@[simp] theorem isStr_174 : isStr env.P 174 = false := by kernel_rfl
@[simp] theorem tzero_174 : tzero env.P 174 = (some (.v .nilFunc)) := by kernel_rfl
@[simp] theorem tbytes_174 : tbytes env.P 174 = (some 8) := by kernel_rfl
@[simp] theorem apT_174 : apT env.P 174 = true := by kernel_rfl
@[simp] theorem leafT_174 : leafT env.P 174 = none := by kernel_rfl
@[simp] theorem fieldTys_174 : fieldTys env.P 174 = none := by kernel_rfl
@[simp] theorem isBool_174 : isBool env.P 174 = false := by kernel_rfl
@[simp] theorem plain_174 : plain env.P 20 174 = false := by kernel_rfl
@[simp] theorem isInt_174 : isInt env.P 174 = false := by kernel_rfl
@[simp] theorem intKind_174 : intKind env.P 174 = none := by kernel_rfl
@[simp] theorem isBys_174 : isByteSlice env.P 174 = false := by kernel_rfl
@[simp] theorem undS_174 : (env.P.underlying 174).isNone = false := by kernel_rfl
@[simp] theorem tsize_177 : tsize env.P 177 = (some 1) := by kernel_rfl
@[simp] theorem tagg_177 : tagg env.P 177 = (some false) := by kernel_rfl
@[simp] theorem telem_177 : telem env.P 177 = none := by kernel_rfl
@[simp] theorem tarr_177 : tarr env.P 177 = none := by kernel_rfl
@[simp] theorem isStr_177 : isStr env.P 177 = false := by kernel_rfl
@[simp] theorem tzero_177 : tzero env.P 177 = (some (.v .nilFunc)) := by kernel_rfl
@[simp] theorem tbytes_177 : tbytes env.P 177 = (some 8) := by kernel_rfl
@[simp] theorem apT_177 : apT env.P 177 = true := by kernel_rfl
@[simp] theorem leafT_177 : leafT env.P 177 = none := by kernel_rfl
@[simp] theorem fieldTys_177 : fieldTys env.P 177 = none := by kernel_rfl
@[simp] theorem isBool_177 : isBool env.P 177 = false := by kernel_rfl
@[simp] theorem plain_177 : plain env.P 20 177 = false := by kernel_rfl
@[simp] theorem isInt_177 : isInt env.P 177 = false := by kernel_rfl
@[simp] theorem intKind_177 : intKind env.P 177 = none := by kernel_rfl
@[simp] theorem isBys_177 : isByteSlice env.P 177 = false := by kernel_rfl
@[simp] theorem undS_177 : (env.P.underlying 177).isNone = false := by kernel_rfl
end Go.Proofs.Ytehkjjcdkbcebaa
