/-
  The facts on the program's types, computed. No statement of a seat is proved here.
-/
import Derived.Test.YtgooemdlilfkmaaRows
import Derived.Test.YtgooemdlilfkmaaAbsRules
set_option linter.unusedVariables false
set_option maxRecDepth 1000000
namespace Go.Proofs.Ytgooemdlilfkmaa
open Go.Ab

def fns : List FuncId := [3, 4, 5, 6, 7, 8, 9, 10, 11, 12, 13, 14, 15, 16, 17, 18, 19, 20, 21, 22, 23, 24, 25, 26, 27, 28, 29, 30, 31, 32, 33, 34, 35, 36, 37, 38, 39, 40, 41, 42, 43, 44, 45, 46, 47, 48, 49, 50, 51, 52, 53, 54, 55, 56, 57, 58, 59, 60, 61, 62, 63, 64, 65, 66, 67, 68, 69, 70, 71, 72, 73, 74, 75, 76, 77, 78, 79, 80, 81, 82, 83, 84]
def keep : List FuncId := [13, 20, 26, 41, 58, 59]
noncomputable def env : Env := envOf Try.prog fns keep [] (strictOf [(19, 13, 18), (7, 5, 66666), (7, 6, 66666)]) (tabApart [(14, 5, 3, [(15, 2)])]) (tabFrz [(19, 13, 18), (7, 5, 66666), (7, 6, 66666)])
theorem fnsFit : fnsOk env fns = true := by kernel_rfl
@[simp] theorem no_thr (f : FuncId) : (env.mode f == 2) = false := by
  show ((if keep.contains f then 1 else if ([] : List FuncId).contains f then 2 else 0) == 2) = false
  split
  · rfl
  · rfl
@[simp] theorem tsize_0 : tsize env.P 0 = (some 1) := by kernel_rfl
@[simp] theorem tagg_0 : tagg env.P 0 = (some false) := by kernel_rfl
@[simp] theorem telem_0 : telem env.P 0 = none := by kernel_rfl
@[simp] theorem tarr_0 : tarr env.P 0 = none := by kernel_rfl
@[simp] theorem isStr_0 : isStr env.P 0 = false := by kernel_rfl
@[simp] theorem tzero_0 : tzero env.P 0 = (some (.v (.tuple #[]))) := by kernel_rfl
@[simp] theorem tbytes_0 : tbytes env.P 0 = (some 0) := by kernel_rfl
@[simp] theorem apT_0 : apT env.P 0 = true := by kernel_rfl
@[simp] theorem leafT_0 : leafT env.P 0 = none := by kernel_rfl
@[simp] theorem fieldTys_0 : fieldTys env.P 0 = none := by kernel_rfl
@[simp] theorem isBool_0 : isBool env.P 0 = false := by kernel_rfl
@[simp] theorem plain_0 : plain env.P 20 0 = false := by kernel_rfl
@[simp] theorem isInt_0 : isInt env.P 0 = false := by kernel_rfl
@[simp] theorem intKind_0 : intKind env.P 0 = none := by kernel_rfl
@[simp] theorem isBys_0 : isByteSlice env.P 0 = false := by kernel_rfl
@[simp] theorem undS_0 : (env.P.underlying 0).isNone = false := by kernel_rfl
@[simp] theorem tsize_3 : tsize env.P 3 = (some 1) := by kernel_rfl
@[simp] theorem tagg_3 : tagg env.P 3 = (some false) := by kernel_rfl
@[simp] theorem telem_3 : telem env.P 3 = none := by kernel_rfl
@[simp] theorem tarr_3 : tarr env.P 3 = none := by kernel_rfl
@[simp] theorem isStr_3 : isStr env.P 3 = false := by kernel_rfl
@[simp] theorem tzero_3 : tzero env.P 3 = (some (.v (.int .i64 0))) := by kernel_rfl
@[simp] theorem tbytes_3 : tbytes env.P 3 = (some 8) := by kernel_rfl
@[simp] theorem apT_3 : apT env.P 3 = false := by kernel_rfl
@[simp] theorem leafT_3 : leafT env.P 3 = (some 1) := by kernel_rfl
@[simp] theorem fieldTys_3 : fieldTys env.P 3 = none := by kernel_rfl
@[simp] theorem isBool_3 : isBool env.P 3 = false := by kernel_rfl
@[simp] theorem plain_3 : plain env.P 20 3 = true := by kernel_rfl
@[simp] theorem isInt_3 : isInt env.P 3 = true := by kernel_rfl
@[simp] theorem intKind_3 : intKind env.P 3 = (some .i64) := by kernel_rfl
@[simp] theorem isBys_3 : isByteSlice env.P 3 = false := by kernel_rfl
@[simp] theorem undS_3 : (env.P.underlying 3).isNone = false := by kernel_rfl
@[simp] theorem tsize_4 : tsize env.P 4 = (some 1) := by kernel_rfl
@[simp] theorem tagg_4 : tagg env.P 4 = (some false) := by kernel_rfl
@[simp] theorem telem_4 : telem env.P 4 = none := by kernel_rfl
@[simp] theorem tarr_4 : tarr env.P 4 = none := by kernel_rfl
@[simp] theorem isStr_4 : isStr env.P 4 = false := by kernel_rfl
@[simp] theorem tzero_4 : tzero env.P 4 = (some (.v (.bool false))) := by kernel_rfl
@[simp] theorem tbytes_4 : tbytes env.P 4 = (some 1) := by kernel_rfl
@[simp] theorem apT_4 : apT env.P 4 = true := by kernel_rfl
@[simp] theorem leafT_4 : leafT env.P 4 = (some 0) := by kernel_rfl
@[simp] theorem fieldTys_4 : fieldTys env.P 4 = none := by kernel_rfl
@[simp] theorem isBool_4 : isBool env.P 4 = true := by kernel_rfl
@[simp] theorem plain_4 : plain env.P 20 4 = true := by kernel_rfl
@[simp] theorem isInt_4 : isInt env.P 4 = false := by kernel_rfl
@[simp] theorem intKind_4 : intKind env.P 4 = none := by kernel_rfl
@[simp] theorem isBys_4 : isByteSlice env.P 4 = false := by kernel_rfl
@[simp] theorem undS_4 : (env.P.underlying 4).isNone = false := by kernel_rfl
@[simp] theorem tsize_5 : tsize env.P 5 = (some 1) := by kernel_rfl
@[simp] theorem tagg_5 : tagg env.P 5 = (some false) := by kernel_rfl
@[simp] theorem telem_5 : telem env.P 5 = none := by kernel_rfl
@[simp] theorem tarr_5 : tarr env.P 5 = none := by kernel_rfl
@[simp] theorem isStr_5 : isStr env.P 5 = false := by kernel_rfl
@[simp] theorem tzero_5 : tzero env.P 5 = (some (a8 0)) := by kernel_rfl
@[simp] theorem tbytes_5 : tbytes env.P 5 = (some 1) := by kernel_rfl
@[simp] theorem apT_5 : apT env.P 5 = false := by kernel_rfl
@[simp] theorem leafT_5 : leafT env.P 5 = (some 1) := by kernel_rfl
@[simp] theorem fieldTys_5 : fieldTys env.P 5 = none := by kernel_rfl
@[simp] theorem isBool_5 : isBool env.P 5 = false := by kernel_rfl
@[simp] theorem plain_5 : plain env.P 20 5 = true := by kernel_rfl
@[simp] theorem isInt_5 : isInt env.P 5 = true := by kernel_rfl
@[simp] theorem intKind_5 : intKind env.P 5 = (some .u8) := by kernel_rfl
@[simp] theorem isBys_5 : isByteSlice env.P 5 = false := by kernel_rfl
@[simp] theorem undS_5 : (env.P.underlying 5).isNone = false := by kernel_rfl
@[simp] theorem tsize_9 : tsize env.P 9 = (some 1) := by kernel_rfl
@[simp] theorem tagg_9 : tagg env.P 9 = (some false) := by kernel_rfl
@[simp] theorem telem_9 : telem env.P 9 = none := by kernel_rfl
@[simp] theorem tarr_9 : tarr env.P 9 = none := by kernel_rfl
@[simp] theorem isStr_9 : isStr env.P 9 = true := by kernel_rfl
@[simp] theorem tzero_9 : tzero env.P 9 = (some (.v (.string ⟨#[]⟩))) := by kernel_rfl
@[simp] theorem tbytes_9 : tbytes env.P 9 = (some 16) := by kernel_rfl
@[simp] theorem apT_9 : apT env.P 9 = true := by kernel_rfl
@[simp] theorem leafT_9 : leafT env.P 9 = (some 2) := by kernel_rfl
@[simp] theorem fieldTys_9 : fieldTys env.P 9 = none := by kernel_rfl
@[simp] theorem isBool_9 : isBool env.P 9 = false := by kernel_rfl
@[simp] theorem plain_9 : plain env.P 20 9 = true := by kernel_rfl
@[simp] theorem isInt_9 : isInt env.P 9 = false := by kernel_rfl
@[simp] theorem intKind_9 : intKind env.P 9 = none := by kernel_rfl
@[simp] theorem isBys_9 : isByteSlice env.P 9 = false := by kernel_rfl
@[simp] theorem undS_9 : (env.P.underlying 9).isNone = false := by kernel_rfl
@[simp] theorem tsize_20 : tsize env.P 20 = (some 1) := by kernel_rfl
@[simp] theorem tagg_20 : tagg env.P 20 = (some false) := by kernel_rfl
@[simp] theorem telem_20 : telem env.P 20 = none := by kernel_rfl
@[simp] theorem tarr_20 : tarr env.P 20 = none := by kernel_rfl
@[simp] theorem isStr_20 : isStr env.P 20 = false := by kernel_rfl
@[simp] theorem tzero_20 : tzero env.P 20 = (some (.v .nilIface)) := by kernel_rfl
@[simp] theorem tbytes_20 : tbytes env.P 20 = (some 16) := by kernel_rfl
@[simp] theorem apT_20 : apT env.P 20 = true := by kernel_rfl
@[simp] theorem leafT_20 : leafT env.P 20 = none := by kernel_rfl
@[simp] theorem fieldTys_20 : fieldTys env.P 20 = none := by kernel_rfl
@[simp] theorem isBool_20 : isBool env.P 20 = false := by kernel_rfl
@[simp] theorem plain_20 : plain env.P 20 20 = false := by kernel_rfl
@[simp] theorem isInt_20 : isInt env.P 20 = false := by kernel_rfl
@[simp] theorem intKind_20 : intKind env.P 20 = none := by kernel_rfl
@[simp] theorem isBys_20 : isByteSlice env.P 20 = false := by kernel_rfl
@[simp] theorem undS_20 : (env.P.underlying 20).isNone = false := by kernel_rfl
@[simp] theorem tsize_22 : tsize env.P 22 = (some 1) := by kernel_rfl
@[simp] theorem tagg_22 : tagg env.P 22 = (some false) := by kernel_rfl
@[simp] theorem telem_22 : telem env.P 22 = none := by kernel_rfl
@[simp] theorem tarr_22 : tarr env.P 22 = none := by kernel_rfl
@[simp] theorem isStr_22 : isStr env.P 22 = false := by kernel_rfl
@[simp] theorem tzero_22 : tzero env.P 22 = (some (a32 0)) := by kernel_rfl
@[simp] theorem tbytes_22 : tbytes env.P 22 = (some 4) := by kernel_rfl
@[simp] theorem apT_22 : apT env.P 22 = false := by kernel_rfl
@[simp] theorem leafT_22 : leafT env.P 22 = (some 1) := by kernel_rfl
@[simp] theorem fieldTys_22 : fieldTys env.P 22 = none := by kernel_rfl
@[simp] theorem isBool_22 : isBool env.P 22 = false := by kernel_rfl
@[simp] theorem plain_22 : plain env.P 20 22 = true := by kernel_rfl
@[simp] theorem isInt_22 : isInt env.P 22 = true := by kernel_rfl
@[simp] theorem intKind_22 : intKind env.P 22 = (some .u32) := by kernel_rfl
@[simp] theorem isBys_22 : isByteSlice env.P 22 = false := by kernel_rfl
@[simp] theorem undS_22 : (env.P.underlying 22).isNone = false := by kernel_rfl
@[simp] theorem tsize_24 : tsize env.P 24 = (some 2) := by kernel_rfl
@[simp] theorem tagg_24 : tagg env.P 24 = (some true) := by kernel_rfl
@[simp] theorem telem_24 : telem env.P 24 = none := by kernel_rfl
@[simp] theorem tarr_24 : tarr env.P 24 = none := by kernel_rfl
@[simp] theorem isStr_24 : isStr env.P 24 = false := by kernel_rfl
@[simp] theorem tzero_24 : tzero env.P 24 = (some (.agg [(a8 0), (a32 0)])) := by kernel_rfl
@[simp] theorem tbytes_24 : tbytes env.P 24 = (some 8) := by kernel_rfl
@[simp] theorem apT_24 : apT env.P 24 = true := by kernel_rfl
@[simp] theorem leafT_24 : leafT env.P 24 = none := by kernel_rfl
@[simp] theorem eqTy_24 : eqTy env.P 24 = true := by kernel_rfl
@[simp] theorem fieldTys_24 : fieldTys env.P 24 = (some [5, 22]) := by kernel_rfl
@[simp] theorem isBool_24 : isBool env.P 24 = false := by kernel_rfl
@[simp] theorem plain_24 : plain env.P 20 24 = true := by kernel_rfl
@[simp] theorem isInt_24 : isInt env.P 24 = false := by kernel_rfl
@[simp] theorem intKind_24 : intKind env.P 24 = none := by kernel_rfl
@[simp] theorem isBys_24 : isByteSlice env.P 24 = false := by kernel_rfl
@[simp] theorem undS_24 : (env.P.underlying 24).isNone = false := by kernel_rfl
@[simp] theorem places_24 : placesOf env.P 24 = (some [(0, 1), (1, 1)]) := by kernel_rfl
@[simp] theorem tfield_0_24 : tfield env.P 24 0 = (some (0, 5)) := by kernel_rfl
@[simp] theorem fplace_0_24 : fieldPlaces env.P 24 0 = (some (0, 1)) := by kernel_rfl
@[simp] theorem tfield_1_24 : tfield env.P 24 1 = (some (1, 22)) := by kernel_rfl
@[simp] theorem fplace_1_24 : fieldPlaces env.P 24 1 = (some (1, 1)) := by kernel_rfl
@[simp] theorem tsize_26 : tsize env.P 26 = (some 5) := by kernel_rfl
@[simp] theorem tagg_26 : tagg env.P 26 = (some true) := by kernel_rfl
@[simp] theorem telem_26 : telem env.P 26 = none := by kernel_rfl
@[simp] theorem tarr_26 : tarr env.P 26 = none := by kernel_rfl
@[simp] theorem isStr_26 : isStr env.P 26 = false := by kernel_rfl
@[simp] theorem tzero_26 : tzero env.P 26 = (some (.agg [(a8 0), (a32 0), (.v (.int .i64 0)), (.v (.int .i64 0)), (.v (.int .i64 0))])) := by kernel_rfl
@[simp] theorem tbytes_26 : tbytes env.P 26 = (some 32) := by kernel_rfl
@[simp] theorem apT_26 : apT env.P 26 = true := by kernel_rfl
@[simp] theorem leafT_26 : leafT env.P 26 = none := by kernel_rfl
@[simp] theorem eqTy_26 : eqTy env.P 26 = true := by kernel_rfl
@[simp] theorem fieldTys_26 : fieldTys env.P 26 = (some [24, 3, 3, 3]) := by kernel_rfl
@[simp] theorem isBool_26 : isBool env.P 26 = false := by kernel_rfl
@[simp] theorem plain_26 : plain env.P 20 26 = true := by kernel_rfl
@[simp] theorem isInt_26 : isInt env.P 26 = false := by kernel_rfl
@[simp] theorem intKind_26 : intKind env.P 26 = none := by kernel_rfl
@[simp] theorem isBys_26 : isByteSlice env.P 26 = false := by kernel_rfl
@[simp] theorem undS_26 : (env.P.underlying 26).isNone = false := by kernel_rfl
@[simp] theorem places_26 : placesOf env.P 26 = (some [(0, 2), (2, 1), (3, 1), (4, 1)]) := by kernel_rfl
@[simp] theorem tfield_0_26 : tfield env.P 26 0 = (some (0, 24)) := by kernel_rfl
@[simp] theorem fplace_0_26 : fieldPlaces env.P 26 0 = (some (0, 2)) := by kernel_rfl
@[simp] theorem tfield_1_26 : tfield env.P 26 1 = (some (2, 3)) := by kernel_rfl
@[simp] theorem fplace_1_26 : fieldPlaces env.P 26 1 = (some (2, 1)) := by kernel_rfl
@[simp] theorem tfield_2_26 : tfield env.P 26 2 = (some (3, 3)) := by kernel_rfl
@[simp] theorem fplace_2_26 : fieldPlaces env.P 26 2 = (some (3, 1)) := by kernel_rfl
@[simp] theorem tfield_3_26 : tfield env.P 26 3 = (some (4, 3)) := by kernel_rfl
@[simp] theorem fplace_3_26 : fieldPlaces env.P 26 3 = (some (4, 1)) := by kernel_rfl
@[simp] theorem tsize_27 : tsize env.P 27 = (some 1) := by kernel_rfl
@[simp] theorem tagg_27 : tagg env.P 27 = (some false) := by kernel_rfl
@[simp] theorem telem_27 : telem env.P 27 = none := by kernel_rfl
@[simp] theorem tarr_27 : tarr env.P 27 = none := by kernel_rfl
@[simp] theorem isStr_27 : isStr env.P 27 = false := by kernel_rfl
@[simp] theorem tzero_27 : tzero env.P 27 = (some (.v (.int .i64 0))) := by kernel_rfl
@[simp] theorem tbytes_27 : tbytes env.P 27 = (some 8) := by kernel_rfl
@[simp] theorem apT_27 : apT env.P 27 = false := by kernel_rfl
@[simp] theorem leafT_27 : leafT env.P 27 = (some 1) := by kernel_rfl
@[simp] theorem fieldTys_27 : fieldTys env.P 27 = none := by kernel_rfl
@[simp] theorem isBool_27 : isBool env.P 27 = false := by kernel_rfl
@[simp] theorem plain_27 : plain env.P 20 27 = true := by kernel_rfl
@[simp] theorem isInt_27 : isInt env.P 27 = true := by kernel_rfl
@[simp] theorem intKind_27 : intKind env.P 27 = (some .i64) := by kernel_rfl
@[simp] theorem isBys_27 : isByteSlice env.P 27 = false := by kernel_rfl
@[simp] theorem undS_27 : (env.P.underlying 27).isNone = false := by kernel_rfl
@[simp] theorem tsize_28 : tsize env.P 28 = (some 1) := by kernel_rfl
@[simp] theorem tagg_28 : tagg env.P 28 = (some false) := by kernel_rfl
@[simp] theorem telem_28 : telem env.P 28 = none := by kernel_rfl
@[simp] theorem tarr_28 : tarr env.P 28 = none := by kernel_rfl
@[simp] theorem isStr_28 : isStr env.P 28 = false := by kernel_rfl
@[simp] theorem tbytes_28 : tbytes env.P 28 = (some 0) := by kernel_rfl
@[simp] theorem apT_28 : apT env.P 28 = true := by kernel_rfl
@[simp] theorem leafT_28 : leafT env.P 28 = none := by kernel_rfl
@[simp] theorem fieldTys_28 : fieldTys env.P 28 = none := by kernel_rfl
@[simp] theorem isBool_28 : isBool env.P 28 = false := by kernel_rfl
@[simp] theorem plain_28 : plain env.P 20 28 = false := by kernel_rfl
@[simp] theorem isInt_28 : isInt env.P 28 = false := by kernel_rfl
@[simp] theorem intKind_28 : intKind env.P 28 = none := by kernel_rfl
@[simp] theorem isBys_28 : isByteSlice env.P 28 = false := by kernel_rfl
@[simp] theorem undS_28 : (env.P.underlying 28).isNone = false := by kernel_rfl
@[simp] theorem tsize_30 : tsize env.P 30 = (some 1) := by kernel_rfl
@[simp] theorem tagg_30 : tagg env.P 30 = (some false) := by kernel_rfl
@[simp] theorem telem_30 : telem env.P 30 = (some 39) := by kernel_rfl
@[simp] theorem tarr_30 : tarr env.P 30 = none := by kernel_rfl
@[simp] theorem isStr_30 : isStr env.P 30 = false := by kernel_rfl
@[simp] theorem tzero_30 : tzero env.P 30 = (some (.v (.slice none 0 0))) := by kernel_rfl
@[simp] theorem tbytes_30 : tbytes env.P 30 = (some 24) := by kernel_rfl
@[simp] theorem apT_30 : apT env.P 30 = true := by kernel_rfl
@[simp] theorem leafT_30 : leafT env.P 30 = none := by kernel_rfl
@[simp] theorem fieldTys_30 : fieldTys env.P 30 = none := by kernel_rfl
@[simp] theorem isBool_30 : isBool env.P 30 = false := by kernel_rfl
@[simp] theorem plain_30 : plain env.P 20 30 = true := by kernel_rfl
@[simp] theorem elT_30 : elT env.P 30 3 12 = true := by kernel_rfl
@[simp] theorem elOk_30 : elOk env.P 30 = true := by kernel_rfl
@[simp] theorem elZ_30 : elZ env.P 30 = 3 := by kernel_rfl
@[simp] theorem elBy_30 : elBy env.P 30 = 12 := by kernel_rfl
@[simp] theorem elZero_30 : elZero env.P 30 = (.agg [(a8 0), (a32 0), (.v (.bool false))]) := by kernel_rfl
@[simp] theorem isInt_30 : isInt env.P 30 = false := by kernel_rfl
@[simp] theorem intKind_30 : intKind env.P 30 = none := by kernel_rfl
@[simp] theorem isBys_30 : isByteSlice env.P 30 = false := by kernel_rfl
@[simp] theorem undS_30 : (env.P.underlying 30).isNone = false := by kernel_rfl
@[simp] theorem tsize_31 : tsize env.P 31 = (some 1) := by kernel_rfl
@[simp] theorem tagg_31 : tagg env.P 31 = (some false) := by kernel_rfl
@[simp] theorem telem_31 : telem env.P 31 = (some 26) := by kernel_rfl
@[simp] theorem tarr_31 : tarr env.P 31 = none := by kernel_rfl
@[simp] theorem isStr_31 : isStr env.P 31 = false := by kernel_rfl
@[simp] theorem tzero_31 : tzero env.P 31 = (some (.v (.slice none 0 0))) := by kernel_rfl
@[simp] theorem tbytes_31 : tbytes env.P 31 = (some 24) := by kernel_rfl
@[simp] theorem apT_31 : apT env.P 31 = true := by kernel_rfl
@[simp] theorem leafT_31 : leafT env.P 31 = none := by kernel_rfl
@[simp] theorem fieldTys_31 : fieldTys env.P 31 = none := by kernel_rfl
@[simp] theorem isBool_31 : isBool env.P 31 = false := by kernel_rfl
@[simp] theorem plain_31 : plain env.P 20 31 = true := by kernel_rfl
@[simp] theorem elT_31 : elT env.P 31 5 32 = true := by kernel_rfl
@[simp] theorem elOk_31 : elOk env.P 31 = true := by kernel_rfl
@[simp] theorem elZ_31 : elZ env.P 31 = 5 := by kernel_rfl
@[simp] theorem elBy_31 : elBy env.P 31 = 32 := by kernel_rfl
@[simp] theorem elZero_31 : elZero env.P 31 = (.agg [(a8 0), (a32 0), (.v (.int .i64 0)), (.v (.int .i64 0)), (.v (.int .i64 0))]) := by kernel_rfl
@[simp] theorem isInt_31 : isInt env.P 31 = false := by kernel_rfl
@[simp] theorem intKind_31 : intKind env.P 31 = none := by kernel_rfl
@[simp] theorem isBys_31 : isByteSlice env.P 31 = false := by kernel_rfl
@[simp] theorem undS_31 : (env.P.underlying 31).isNone = false := by kernel_rfl
@[simp] theorem tsize_33 : tsize env.P 33 = (some 3) := by kernel_rfl
@[simp] theorem tagg_33 : tagg env.P 33 = (some true) := by kernel_rfl
@[simp] theorem telem_33 : telem env.P 33 = none := by kernel_rfl
@[simp] theorem tarr_33 : tarr env.P 33 = none := by kernel_rfl
@[simp] theorem isStr_33 : isStr env.P 33 = false := by kernel_rfl
@[simp] theorem tzero_33 : tzero env.P 33 = (some (.agg [(.v (.slice none 0 0)), (.v (.slice none 0 0)), (.v (.int .i64 0))])) := by kernel_rfl
@[simp] theorem tbytes_33 : tbytes env.P 33 = (some 56) := by kernel_rfl
@[simp] theorem apT_33 : apT env.P 33 = true := by kernel_rfl
@[simp] theorem leafT_33 : leafT env.P 33 = none := by kernel_rfl
@[simp] theorem fieldTys_33 : fieldTys env.P 33 = (some [30, 31, 3]) := by kernel_rfl
@[simp] theorem isBool_33 : isBool env.P 33 = false := by kernel_rfl
@[simp] theorem plain_33 : plain env.P 20 33 = true := by kernel_rfl
@[simp] theorem isInt_33 : isInt env.P 33 = false := by kernel_rfl
@[simp] theorem intKind_33 : intKind env.P 33 = none := by kernel_rfl
@[simp] theorem isBys_33 : isByteSlice env.P 33 = false := by kernel_rfl
@[simp] theorem undS_33 : (env.P.underlying 33).isNone = false := by kernel_rfl
@[simp] theorem places_33 : placesOf env.P 33 = (some [(0, 1), (1, 1), (2, 1)]) := by kernel_rfl
@[simp] theorem tfield_0_33 : tfield env.P 33 0 = (some (0, 30)) := by kernel_rfl
@[simp] theorem fplace_0_33 : fieldPlaces env.P 33 0 = (some (0, 1)) := by kernel_rfl
@[simp] theorem tfield_1_33 : tfield env.P 33 1 = (some (1, 31)) := by kernel_rfl
@[simp] theorem fplace_1_33 : fieldPlaces env.P 33 1 = (some (1, 1)) := by kernel_rfl
@[simp] theorem tfield_2_33 : tfield env.P 33 2 = (some (2, 3)) := by kernel_rfl
@[simp] theorem fplace_2_33 : fieldPlaces env.P 33 2 = (some (2, 1)) := by kernel_rfl
@[simp] theorem tsize_36 : tsize env.P 36 = (some 1) := by kernel_rfl
@[simp] theorem tagg_36 : tagg env.P 36 = (some false) := by kernel_rfl
@[simp] theorem telem_36 : telem env.P 36 = none := by kernel_rfl
@[simp] theorem tarr_36 : tarr env.P 36 = none := by kernel_rfl
@[simp] theorem isStr_36 : isStr env.P 36 = false := by kernel_rfl
@[simp] theorem tzero_36 : tzero env.P 36 = (some (.tup [(.v (.bool false)), (.v (.int .i64 0))])) := by kernel_rfl
@[simp] theorem tbytes_36 : tbytes env.P 36 = (some 0) := by kernel_rfl
@[simp] theorem apT_36 : apT env.P 36 = true := by kernel_rfl
@[simp] theorem leafT_36 : leafT env.P 36 = none := by kernel_rfl
@[simp] theorem fieldTys_36 : fieldTys env.P 36 = none := by kernel_rfl
@[simp] theorem isBool_36 : isBool env.P 36 = false := by kernel_rfl
@[simp] theorem plain_36 : plain env.P 20 36 = false := by kernel_rfl
@[simp] theorem isInt_36 : isInt env.P 36 = false := by kernel_rfl
@[simp] theorem intKind_36 : intKind env.P 36 = none := by kernel_rfl
@[simp] theorem isBys_36 : isByteSlice env.P 36 = false := by kernel_rfl
@[simp] theorem undS_36 : (env.P.underlying 36).isNone = false := by kernel_rfl
@[simp] theorem tsize_39 : tsize env.P 39 = (some 3) := by kernel_rfl
@[simp] theorem tagg_39 : tagg env.P 39 = (some true) := by kernel_rfl
@[simp] theorem telem_39 : telem env.P 39 = none := by kernel_rfl
@[simp] theorem tarr_39 : tarr env.P 39 = none := by kernel_rfl
@[simp] theorem isStr_39 : isStr env.P 39 = false := by kernel_rfl
@[simp] theorem tzero_39 : tzero env.P 39 = (some (.agg [(a8 0), (a32 0), (.v (.bool false))])) := by kernel_rfl
@[simp] theorem tbytes_39 : tbytes env.P 39 = (some 12) := by kernel_rfl
@[simp] theorem apT_39 : apT env.P 39 = true := by kernel_rfl
@[simp] theorem leafT_39 : leafT env.P 39 = none := by kernel_rfl
@[simp] theorem eqTy_39 : eqTy env.P 39 = true := by kernel_rfl
@[simp] theorem fieldTys_39 : fieldTys env.P 39 = (some [24, 4]) := by kernel_rfl
@[simp] theorem isBool_39 : isBool env.P 39 = false := by kernel_rfl
@[simp] theorem plain_39 : plain env.P 20 39 = true := by kernel_rfl
@[simp] theorem isInt_39 : isInt env.P 39 = false := by kernel_rfl
@[simp] theorem intKind_39 : intKind env.P 39 = none := by kernel_rfl
@[simp] theorem isBys_39 : isByteSlice env.P 39 = false := by kernel_rfl
@[simp] theorem undS_39 : (env.P.underlying 39).isNone = false := by kernel_rfl
@[simp] theorem places_39 : placesOf env.P 39 = (some [(0, 2), (2, 1)]) := by kernel_rfl
@[simp] theorem tfield_0_39 : tfield env.P 39 0 = (some (0, 24)) := by kernel_rfl
@[simp] theorem fplace_0_39 : fieldPlaces env.P 39 0 = (some (0, 2)) := by kernel_rfl
@[simp] theorem tfield_1_39 : tfield env.P 39 1 = (some (2, 4)) := by kernel_rfl
@[simp] theorem fplace_1_39 : fieldPlaces env.P 39 1 = (some (2, 1)) := by kernel_rfl
@[simp] theorem tsize_47 : tsize env.P 47 = (some 1) := by kernel_rfl
@[simp] theorem tagg_47 : tagg env.P 47 = (some false) := by kernel_rfl
@[simp] theorem telem_47 : telem env.P 47 = none := by kernel_rfl
@[simp] theorem tarr_47 : tarr env.P 47 = none := by kernel_rfl
@[simp] theorem isStr_47 : isStr env.P 47 = false := by kernel_rfl
@[simp] theorem tzero_47 : tzero env.P 47 = (some (.tup [(.v (.int .i64 0)), (.v (.int .i64 0))])) := by kernel_rfl
@[simp] theorem tbytes_47 : tbytes env.P 47 = (some 0) := by kernel_rfl
@[simp] theorem apT_47 : apT env.P 47 = true := by kernel_rfl
@[simp] theorem leafT_47 : leafT env.P 47 = none := by kernel_rfl
@[simp] theorem fieldTys_47 : fieldTys env.P 47 = none := by kernel_rfl
@[simp] theorem isBool_47 : isBool env.P 47 = false := by kernel_rfl
@[simp] theorem plain_47 : plain env.P 20 47 = false := by kernel_rfl
@[simp] theorem isInt_47 : isInt env.P 47 = false := by kernel_rfl
@[simp] theorem intKind_47 : intKind env.P 47 = none := by kernel_rfl
@[simp] theorem isBys_47 : isByteSlice env.P 47 = false := by kernel_rfl
@[simp] theorem undS_47 : (env.P.underlying 47).isNone = false := by kernel_rfl
@[simp] theorem tsize_49 : tsize env.P 49 = (some 1) := by kernel_rfl
@[simp] theorem tagg_49 : tagg env.P 49 = (some false) := by kernel_rfl
@[simp] theorem telem_49 : telem env.P 49 = none := by kernel_rfl
@[simp] theorem tarr_49 : tarr env.P 49 = none := by kernel_rfl
@[simp] theorem isStr_49 : isStr env.P 49 = false := by kernel_rfl
@[simp] theorem tzero_49 : tzero env.P 49 = (some (.tup [(.v (.int .i64 0)), (.v (.int .i64 0))])) := by kernel_rfl
@[simp] theorem tbytes_49 : tbytes env.P 49 = (some 0) := by kernel_rfl
@[simp] theorem apT_49 : apT env.P 49 = true := by kernel_rfl
@[simp] theorem leafT_49 : leafT env.P 49 = none := by kernel_rfl
@[simp] theorem fieldTys_49 : fieldTys env.P 49 = none := by kernel_rfl
@[simp] theorem isBool_49 : isBool env.P 49 = false := by kernel_rfl
@[simp] theorem plain_49 : plain env.P 20 49 = false := by kernel_rfl
@[simp] theorem isInt_49 : isInt env.P 49 = false := by kernel_rfl
@[simp] theorem intKind_49 : intKind env.P 49 = none := by kernel_rfl
@[simp] theorem isBys_49 : isByteSlice env.P 49 = false := by kernel_rfl
@[simp] theorem undS_49 : (env.P.underlying 49).isNone = false := by kernel_rfl
@[simp] theorem tsize_51 : tsize env.P 51 = (some 1) := by kernel_rfl
@[simp] theorem tagg_51 : tagg env.P 51 = (some false) := by kernel_rfl
@[simp] theorem telem_51 : telem env.P 51 = none := by kernel_rfl
@[simp] theorem tarr_51 : tarr env.P 51 = none := by kernel_rfl
@[simp] theorem isStr_51 : isStr env.P 51 = false := by kernel_rfl
@[simp] theorem tzero_51 : tzero env.P 51 = (some (.tup [(.v (.bool false)), (.v (.int .i64 0))])) := by kernel_rfl
@[simp] theorem tbytes_51 : tbytes env.P 51 = (some 0) := by kernel_rfl
@[simp] theorem apT_51 : apT env.P 51 = true := by kernel_rfl
@[simp] theorem leafT_51 : leafT env.P 51 = none := by kernel_rfl
@[simp] theorem fieldTys_51 : fieldTys env.P 51 = none := by kernel_rfl
@[simp] theorem isBool_51 : isBool env.P 51 = false := by kernel_rfl
@[simp] theorem plain_51 : plain env.P 20 51 = false := by kernel_rfl
@[simp] theorem isInt_51 : isInt env.P 51 = false := by kernel_rfl
@[simp] theorem intKind_51 : intKind env.P 51 = none := by kernel_rfl
@[simp] theorem isBys_51 : isByteSlice env.P 51 = false := by kernel_rfl
@[simp] theorem undS_51 : (env.P.underlying 51).isNone = false := by kernel_rfl
@[simp] theorem tsize_53 : tsize env.P 53 = (some 1) := by kernel_rfl
@[simp] theorem tagg_53 : tagg env.P 53 = (some false) := by kernel_rfl
@[simp] theorem telem_53 : telem env.P 53 = none := by kernel_rfl
@[simp] theorem tarr_53 : tarr env.P 53 = none := by kernel_rfl
@[simp] theorem isStr_53 : isStr env.P 53 = false := by kernel_rfl
@[simp] theorem tbytes_53 : tbytes env.P 53 = (some 0) := by kernel_rfl
@[simp] theorem apT_53 : apT env.P 53 = true := by kernel_rfl
@[simp] theorem leafT_53 : leafT env.P 53 = none := by kernel_rfl
@[simp] theorem fieldTys_53 : fieldTys env.P 53 = none := by kernel_rfl
@[simp] theorem isBool_53 : isBool env.P 53 = false := by kernel_rfl
@[simp] theorem plain_53 : plain env.P 20 53 = false := by kernel_rfl
@[simp] theorem isInt_53 : isInt env.P 53 = false := by kernel_rfl
@[simp] theorem intKind_53 : intKind env.P 53 = none := by kernel_rfl
@[simp] theorem isBys_53 : isByteSlice env.P 53 = false := by kernel_rfl
@[simp] theorem undS_53 : (env.P.underlying 53).isNone = false := by kernel_rfl
@[simp] theorem tsize_59 : tsize env.P 59 = (some 4) := by kernel_rfl
@[simp] theorem tagg_59 : tagg env.P 59 = (some true) := by kernel_rfl
@[simp] theorem telem_59 : telem env.P 59 = none := by kernel_rfl
@[simp] theorem tarr_59 : tarr env.P 59 = none := by kernel_rfl
@[simp] theorem isStr_59 : isStr env.P 59 = false := by kernel_rfl
@[simp] theorem tzero_59 : tzero env.P 59 = (some (.agg [(.v (.int .i64 0)), (a8 0), (a32 0), (.v (.bool false))])) := by kernel_rfl
@[simp] theorem tbytes_59 : tbytes env.P 59 = (some 24) := by kernel_rfl
@[simp] theorem apT_59 : apT env.P 59 = true := by kernel_rfl
@[simp] theorem leafT_59 : leafT env.P 59 = none := by kernel_rfl
@[simp] theorem eqTy_59 : eqTy env.P 59 = true := by kernel_rfl
@[simp] theorem fieldTys_59 : fieldTys env.P 59 = (some [3, 39]) := by kernel_rfl
@[simp] theorem isBool_59 : isBool env.P 59 = false := by kernel_rfl
@[simp] theorem plain_59 : plain env.P 20 59 = true := by kernel_rfl
@[simp] theorem isInt_59 : isInt env.P 59 = false := by kernel_rfl
@[simp] theorem intKind_59 : intKind env.P 59 = none := by kernel_rfl
@[simp] theorem isBys_59 : isByteSlice env.P 59 = false := by kernel_rfl
@[simp] theorem undS_59 : (env.P.underlying 59).isNone = false := by kernel_rfl
@[simp] theorem places_59 : placesOf env.P 59 = (some [(0, 1), (1, 3)]) := by kernel_rfl
@[simp] theorem tfield_0_59 : tfield env.P 59 0 = (some (0, 3)) := by kernel_rfl
@[simp] theorem fplace_0_59 : fieldPlaces env.P 59 0 = (some (0, 1)) := by kernel_rfl
@[simp] theorem tfield_1_59 : tfield env.P 59 1 = (some (1, 39)) := by kernel_rfl
@[simp] theorem fplace_1_59 : fieldPlaces env.P 59 1 = (some (1, 3)) := by kernel_rfl
@[simp] theorem tsize_60 : tsize env.P 60 = (some 1) := by kernel_rfl
@[simp] theorem tagg_60 : tagg env.P 60 = (some false) := by kernel_rfl
@[simp] theorem telem_60 : telem env.P 60 = (some 5) := by kernel_rfl
@[simp] theorem tarr_60 : tarr env.P 60 = none := by kernel_rfl
@[simp] theorem isStr_60 : isStr env.P 60 = false := by kernel_rfl
@[simp] theorem tzero_60 : tzero env.P 60 = (some (.v (.slice none 0 0))) := by kernel_rfl
@[simp] theorem tbytes_60 : tbytes env.P 60 = (some 24) := by kernel_rfl
@[simp] theorem apT_60 : apT env.P 60 = true := by kernel_rfl
@[simp] theorem leafT_60 : leafT env.P 60 = none := by kernel_rfl
@[simp] theorem fieldTys_60 : fieldTys env.P 60 = none := by kernel_rfl
@[simp] theorem isBool_60 : isBool env.P 60 = false := by kernel_rfl
@[simp] theorem plain_60 : plain env.P 20 60 = true := by kernel_rfl
@[simp] theorem elT_60 : elT env.P 60 1 1 = true := by kernel_rfl
@[simp] theorem elOk_60 : elOk env.P 60 = true := by kernel_rfl
@[simp] theorem elZ_60 : elZ env.P 60 = 1 := by kernel_rfl
@[simp] theorem elBy_60 : elBy env.P 60 = 1 := by kernel_rfl
@[simp] theorem elZero_60 : elZero env.P 60 = (a8 0) := by kernel_rfl
@[simp] theorem isInt_60 : isInt env.P 60 = false := by kernel_rfl
@[simp] theorem intKind_60 : intKind env.P 60 = none := by kernel_rfl
@[simp] theorem isBys_60 : isByteSlice env.P 60 = true := by kernel_rfl
@[simp] theorem undS_60 : (env.P.underlying 60).isNone = false := by kernel_rfl
@[simp] theorem tsize_61 : tsize env.P 61 = (some 1) := by kernel_rfl
@[simp] theorem tagg_61 : tagg env.P 61 = (some false) := by kernel_rfl
@[simp] theorem telem_61 : telem env.P 61 = none := by kernel_rfl
@[simp] theorem tarr_61 : tarr env.P 61 = none := by kernel_rfl
@[simp] theorem isStr_61 : isStr env.P 61 = false := by kernel_rfl
@[simp] theorem tzero_61 : tzero env.P 61 = (some (.tup [(.v (.slice none 0 0)), (.v (.int .i64 0))])) := by kernel_rfl
@[simp] theorem tbytes_61 : tbytes env.P 61 = (some 0) := by kernel_rfl
@[simp] theorem apT_61 : apT env.P 61 = true := by kernel_rfl
@[simp] theorem leafT_61 : leafT env.P 61 = none := by kernel_rfl
@[simp] theorem fieldTys_61 : fieldTys env.P 61 = none := by kernel_rfl
@[simp] theorem isBool_61 : isBool env.P 61 = false := by kernel_rfl
@[simp] theorem plain_61 : plain env.P 20 61 = false := by kernel_rfl
@[simp] theorem isInt_61 : isInt env.P 61 = false := by kernel_rfl
@[simp] theorem intKind_61 : intKind env.P 61 = none := by kernel_rfl
@[simp] theorem isBys_61 : isByteSlice env.P 61 = false := by kernel_rfl
@[simp] theorem undS_61 : (env.P.underlying 61).isNone = false := by kernel_rfl
@[simp] theorem tsize_63 : tsize env.P 63 = (some 1) := by kernel_rfl
@[simp] theorem tagg_63 : tagg env.P 63 = (some false) := by kernel_rfl
@[simp] theorem telem_63 : telem env.P 63 = none := by kernel_rfl
@[simp] theorem tarr_63 : tarr env.P 63 = none := by kernel_rfl
@[simp] theorem isStr_63 : isStr env.P 63 = false := by kernel_rfl
@[simp] theorem tzero_63 : tzero env.P 63 = (some (.tup [(.v (.slice none 0 0)), (.v (.int .i64 0))])) := by kernel_rfl
@[simp] theorem tbytes_63 : tbytes env.P 63 = (some 0) := by kernel_rfl
@[simp] theorem apT_63 : apT env.P 63 = true := by kernel_rfl
@[simp] theorem leafT_63 : leafT env.P 63 = none := by kernel_rfl
@[simp] theorem fieldTys_63 : fieldTys env.P 63 = none := by kernel_rfl
@[simp] theorem isBool_63 : isBool env.P 63 = false := by kernel_rfl
@[simp] theorem plain_63 : plain env.P 20 63 = false := by kernel_rfl
@[simp] theorem isInt_63 : isInt env.P 63 = false := by kernel_rfl
@[simp] theorem intKind_63 : intKind env.P 63 = none := by kernel_rfl
@[simp] theorem isBys_63 : isByteSlice env.P 63 = false := by kernel_rfl
@[simp] theorem undS_63 : (env.P.underlying 63).isNone = false := by kernel_rfl
@[simp] theorem tsize_65 : tsize env.P 65 = (some 1) := by kernel_rfl
@[simp] theorem tagg_65 : tagg env.P 65 = (some false) := by kernel_rfl
@[simp] theorem telem_65 : telem env.P 65 = none := by kernel_rfl
@[simp] theorem tarr_65 : tarr env.P 65 = none := by kernel_rfl
@[simp] theorem isStr_65 : isStr env.P 65 = false := by kernel_rfl
@[simp] theorem tbytes_65 : tbytes env.P 65 = (some 0) := by kernel_rfl
@[simp] theorem apT_65 : apT env.P 65 = true := by kernel_rfl
@[simp] theorem leafT_65 : leafT env.P 65 = none := by kernel_rfl
@[simp] theorem fieldTys_65 : fieldTys env.P 65 = none := by kernel_rfl
@[simp] theorem isBool_65 : isBool env.P 65 = false := by kernel_rfl
@[simp] theorem plain_65 : plain env.P 20 65 = false := by kernel_rfl
@[simp] theorem isInt_65 : isInt env.P 65 = false := by kernel_rfl
@[simp] theorem intKind_65 : intKind env.P 65 = none := by kernel_rfl
@[simp] theorem isBys_65 : isByteSlice env.P 65 = false := by kernel_rfl
@[simp] theorem undS_65 : (env.P.underlying 65).isNone = false := by kernel_rfl
@[simp] theorem tsize_67 : tsize env.P 67 = (some 1) := by kernel_rfl
@[simp] theorem tagg_67 : tagg env.P 67 = (some false) := by kernel_rfl
@[simp] theorem telem_67 : telem env.P 67 = none := by kernel_rfl
@[simp] theorem tarr_67 : tarr env.P 67 = none := by kernel_rfl
@[simp] theorem isStr_67 : isStr env.P 67 = false := by kernel_rfl
@[simp] theorem tbytes_67 : tbytes env.P 67 = (some 0) := by kernel_rfl
@[simp] theorem apT_67 : apT env.P 67 = true := by kernel_rfl
@[simp] theorem leafT_67 : leafT env.P 67 = none := by kernel_rfl
@[simp] theorem fieldTys_67 : fieldTys env.P 67 = none := by kernel_rfl
@[simp] theorem isBool_67 : isBool env.P 67 = false := by kernel_rfl
@[simp] theorem plain_67 : plain env.P 20 67 = false := by kernel_rfl
@[simp] theorem isInt_67 : isInt env.P 67 = false := by kernel_rfl
@[simp] theorem intKind_67 : intKind env.P 67 = none := by kernel_rfl
@[simp] theorem isBys_67 : isByteSlice env.P 67 = false := by kernel_rfl
@[simp] theorem undS_67 : (env.P.underlying 67).isNone = false := by kernel_rfl
@[simp] theorem tsize_70 : tsize env.P 70 = (some 1) := by kernel_rfl
@[simp] theorem tagg_70 : tagg env.P 70 = (some false) := by kernel_rfl
@[simp] theorem telem_70 : telem env.P 70 = (some 59) := by kernel_rfl
@[simp] theorem tarr_70 : tarr env.P 70 = none := by kernel_rfl
@[simp] theorem isStr_70 : isStr env.P 70 = false := by kernel_rfl
@[simp] theorem tzero_70 : tzero env.P 70 = (some (.v (.slice none 0 0))) := by kernel_rfl
@[simp] theorem tbytes_70 : tbytes env.P 70 = (some 24) := by kernel_rfl
@[simp] theorem apT_70 : apT env.P 70 = true := by kernel_rfl
@[simp] theorem leafT_70 : leafT env.P 70 = none := by kernel_rfl
@[simp] theorem fieldTys_70 : fieldTys env.P 70 = none := by kernel_rfl
@[simp] theorem isBool_70 : isBool env.P 70 = false := by kernel_rfl
@[simp] theorem plain_70 : plain env.P 20 70 = true := by kernel_rfl
@[simp] theorem elT_70 : elT env.P 70 4 24 = true := by kernel_rfl
@[simp] theorem elOk_70 : elOk env.P 70 = true := by kernel_rfl
@[simp] theorem elZ_70 : elZ env.P 70 = 4 := by kernel_rfl
@[simp] theorem elBy_70 : elBy env.P 70 = 24 := by kernel_rfl
@[simp] theorem elZero_70 : elZero env.P 70 = (.agg [(.v (.int .i64 0)), (a8 0), (a32 0), (.v (.bool false))]) := by kernel_rfl
@[simp] theorem isInt_70 : isInt env.P 70 = false := by kernel_rfl
@[simp] theorem intKind_70 : intKind env.P 70 = none := by kernel_rfl
@[simp] theorem isBys_70 : isByteSlice env.P 70 = false := by kernel_rfl
@[simp] theorem undS_70 : (env.P.underlying 70).isNone = false := by kernel_rfl
@[simp] theorem tsize_71 : tsize env.P 71 = (some 1) := by kernel_rfl
@[simp] theorem tagg_71 : tagg env.P 71 = (some false) := by kernel_rfl
@[simp] theorem telem_71 : telem env.P 71 = none := by kernel_rfl
@[simp] theorem tarr_71 : tarr env.P 71 = none := by kernel_rfl
@[simp] theorem isStr_71 : isStr env.P 71 = false := by kernel_rfl
@[simp] theorem tbytes_71 : tbytes env.P 71 = (some 0) := by kernel_rfl
@[simp] theorem apT_71 : apT env.P 71 = true := by kernel_rfl
@[simp] theorem leafT_71 : leafT env.P 71 = none := by kernel_rfl
@[simp] theorem fieldTys_71 : fieldTys env.P 71 = none := by kernel_rfl
@[simp] theorem isBool_71 : isBool env.P 71 = false := by kernel_rfl
@[simp] theorem plain_71 : plain env.P 20 71 = false := by kernel_rfl
@[simp] theorem isInt_71 : isInt env.P 71 = false := by kernel_rfl
@[simp] theorem intKind_71 : intKind env.P 71 = none := by kernel_rfl
@[simp] theorem isBys_71 : isByteSlice env.P 71 = false := by kernel_rfl
@[simp] theorem undS_71 : (env.P.underlying 71).isNone = false := by kernel_rfl
@[simp] theorem tsize_73 : tsize env.P 73 = (some 1) := by kernel_rfl
@[simp] theorem tagg_73 : tagg env.P 73 = (some false) := by kernel_rfl
@[simp] theorem telem_73 : telem env.P 73 = none := by kernel_rfl
@[simp] theorem tarr_73 : tarr env.P 73 = none := by kernel_rfl
@[simp] theorem isStr_73 : isStr env.P 73 = false := by kernel_rfl
@[simp] theorem tbytes_73 : tbytes env.P 73 = (some 0) := by kernel_rfl
@[simp] theorem apT_73 : apT env.P 73 = true := by kernel_rfl
@[simp] theorem leafT_73 : leafT env.P 73 = none := by kernel_rfl
@[simp] theorem fieldTys_73 : fieldTys env.P 73 = none := by kernel_rfl
@[simp] theorem isBool_73 : isBool env.P 73 = false := by kernel_rfl
@[simp] theorem plain_73 : plain env.P 20 73 = false := by kernel_rfl
@[simp] theorem isInt_73 : isInt env.P 73 = false := by kernel_rfl
@[simp] theorem intKind_73 : intKind env.P 73 = none := by kernel_rfl
@[simp] theorem isBys_73 : isByteSlice env.P 73 = false := by kernel_rfl
@[simp] theorem undS_73 : (env.P.underlying 73).isNone = false := by kernel_rfl
@[simp] theorem tsize_75 : tsize env.P 75 = (some 1) := by kernel_rfl
@[simp] theorem tagg_75 : tagg env.P 75 = (some false) := by kernel_rfl
@[simp] theorem telem_75 : telem env.P 75 = (some 27) := by kernel_rfl
@[simp] theorem tarr_75 : tarr env.P 75 = none := by kernel_rfl
@[simp] theorem isStr_75 : isStr env.P 75 = false := by kernel_rfl
@[simp] theorem tzero_75 : tzero env.P 75 = (some (.v (.slice none 0 0))) := by kernel_rfl
@[simp] theorem tbytes_75 : tbytes env.P 75 = (some 24) := by kernel_rfl
@[simp] theorem apT_75 : apT env.P 75 = true := by kernel_rfl
@[simp] theorem leafT_75 : leafT env.P 75 = none := by kernel_rfl
@[simp] theorem fieldTys_75 : fieldTys env.P 75 = none := by kernel_rfl
@[simp] theorem isBool_75 : isBool env.P 75 = false := by kernel_rfl
@[simp] theorem plain_75 : plain env.P 20 75 = true := by kernel_rfl
@[simp] theorem elT_75 : elT env.P 75 1 8 = true := by kernel_rfl
@[simp] theorem elOk_75 : elOk env.P 75 = true := by kernel_rfl
@[simp] theorem elZ_75 : elZ env.P 75 = 1 := by kernel_rfl
@[simp] theorem elBy_75 : elBy env.P 75 = 8 := by kernel_rfl
@[simp] theorem elZero_75 : elZero env.P 75 = (.v (.int .i64 0)) := by kernel_rfl
@[simp] theorem isInt_75 : isInt env.P 75 = false := by kernel_rfl
@[simp] theorem intKind_75 : intKind env.P 75 = none := by kernel_rfl
@[simp] theorem isBys_75 : isByteSlice env.P 75 = false := by kernel_rfl
@[simp] theorem undS_75 : (env.P.underlying 75).isNone = false := by kernel_rfl
@[simp] theorem tsize_76 : tsize env.P 76 = (some 1) := by kernel_rfl
@[simp] theorem tagg_76 : tagg env.P 76 = (some false) := by kernel_rfl
@[simp] theorem telem_76 : telem env.P 76 = none := by kernel_rfl
@[simp] theorem tarr_76 : tarr env.P 76 = none := by kernel_rfl
@[simp] theorem isStr_76 : isStr env.P 76 = false := by kernel_rfl
@[simp] theorem tbytes_76 : tbytes env.P 76 = (some 0) := by kernel_rfl
@[simp] theorem apT_76 : apT env.P 76 = true := by kernel_rfl
@[simp] theorem leafT_76 : leafT env.P 76 = none := by kernel_rfl
@[simp] theorem fieldTys_76 : fieldTys env.P 76 = none := by kernel_rfl
@[simp] theorem isBool_76 : isBool env.P 76 = false := by kernel_rfl
@[simp] theorem plain_76 : plain env.P 20 76 = false := by kernel_rfl
@[simp] theorem isInt_76 : isInt env.P 76 = false := by kernel_rfl
@[simp] theorem intKind_76 : intKind env.P 76 = none := by kernel_rfl
@[simp] theorem isBys_76 : isByteSlice env.P 76 = false := by kernel_rfl
@[simp] theorem undS_76 : (env.P.underlying 76).isNone = false := by kernel_rfl
@[simp] theorem tsize_78 : tsize env.P 78 = (some 1) := by kernel_rfl
@[simp] theorem tagg_78 : tagg env.P 78 = (some false) := by kernel_rfl
@[simp] theorem telem_78 : telem env.P 78 = (some 3) := by kernel_rfl
@[simp] theorem tarr_78 : tarr env.P 78 = none := by kernel_rfl
@[simp] theorem isStr_78 : isStr env.P 78 = false := by kernel_rfl
@[simp] theorem tzero_78 : tzero env.P 78 = (some (.v (.slice none 0 0))) := by kernel_rfl
@[simp] theorem tbytes_78 : tbytes env.P 78 = (some 24) := by kernel_rfl
@[simp] theorem apT_78 : apT env.P 78 = true := by kernel_rfl
@[simp] theorem leafT_78 : leafT env.P 78 = none := by kernel_rfl
@[simp] theorem fieldTys_78 : fieldTys env.P 78 = none := by kernel_rfl
@[simp] theorem isBool_78 : isBool env.P 78 = false := by kernel_rfl
@[simp] theorem plain_78 : plain env.P 20 78 = true := by kernel_rfl
@[simp] theorem elT_78 : elT env.P 78 1 8 = true := by kernel_rfl
@[simp] theorem elOk_78 : elOk env.P 78 = true := by kernel_rfl
@[simp] theorem elZ_78 : elZ env.P 78 = 1 := by kernel_rfl
@[simp] theorem elBy_78 : elBy env.P 78 = 8 := by kernel_rfl
@[simp] theorem elZero_78 : elZero env.P 78 = (.v (.int .i64 0)) := by kernel_rfl
@[simp] theorem isInt_78 : isInt env.P 78 = false := by kernel_rfl
@[simp] theorem intKind_78 : intKind env.P 78 = none := by kernel_rfl
@[simp] theorem isBys_78 : isByteSlice env.P 78 = false := by kernel_rfl
@[simp] theorem undS_78 : (env.P.underlying 78).isNone = false := by kernel_rfl
@[simp] theorem tsize_79 : tsize env.P 79 = (some 1) := by kernel_rfl
@[simp] theorem tagg_79 : tagg env.P 79 = (some false) := by kernel_rfl
@[simp] theorem telem_79 : telem env.P 79 = none := by kernel_rfl
@[simp] theorem tarr_79 : tarr env.P 79 = none := by kernel_rfl
@[simp] theorem isStr_79 : isStr env.P 79 = false := by kernel_rfl
@[simp] theorem tbytes_79 : tbytes env.P 79 = (some 0) := by kernel_rfl
@[simp] theorem apT_79 : apT env.P 79 = true := by kernel_rfl
@[simp] theorem leafT_79 : leafT env.P 79 = none := by kernel_rfl
@[simp] theorem fieldTys_79 : fieldTys env.P 79 = none := by kernel_rfl
@[simp] theorem isBool_79 : isBool env.P 79 = false := by kernel_rfl
@[simp] theorem plain_79 : plain env.P 20 79 = false := by kernel_rfl
@[simp] theorem isInt_79 : isInt env.P 79 = false := by kernel_rfl
@[simp] theorem intKind_79 : intKind env.P 79 = none := by kernel_rfl
@[simp] theorem isBys_79 : isByteSlice env.P 79 = false := by kernel_rfl
@[simp] theorem undS_79 : (env.P.underlying 79).isNone = false := by kernel_rfl
@[simp] theorem tsize_87 : tsize env.P 87 = (some 1) := by kernel_rfl
@[simp] theorem tagg_87 : tagg env.P 87 = (some false) := by kernel_rfl
@[simp] theorem telem_87 : telem env.P 87 = none := by kernel_rfl
@[simp] theorem tarr_87 : tarr env.P 87 = none := by kernel_rfl
@[simp] theorem isStr_87 : isStr env.P 87 = false := by kernel_rfl
@[simp] theorem tbytes_87 : tbytes env.P 87 = (some 0) := by kernel_rfl
@[simp] theorem apT_87 : apT env.P 87 = true := by kernel_rfl
@[simp] theorem leafT_87 : leafT env.P 87 = none := by kernel_rfl
@[simp] theorem fieldTys_87 : fieldTys env.P 87 = none := by kernel_rfl
@[simp] theorem isBool_87 : isBool env.P 87 = false := by kernel_rfl
@[simp] theorem plain_87 : plain env.P 20 87 = false := by kernel_rfl
@[simp] theorem isInt_87 : isInt env.P 87 = false := by kernel_rfl
@[simp] theorem intKind_87 : intKind env.P 87 = none := by kernel_rfl
@[simp] theorem isBys_87 : isByteSlice env.P 87 = false := by kernel_rfl
@[simp] theorem undS_87 : (env.P.underlying 87).isNone = false := by kernel_rfl
@[simp] theorem tsize_89 : tsize env.P 89 = (some 1) := by kernel_rfl
@[simp] theorem tagg_89 : tagg env.P 89 = (some false) := by kernel_rfl
@[simp] theorem telem_89 : telem env.P 89 = none := by kernel_rfl
@[simp] theorem tarr_89 : tarr env.P 89 = none := by kernel_rfl
@[simp] theorem isStr_89 : isStr env.P 89 = false := by kernel_rfl
@[simp] theorem tzero_89 : tzero env.P 89 = (some (.v .nilFunc)) := by kernel_rfl
@[simp] theorem tbytes_89 : tbytes env.P 89 = (some 8) := by kernel_rfl
@[simp] theorem apT_89 : apT env.P 89 = true := by kernel_rfl
@[simp] theorem leafT_89 : leafT env.P 89 = none := by kernel_rfl
@[simp] theorem fieldTys_89 : fieldTys env.P 89 = none := by kernel_rfl
@[simp] theorem isBool_89 : isBool env.P 89 = false := by kernel_rfl
@[simp] theorem plain_89 : plain env.P 20 89 = false := by kernel_rfl
@[simp] theorem isInt_89 : isInt env.P 89 = false := by kernel_rfl
@[simp] theorem intKind_89 : intKind env.P 89 = none := by kernel_rfl
@[simp] theorem isBys_89 : isByteSlice env.P 89 = false := by kernel_rfl
@[simp] theorem undS_89 : (env.P.underlying 89).isNone = false := by kernel_rfl
@[simp] theorem tsize_104 : tsize env.P 104 = (some 3) := by kernel_rfl
@[simp] theorem tagg_104 : tagg env.P 104 = (some true) := by kernel_rfl
@[simp] theorem telem_104 : telem env.P 104 = none := by kernel_rfl
@[simp] theorem tarr_104 : tarr env.P 104 = none := by kernel_rfl
@[simp] theorem isStr_104 : isStr env.P 104 = false := by kernel_rfl
@[simp] theorem tzero_104 : tzero env.P 104 = (some (.agg [(a8 0), (a32 0), (a8 0)])) := by kernel_rfl
@[simp] theorem tbytes_104 : tbytes env.P 104 = (some 12) := by kernel_rfl
@[simp] theorem apT_104 : apT env.P 104 = true := by kernel_rfl
@[simp] theorem leafT_104 : leafT env.P 104 = none := by kernel_rfl
@[simp] theorem eqTy_104 : eqTy env.P 104 = true := by kernel_rfl
@[simp] theorem fieldTys_104 : fieldTys env.P 104 = (some [24, 5]) := by kernel_rfl
@[simp] theorem isBool_104 : isBool env.P 104 = false := by kernel_rfl
@[simp] theorem plain_104 : plain env.P 20 104 = true := by kernel_rfl
@[simp] theorem isInt_104 : isInt env.P 104 = false := by kernel_rfl
@[simp] theorem intKind_104 : intKind env.P 104 = none := by kernel_rfl
@[simp] theorem isBys_104 : isByteSlice env.P 104 = false := by kernel_rfl
@[simp] theorem undS_104 : (env.P.underlying 104).isNone = false := by kernel_rfl
@[simp] theorem places_104 : placesOf env.P 104 = (some [(0, 2), (2, 1)]) := by kernel_rfl
@[simp] theorem tfield_0_104 : tfield env.P 104 0 = (some (0, 24)) := by kernel_rfl
@[simp] theorem fplace_0_104 : fieldPlaces env.P 104 0 = (some (0, 2)) := by kernel_rfl
@[simp] theorem tfield_1_104 : tfield env.P 104 1 = (some (2, 5)) := by kernel_rfl
@[simp] theorem fplace_1_104 : fieldPlaces env.P 104 1 = (some (2, 1)) := by kernel_rfl
@[simp] theorem tsize_107 : tsize env.P 107 = (some 1) := by kernel_rfl
@[simp] theorem tagg_107 : tagg env.P 107 = (some false) := by kernel_rfl
@[simp] theorem telem_107 : telem env.P 107 = none := by kernel_rfl
@[simp] theorem tarr_107 : tarr env.P 107 = none := by kernel_rfl
@[simp] theorem isStr_107 : isStr env.P 107 = false := by kernel_rfl
@[simp] theorem tbytes_107 : tbytes env.P 107 = (some 0) := by kernel_rfl
@[simp] theorem apT_107 : apT env.P 107 = true := by kernel_rfl
@[simp] theorem leafT_107 : leafT env.P 107 = none := by kernel_rfl
@[simp] theorem fieldTys_107 : fieldTys env.P 107 = none := by kernel_rfl
@[simp] theorem isBool_107 : isBool env.P 107 = false := by kernel_rfl
@[simp] theorem plain_107 : plain env.P 20 107 = false := by kernel_rfl
@[simp] theorem isInt_107 : isInt env.P 107 = false := by kernel_rfl
@[simp] theorem intKind_107 : intKind env.P 107 = none := by kernel_rfl
@[simp] theorem isBys_107 : isByteSlice env.P 107 = false := by kernel_rfl
@[simp] theorem undS_107 : (env.P.underlying 107).isNone = false := by kernel_rfl
@[simp] theorem tsize_110 : tsize env.P 110 = (some 1) := by kernel_rfl
@[simp] theorem tagg_110 : tagg env.P 110 = (some false) := by kernel_rfl
@[simp] theorem telem_110 : telem env.P 110 = none := by kernel_rfl
@[simp] theorem tarr_110 : tarr env.P 110 = none := by kernel_rfl
@[simp] theorem isStr_110 : isStr env.P 110 = false := by kernel_rfl
@[simp] theorem tbytes_110 : tbytes env.P 110 = (some 0) := by kernel_rfl
@[simp] theorem apT_110 : apT env.P 110 = true := by kernel_rfl
@[simp] theorem leafT_110 : leafT env.P 110 = none := by kernel_rfl
@[simp] theorem fieldTys_110 : fieldTys env.P 110 = none := by kernel_rfl
@[simp] theorem isBool_110 : isBool env.P 110 = false := by kernel_rfl
@[simp] theorem plain_110 : plain env.P 20 110 = false := by kernel_rfl
@[simp] theorem isInt_110 : isInt env.P 110 = false := by kernel_rfl
@[simp] theorem intKind_110 : intKind env.P 110 = none := by kernel_rfl
@[simp] theorem isBys_110 : isByteSlice env.P 110 = false := by kernel_rfl
@[simp] theorem undS_110 : (env.P.underlying 110).isNone = false := by kernel_rfl
@[simp] theorem tsize_113 : tsize env.P 113 = (some 1) := by kernel_rfl
@[simp] theorem tagg_113 : tagg env.P 113 = (some false) := by kernel_rfl
@[simp] theorem telem_113 : telem env.P 113 = none := by kernel_rfl
@[simp] theorem tarr_113 : tarr env.P 113 = none := by kernel_rfl
@[simp] theorem isStr_113 : isStr env.P 113 = false := by kernel_rfl
@[simp] theorem tzero_113 : tzero env.P 113 = (some (.v .nilFunc)) := by kernel_rfl
@[simp] theorem tbytes_113 : tbytes env.P 113 = (some 8) := by kernel_rfl
@[simp] theorem apT_113 : apT env.P 113 = true := by kernel_rfl
@[simp] theorem leafT_113 : leafT env.P 113 = none := by kernel_rfl
@[simp] theorem fieldTys_113 : fieldTys env.P 113 = none := by kernel_rfl
@[simp] theorem isBool_113 : isBool env.P 113 = false := by kernel_rfl
@[simp] theorem plain_113 : plain env.P 20 113 = false := by kernel_rfl
@[simp] theorem isInt_113 : isInt env.P 113 = false := by kernel_rfl
@[simp] theorem intKind_113 : intKind env.P 113 = none := by kernel_rfl
@[simp] theorem isBys_113 : isByteSlice env.P 113 = false := by kernel_rfl
@[simp] theorem undS_113 : (env.P.underlying 113).isNone = false := by kernel_rfl
@[simp] theorem tsize_114 : tsize env.P 114 = (some 1) := by kernel_rfl
@[simp] theorem tagg_114 : tagg env.P 114 = (some false) := by kernel_rfl
@[simp] theorem telem_114 : telem env.P 114 = (some 4) := by kernel_rfl
@[simp] theorem tarr_114 : tarr env.P 114 = none := by kernel_rfl
@[simp] theorem isStr_114 : isStr env.P 114 = false := by kernel_rfl
@[simp] theorem tzero_114 : tzero env.P 114 = (some (.v (.slice none 0 0))) := by kernel_rfl
@[simp] theorem tbytes_114 : tbytes env.P 114 = (some 24) := by kernel_rfl
@[simp] theorem apT_114 : apT env.P 114 = true := by kernel_rfl
@[simp] theorem leafT_114 : leafT env.P 114 = none := by kernel_rfl
@[simp] theorem fieldTys_114 : fieldTys env.P 114 = none := by kernel_rfl
@[simp] theorem isBool_114 : isBool env.P 114 = false := by kernel_rfl
@[simp] theorem plain_114 : plain env.P 20 114 = true := by kernel_rfl
@[simp] theorem elT_114 : elT env.P 114 1 1 = true := by kernel_rfl
@[simp] theorem elOk_114 : elOk env.P 114 = true := by kernel_rfl
@[simp] theorem elZ_114 : elZ env.P 114 = 1 := by kernel_rfl
@[simp] theorem elBy_114 : elBy env.P 114 = 1 := by kernel_rfl
@[simp] theorem elZero_114 : elZero env.P 114 = (.v (.bool false)) := by kernel_rfl
@[simp] theorem isInt_114 : isInt env.P 114 = false := by kernel_rfl
@[simp] theorem intKind_114 : intKind env.P 114 = none := by kernel_rfl
@[simp] theorem isBys_114 : isByteSlice env.P 114 = false := by kernel_rfl
@[simp] theorem undS_114 : (env.P.underlying 114).isNone = false := by kernel_rfl
@[simp] theorem tsize_120 : tsize env.P 120 = (some 4) := by kernel_rfl
@[simp] theorem tagg_120 : tagg env.P 120 = (some true) := by kernel_rfl
@[simp] theorem telem_120 : telem env.P 120 = none := by kernel_rfl
@[simp] theorem tarr_120 : tarr env.P 120 = none := by kernel_rfl
@[simp] theorem isStr_120 : isStr env.P 120 = false := by kernel_rfl
@[simp] theorem tzero_120 : tzero env.P 120 = (some (.agg [(a8 0), (a32 0), (a8 0), (.v (.int .i64 0))])) := by kernel_rfl
@[simp] theorem tbytes_120 : tbytes env.P 120 = (some 24) := by kernel_rfl
@[simp] theorem apT_120 : apT env.P 120 = true := by kernel_rfl
@[simp] theorem leafT_120 : leafT env.P 120 = none := by kernel_rfl
@[simp] theorem eqTy_120 : eqTy env.P 120 = true := by kernel_rfl
@[simp] theorem fieldTys_120 : fieldTys env.P 120 = (some [104, 27]) := by kernel_rfl
@[simp] theorem isBool_120 : isBool env.P 120 = false := by kernel_rfl
@[simp] theorem plain_120 : plain env.P 20 120 = true := by kernel_rfl
@[simp] theorem isInt_120 : isInt env.P 120 = false := by kernel_rfl
@[simp] theorem intKind_120 : intKind env.P 120 = none := by kernel_rfl
@[simp] theorem isBys_120 : isByteSlice env.P 120 = false := by kernel_rfl
@[simp] theorem undS_120 : (env.P.underlying 120).isNone = false := by kernel_rfl
@[simp] theorem places_120 : placesOf env.P 120 = (some [(0, 3), (3, 1)]) := by kernel_rfl
@[simp] theorem tfield_0_120 : tfield env.P 120 0 = (some (0, 104)) := by kernel_rfl
@[simp] theorem fplace_0_120 : fieldPlaces env.P 120 0 = (some (0, 3)) := by kernel_rfl
@[simp] theorem tfield_1_120 : tfield env.P 120 1 = (some (3, 27)) := by kernel_rfl
@[simp] theorem fplace_1_120 : fieldPlaces env.P 120 1 = (some (3, 1)) := by kernel_rfl
@[simp] theorem tsize_126 : tsize env.P 126 = (some 1) := by kernel_rfl
@[simp] theorem tagg_126 : tagg env.P 126 = (some false) := by kernel_rfl
@[simp] theorem telem_126 : telem env.P 126 = none := by kernel_rfl
@[simp] theorem tarr_126 : tarr env.P 126 = none := by kernel_rfl
@[simp] theorem isStr_126 : isStr env.P 126 = false := by kernel_rfl
@[simp] theorem tzero_126 : tzero env.P 126 = (some (.v (.int .u64 0))) := by kernel_rfl
@[simp] theorem tbytes_126 : tbytes env.P 126 = (some 8) := by kernel_rfl
@[simp] theorem apT_126 : apT env.P 126 = false := by kernel_rfl
@[simp] theorem leafT_126 : leafT env.P 126 = (some 1) := by kernel_rfl
@[simp] theorem fieldTys_126 : fieldTys env.P 126 = none := by kernel_rfl
@[simp] theorem isBool_126 : isBool env.P 126 = false := by kernel_rfl
@[simp] theorem plain_126 : plain env.P 20 126 = true := by kernel_rfl
@[simp] theorem isInt_126 : isInt env.P 126 = true := by kernel_rfl
@[simp] theorem intKind_126 : intKind env.P 126 = (some .u64) := by kernel_rfl
@[simp] theorem isBys_126 : isByteSlice env.P 126 = false := by kernel_rfl
@[simp] theorem undS_126 : (env.P.underlying 126).isNone = false := by kernel_rfl
end Go.Proofs.Ytgooemdlilfkmaa
