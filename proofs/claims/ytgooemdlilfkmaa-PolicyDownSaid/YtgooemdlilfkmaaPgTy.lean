/-
  The facts on the program's types, computed. No statement of a seat is proved here.
-/
import Derived.Test.YtgooemdlilfkmaaRows
import Derived.Test.YtgooemdlilfkmaaAbsBox
set_option linter.unusedVariables false
set_option maxRecDepth 1000000
namespace Go.Proofs.Ytgooemdlilfkmaa
open Go.Ab

def fns : List FuncId := [3, 4, 5, 6, 7, 8, 9, 10, 12, 13, 14, 15, 16, 17, 18, 19, 20, 21, 22, 23, 24, 25, 26, 27, 28, 29, 31, 33, 34, 35, 36, 37, 38, 39, 40, 41, 42, 43, 44, 45, 46, 47, 48, 49, 50, 51, 52, 53, 54, 55, 56, 57, 58, 59, 60, 61, 63, 64, 66, 67, 68, 69, 70, 71, 72, 73, 74, 75, 76, 77, 78, 80, 81, 82, 83, 84]
def keep : List FuncId := [26, 20, 13, 41, 58, 59]
noncomputable def env : Env := envOf Try.prog fns keep [] nilApp
theorem fnsFit : fnsOk env fns = true := by kernel_rfl
@[simp] theorem tsize_0 : tsize env.P 0 = (some 1) := by kernel_rfl
@[simp] theorem tagg_0 : tagg env.P 0 = (some false) := by kernel_rfl
@[simp] theorem telem_0 : telem env.P 0 = none := by kernel_rfl
@[simp] theorem tarr_0 : tarr env.P 0 = none := by kernel_rfl
@[simp] theorem isStr_0 : isStr env.P 0 = false := by kernel_rfl
@[simp] theorem tzero_0 : tzero env.P 0 = (some (.v (.tuple #[]))) := by kernel_rfl
@[simp] theorem tbytes_0 : tbytes env.P 0 = (some 0) := by kernel_rfl
@[simp] theorem apT_0 : apT env.P 0 = true := by kernel_rfl
@[simp] theorem leafT_0 : leafT env.P 0 = none := by kernel_rfl
@[simp] theorem fieldTys_0 : fieldTys env.P 0 = none := by kernel_rfl
@[simp] theorem isBool_0 : isBool env.P 0 = false := by kernel_rfl
@[simp] theorem plain_0 : plain env.P 20 0 = false := by kernel_rfl
@[simp] theorem isInt_0 : isInt env.P 0 = false := by kernel_rfl
@[simp] theorem intKind_0 : intKind env.P 0 = none := by kernel_rfl
@[simp] theorem isBys_0 : isByteSlice env.P 0 = false := by kernel_rfl
@[simp] theorem undS_0 : (env.P.underlying 0).isNone = false := by kernel_rfl
@[simp] theorem tsize_1 : tsize env.P 1 = (some 1) := by kernel_rfl
@[simp] theorem tagg_1 : tagg env.P 1 = (some false) := by kernel_rfl
@[simp] theorem telem_1 : telem env.P 1 = none := by kernel_rfl
@[simp] theorem tarr_1 : tarr env.P 1 = none := by kernel_rfl
@[simp] theorem isStr_1 : isStr env.P 1 = false := by kernel_rfl
@[simp] theorem tzero_1 : tzero env.P 1 = (some (.v .nilFunc)) := by kernel_rfl
@[simp] theorem tbytes_1 : tbytes env.P 1 = (some 8) := by kernel_rfl
@[simp] theorem apT_1 : apT env.P 1 = true := by kernel_rfl
@[simp] theorem leafT_1 : leafT env.P 1 = none := by kernel_rfl
@[simp] theorem fieldTys_1 : fieldTys env.P 1 = none := by kernel_rfl
@[simp] theorem isBool_1 : isBool env.P 1 = false := by kernel_rfl
@[simp] theorem plain_1 : plain env.P 20 1 = false := by kernel_rfl
@[simp] theorem isInt_1 : isInt env.P 1 = false := by kernel_rfl
@[simp] theorem intKind_1 : intKind env.P 1 = none := by kernel_rfl
@[simp] theorem isBys_1 : isByteSlice env.P 1 = false := by kernel_rfl
@[simp] theorem undS_1 : (env.P.underlying 1).isNone = false := by kernel_rfl
@[simp] theorem tsize_2 : tsize env.P 2 = (some 1) := by kernel_rfl
@[simp] theorem tagg_2 : tagg env.P 2 = (some false) := by kernel_rfl
@[simp] theorem telem_2 : telem env.P 2 = none := by kernel_rfl
@[simp] theorem tarr_2 : tarr env.P 2 = none := by kernel_rfl
@[simp] theorem isStr_2 : isStr env.P 2 = false := by kernel_rfl
@[simp] theorem tzero_2 : tzero env.P 2 = (some (.v (.int .i64 0))) := by kernel_rfl
@[simp] theorem tbytes_2 : tbytes env.P 2 = (some 8) := by kernel_rfl
@[simp] theorem apT_2 : apT env.P 2 = false := by kernel_rfl
@[simp] theorem leafT_2 : leafT env.P 2 = (some 1) := by kernel_rfl
@[simp] theorem fieldTys_2 : fieldTys env.P 2 = none := by kernel_rfl
@[simp] theorem isBool_2 : isBool env.P 2 = false := by kernel_rfl
@[simp] theorem plain_2 : plain env.P 20 2 = true := by kernel_rfl
@[simp] theorem isInt_2 : isInt env.P 2 = true := by kernel_rfl
@[simp] theorem intKind_2 : intKind env.P 2 = (some .i64) := by kernel_rfl
@[simp] theorem isBys_2 : isByteSlice env.P 2 = false := by kernel_rfl
@[simp] theorem undS_2 : (env.P.underlying 2).isNone = false := by kernel_rfl
@[simp] theorem tsize_3 : tsize env.P 3 = (some 1) := by kernel_rfl
@[simp] theorem tagg_3 : tagg env.P 3 = (some false) := by kernel_rfl
@[simp] theorem telem_3 : telem env.P 3 = none := by kernel_rfl
@[simp] theorem tarr_3 : tarr env.P 3 = none := by kernel_rfl
@[simp] theorem isStr_3 : isStr env.P 3 = false := by kernel_rfl
@[simp] theorem tzero_3 : tzero env.P 3 = (some (.v (.int .i64 0))) := by kernel_rfl
@[simp] theorem tbytes_3 : tbytes env.P 3 = (some 8) := by kernel_rfl
@[simp] theorem apT_3 : apT env.P 3 = false := by kernel_rfl
@[simp] theorem leafT_3 : leafT env.P 3 = (some 1) := by kernel_rfl
@[simp] theorem fieldTys_3 : fieldTys env.P 3 = none := by kernel_rfl
@[simp] theorem isBool_3 : isBool env.P 3 = false := by kernel_rfl
@[simp] theorem plain_3 : plain env.P 20 3 = true := by kernel_rfl
@[simp] theorem isInt_3 : isInt env.P 3 = true := by kernel_rfl
@[simp] theorem intKind_3 : intKind env.P 3 = (some .i64) := by kernel_rfl
@[simp] theorem isBys_3 : isByteSlice env.P 3 = false := by kernel_rfl
@[simp] theorem undS_3 : (env.P.underlying 3).isNone = false := by kernel_rfl
@[simp] theorem tsize_4 : tsize env.P 4 = (some 1) := by kernel_rfl
@[simp] theorem tagg_4 : tagg env.P 4 = (some false) := by kernel_rfl
@[simp] theorem telem_4 : telem env.P 4 = none := by kernel_rfl
@[simp] theorem tarr_4 : tarr env.P 4 = none := by kernel_rfl
@[simp] theorem isStr_4 : isStr env.P 4 = false := by kernel_rfl
@[simp] theorem tzero_4 : tzero env.P 4 = (some (.v (.bool false))) := by kernel_rfl
@[simp] theorem tbytes_4 : tbytes env.P 4 = (some 1) := by kernel_rfl
@[simp] theorem apT_4 : apT env.P 4 = true := by kernel_rfl
@[simp] theorem leafT_4 : leafT env.P 4 = (some 0) := by kernel_rfl
@[simp] theorem fieldTys_4 : fieldTys env.P 4 = none := by kernel_rfl
@[simp] theorem isBool_4 : isBool env.P 4 = true := by kernel_rfl
@[simp] theorem plain_4 : plain env.P 20 4 = true := by kernel_rfl
@[simp] theorem isInt_4 : isInt env.P 4 = false := by kernel_rfl
@[simp] theorem intKind_4 : intKind env.P 4 = none := by kernel_rfl
@[simp] theorem isBys_4 : isByteSlice env.P 4 = false := by kernel_rfl
@[simp] theorem undS_4 : (env.P.underlying 4).isNone = false := by kernel_rfl
@[simp] theorem tsize_5 : tsize env.P 5 = (some 1) := by kernel_rfl
@[simp] theorem tagg_5 : tagg env.P 5 = (some false) := by kernel_rfl
@[simp] theorem telem_5 : telem env.P 5 = none := by kernel_rfl
@[simp] theorem tarr_5 : tarr env.P 5 = none := by kernel_rfl
@[simp] theorem isStr_5 : isStr env.P 5 = false := by kernel_rfl
@[simp] theorem tzero_5 : tzero env.P 5 = (some (a8 0)) := by kernel_rfl
@[simp] theorem tbytes_5 : tbytes env.P 5 = (some 1) := by kernel_rfl
@[simp] theorem apT_5 : apT env.P 5 = false := by kernel_rfl
@[simp] theorem leafT_5 : leafT env.P 5 = (some 1) := by kernel_rfl
@[simp] theorem fieldTys_5 : fieldTys env.P 5 = none := by kernel_rfl
@[simp] theorem isBool_5 : isBool env.P 5 = false := by kernel_rfl
@[simp] theorem plain_5 : plain env.P 20 5 = true := by kernel_rfl
@[simp] theorem isInt_5 : isInt env.P 5 = true := by kernel_rfl
@[simp] theorem intKind_5 : intKind env.P 5 = (some .u8) := by kernel_rfl
@[simp] theorem isBys_5 : isByteSlice env.P 5 = false := by kernel_rfl
@[simp] theorem undS_5 : (env.P.underlying 5).isNone = false := by kernel_rfl
@[simp] theorem tsize_6 : tsize env.P 6 = (some 1) := by kernel_rfl
@[simp] theorem tagg_6 : tagg env.P 6 = (some false) := by kernel_rfl
@[simp] theorem telem_6 : telem env.P 6 = none := by kernel_rfl
@[simp] theorem tarr_6 : tarr env.P 6 = none := by kernel_rfl
@[simp] theorem isStr_6 : isStr env.P 6 = false := by kernel_rfl
@[simp] theorem tzero_6 : tzero env.P 6 = (some (a8 0)) := by kernel_rfl
@[simp] theorem tbytes_6 : tbytes env.P 6 = (some 1) := by kernel_rfl
@[simp] theorem apT_6 : apT env.P 6 = false := by kernel_rfl
@[simp] theorem leafT_6 : leafT env.P 6 = (some 1) := by kernel_rfl
@[simp] theorem fieldTys_6 : fieldTys env.P 6 = none := by kernel_rfl
@[simp] theorem isBool_6 : isBool env.P 6 = false := by kernel_rfl
@[simp] theorem plain_6 : plain env.P 20 6 = true := by kernel_rfl
@[simp] theorem isInt_6 : isInt env.P 6 = true := by kernel_rfl
@[simp] theorem intKind_6 : intKind env.P 6 = (some .u8) := by kernel_rfl
@[simp] theorem isBys_6 : isByteSlice env.P 6 = false := by kernel_rfl
@[simp] theorem undS_6 : (env.P.underlying 6).isNone = false := by kernel_rfl
@[simp] theorem tsize_7 : tsize env.P 7 = (some 4) := by kernel_rfl
@[simp] theorem tagg_7 : tagg env.P 7 = (some true) := by kernel_rfl
@[simp] theorem telem_7 : telem env.P 7 = none := by kernel_rfl
@[simp] theorem tarr_7 : tarr env.P 7 = none := by kernel_rfl
@[simp] theorem isStr_7 : isStr env.P 7 = false := by kernel_rfl
@[simp] theorem tzero_7 : tzero env.P 7 = (some (.agg [(.v (.int .i64 0)), (.v (.int .i64 0)), (.v (.bool false)), (a8 0)])) := by kernel_rfl
@[simp] theorem tbytes_7 : tbytes env.P 7 = (some 24) := by kernel_rfl
@[simp] theorem apT_7 : apT env.P 7 = true := by kernel_rfl
@[simp] theorem leafT_7 : leafT env.P 7 = none := by kernel_rfl
@[simp] theorem eqTy_7 : eqTy env.P 7 = true := by kernel_rfl
@[simp] theorem fieldTys_7 : fieldTys env.P 7 = (some [2, 3, 4, 6]) := by kernel_rfl
@[simp] theorem isBool_7 : isBool env.P 7 = false := by kernel_rfl
@[simp] theorem plain_7 : plain env.P 20 7 = true := by kernel_rfl
@[simp] theorem isInt_7 : isInt env.P 7 = false := by kernel_rfl
@[simp] theorem intKind_7 : intKind env.P 7 = none := by kernel_rfl
@[simp] theorem isBys_7 : isByteSlice env.P 7 = false := by kernel_rfl
@[simp] theorem undS_7 : (env.P.underlying 7).isNone = false := by kernel_rfl
@[simp] theorem places_7 : placesOf env.P 7 = (some [(0, 1), (1, 1), (2, 1), (3, 1)]) := by kernel_rfl
@[simp] theorem tfield_0_7 : tfield env.P 7 0 = (some (0, 2)) := by kernel_rfl
@[simp] theorem fplace_0_7 : fieldPlaces env.P 7 0 = (some (0, 1)) := by kernel_rfl
@[simp] theorem tfield_1_7 : tfield env.P 7 1 = (some (1, 3)) := by kernel_rfl
@[simp] theorem fplace_1_7 : fieldPlaces env.P 7 1 = (some (1, 1)) := by kernel_rfl
@[simp] theorem tfield_2_7 : tfield env.P 7 2 = (some (2, 4)) := by kernel_rfl
@[simp] theorem fplace_2_7 : fieldPlaces env.P 7 2 = (some (2, 1)) := by kernel_rfl
@[simp] theorem tfield_3_7 : tfield env.P 7 3 = (some (3, 6)) := by kernel_rfl
@[simp] theorem fplace_3_7 : fieldPlaces env.P 7 3 = (some (3, 1)) := by kernel_rfl
@[simp] theorem tsize_8 : tsize env.P 8 = (some 4) := by kernel_rfl
@[simp] theorem tagg_8 : tagg env.P 8 = (some true) := by kernel_rfl
@[simp] theorem telem_8 : telem env.P 8 = none := by kernel_rfl
@[simp] theorem tarr_8 : tarr env.P 8 = none := by kernel_rfl
@[simp] theorem isStr_8 : isStr env.P 8 = false := by kernel_rfl
@[simp] theorem tzero_8 : tzero env.P 8 = (some (.agg [(.v (.int .i64 0)), (.v (.int .i64 0)), (.v (.bool false)), (a8 0)])) := by kernel_rfl
@[simp] theorem tbytes_8 : tbytes env.P 8 = (some 24) := by kernel_rfl
@[simp] theorem apT_8 : apT env.P 8 = true := by kernel_rfl
@[simp] theorem leafT_8 : leafT env.P 8 = none := by kernel_rfl
@[simp] theorem eqTy_8 : eqTy env.P 8 = true := by kernel_rfl
@[simp] theorem fieldTys_8 : fieldTys env.P 8 = (some [2, 3, 4, 6]) := by kernel_rfl
@[simp] theorem isBool_8 : isBool env.P 8 = false := by kernel_rfl
@[simp] theorem plain_8 : plain env.P 20 8 = true := by kernel_rfl
@[simp] theorem isInt_8 : isInt env.P 8 = false := by kernel_rfl
@[simp] theorem intKind_8 : intKind env.P 8 = none := by kernel_rfl
@[simp] theorem isBys_8 : isByteSlice env.P 8 = false := by kernel_rfl
@[simp] theorem undS_8 : (env.P.underlying 8).isNone = false := by kernel_rfl
@[simp] theorem places_8 : placesOf env.P 8 = (some [(0, 1), (1, 1), (2, 1), (3, 1)]) := by kernel_rfl
@[simp] theorem tfield_0_8 : tfield env.P 8 0 = (some (0, 2)) := by kernel_rfl
@[simp] theorem fplace_0_8 : fieldPlaces env.P 8 0 = (some (0, 1)) := by kernel_rfl
@[simp] theorem tfield_1_8 : tfield env.P 8 1 = (some (1, 3)) := by kernel_rfl
@[simp] theorem fplace_1_8 : fieldPlaces env.P 8 1 = (some (1, 1)) := by kernel_rfl
@[simp] theorem tfield_2_8 : tfield env.P 8 2 = (some (2, 4)) := by kernel_rfl
@[simp] theorem fplace_2_8 : fieldPlaces env.P 8 2 = (some (2, 1)) := by kernel_rfl
@[simp] theorem tfield_3_8 : tfield env.P 8 3 = (some (3, 6)) := by kernel_rfl
@[simp] theorem fplace_3_8 : fieldPlaces env.P 8 3 = (some (3, 1)) := by kernel_rfl
@[simp] theorem tsize_9 : tsize env.P 9 = (some 1) := by kernel_rfl
@[simp] theorem tagg_9 : tagg env.P 9 = (some false) := by kernel_rfl
@[simp] theorem telem_9 : telem env.P 9 = none := by kernel_rfl
@[simp] theorem tarr_9 : tarr env.P 9 = none := by kernel_rfl
@[simp] theorem isStr_9 : isStr env.P 9 = true := by kernel_rfl
@[simp] theorem tzero_9 : tzero env.P 9 = (some (.v (.string ⟨#[]⟩))) := by kernel_rfl
@[simp] theorem tbytes_9 : tbytes env.P 9 = (some 16) := by kernel_rfl
@[simp] theorem apT_9 : apT env.P 9 = true := by kernel_rfl
@[simp] theorem leafT_9 : leafT env.P 9 = (some 2) := by kernel_rfl
@[simp] theorem fieldTys_9 : fieldTys env.P 9 = none := by kernel_rfl
@[simp] theorem isBool_9 : isBool env.P 9 = false := by kernel_rfl
@[simp] theorem plain_9 : plain env.P 20 9 = true := by kernel_rfl
@[simp] theorem isInt_9 : isInt env.P 9 = false := by kernel_rfl
@[simp] theorem intKind_9 : intKind env.P 9 = none := by kernel_rfl
@[simp] theorem isBys_9 : isByteSlice env.P 9 = false := by kernel_rfl
@[simp] theorem undS_9 : (env.P.underlying 9).isNone = false := by kernel_rfl
@[simp] theorem tsize_10 : tsize env.P 10 = (some 1) := by kernel_rfl
@[simp] theorem tagg_10 : tagg env.P 10 = (some false) := by kernel_rfl
@[simp] theorem telem_10 : telem env.P 10 = none := by kernel_rfl
@[simp] theorem tarr_10 : tarr env.P 10 = none := by kernel_rfl
@[simp] theorem isStr_10 : isStr env.P 10 = true := by kernel_rfl
@[simp] theorem tzero_10 : tzero env.P 10 = (some (.v (.string ⟨#[]⟩))) := by kernel_rfl
@[simp] theorem tbytes_10 : tbytes env.P 10 = (some 16) := by kernel_rfl
@[simp] theorem apT_10 : apT env.P 10 = true := by kernel_rfl
@[simp] theorem leafT_10 : leafT env.P 10 = (some 2) := by kernel_rfl
@[simp] theorem fieldTys_10 : fieldTys env.P 10 = none := by kernel_rfl
@[simp] theorem isBool_10 : isBool env.P 10 = false := by kernel_rfl
@[simp] theorem plain_10 : plain env.P 20 10 = true := by kernel_rfl
@[simp] theorem isInt_10 : isInt env.P 10 = false := by kernel_rfl
@[simp] theorem intKind_10 : intKind env.P 10 = none := by kernel_rfl
@[simp] theorem isBys_10 : isByteSlice env.P 10 = false := by kernel_rfl
@[simp] theorem undS_10 : (env.P.underlying 10).isNone = false := by kernel_rfl
@[simp] theorem tsize_11 : tsize env.P 11 = (some 1) := by kernel_rfl
@[simp] theorem tagg_11 : tagg env.P 11 = (some false) := by kernel_rfl
@[simp] theorem telem_11 : telem env.P 11 = none := by kernel_rfl
@[simp] theorem tarr_11 : tarr env.P 11 = none := by kernel_rfl
@[simp] theorem isStr_11 : isStr env.P 11 = true := by kernel_rfl
@[simp] theorem tzero_11 : tzero env.P 11 = (some (.v (.string ⟨#[]⟩))) := by kernel_rfl
@[simp] theorem tbytes_11 : tbytes env.P 11 = (some 16) := by kernel_rfl
@[simp] theorem apT_11 : apT env.P 11 = true := by kernel_rfl
@[simp] theorem leafT_11 : leafT env.P 11 = (some 2) := by kernel_rfl
@[simp] theorem fieldTys_11 : fieldTys env.P 11 = none := by kernel_rfl
@[simp] theorem isBool_11 : isBool env.P 11 = false := by kernel_rfl
@[simp] theorem plain_11 : plain env.P 20 11 = true := by kernel_rfl
@[simp] theorem isInt_11 : isInt env.P 11 = false := by kernel_rfl
@[simp] theorem intKind_11 : intKind env.P 11 = none := by kernel_rfl
@[simp] theorem isBys_11 : isByteSlice env.P 11 = false := by kernel_rfl
@[simp] theorem undS_11 : (env.P.underlying 11).isNone = false := by kernel_rfl
@[simp] theorem tsize_12 : tsize env.P 12 = (some 1) := by kernel_rfl
@[simp] theorem tagg_12 : tagg env.P 12 = (some false) := by kernel_rfl
@[simp] theorem telem_12 : telem env.P 12 = none := by kernel_rfl
@[simp] theorem tarr_12 : tarr env.P 12 = none := by kernel_rfl
@[simp] theorem isStr_12 : isStr env.P 12 = false := by kernel_rfl
@[simp] theorem tzero_12 : tzero env.P 12 = (some (.v (.int .u64 0))) := by kernel_rfl
@[simp] theorem tbytes_12 : tbytes env.P 12 = (some 8) := by kernel_rfl
@[simp] theorem apT_12 : apT env.P 12 = false := by kernel_rfl
@[simp] theorem leafT_12 : leafT env.P 12 = (some 1) := by kernel_rfl
@[simp] theorem fieldTys_12 : fieldTys env.P 12 = none := by kernel_rfl
@[simp] theorem isBool_12 : isBool env.P 12 = false := by kernel_rfl
@[simp] theorem plain_12 : plain env.P 20 12 = true := by kernel_rfl
@[simp] theorem isInt_12 : isInt env.P 12 = true := by kernel_rfl
@[simp] theorem intKind_12 : intKind env.P 12 = (some .u64) := by kernel_rfl
@[simp] theorem isBys_12 : isByteSlice env.P 12 = false := by kernel_rfl
@[simp] theorem undS_12 : (env.P.underlying 12).isNone = false := by kernel_rfl
@[simp] theorem tsize_13 : tsize env.P 13 = (some 2) := by kernel_rfl
@[simp] theorem tagg_13 : tagg env.P 13 = (some true) := by kernel_rfl
@[simp] theorem telem_13 : telem env.P 13 = none := by kernel_rfl
@[simp] theorem tarr_13 : tarr env.P 13 = none := by kernel_rfl
@[simp] theorem isStr_13 : isStr env.P 13 = false := by kernel_rfl
@[simp] theorem tzero_13 : tzero env.P 13 = (some (.agg [(.v (.string ⟨#[]⟩)), (.v (.int .u64 0))])) := by kernel_rfl
@[simp] theorem tbytes_13 : tbytes env.P 13 = (some 24) := by kernel_rfl
@[simp] theorem apT_13 : apT env.P 13 = true := by kernel_rfl
@[simp] theorem leafT_13 : leafT env.P 13 = none := by kernel_rfl
@[simp] theorem fieldTys_13 : fieldTys env.P 13 = (some [9, 12]) := by kernel_rfl
@[simp] theorem isBool_13 : isBool env.P 13 = false := by kernel_rfl
@[simp] theorem plain_13 : plain env.P 20 13 = true := by kernel_rfl
@[simp] theorem isInt_13 : isInt env.P 13 = false := by kernel_rfl
@[simp] theorem intKind_13 : intKind env.P 13 = none := by kernel_rfl
@[simp] theorem isBys_13 : isByteSlice env.P 13 = false := by kernel_rfl
@[simp] theorem undS_13 : (env.P.underlying 13).isNone = false := by kernel_rfl
@[simp] theorem places_13 : placesOf env.P 13 = (some [(0, 1), (1, 1)]) := by kernel_rfl
@[simp] theorem tfield_0_13 : tfield env.P 13 0 = (some (0, 9)) := by kernel_rfl
@[simp] theorem fplace_0_13 : fieldPlaces env.P 13 0 = (some (0, 1)) := by kernel_rfl
@[simp] theorem tfield_1_13 : tfield env.P 13 1 = (some (1, 12)) := by kernel_rfl
@[simp] theorem fplace_1_13 : fieldPlaces env.P 13 1 = (some (1, 1)) := by kernel_rfl
@[simp] theorem tsize_14 : tsize env.P 14 = (some 2) := by kernel_rfl
@[simp] theorem tagg_14 : tagg env.P 14 = (some true) := by kernel_rfl
@[simp] theorem telem_14 : telem env.P 14 = none := by kernel_rfl
@[simp] theorem tarr_14 : tarr env.P 14 = none := by kernel_rfl
@[simp] theorem isStr_14 : isStr env.P 14 = false := by kernel_rfl
@[simp] theorem tzero_14 : tzero env.P 14 = (some (.agg [(.v (.string ⟨#[]⟩)), (.v (.int .u64 0))])) := by kernel_rfl
@[simp] theorem tbytes_14 : tbytes env.P 14 = (some 24) := by kernel_rfl
@[simp] theorem apT_14 : apT env.P 14 = true := by kernel_rfl
@[simp] theorem leafT_14 : leafT env.P 14 = none := by kernel_rfl
@[simp] theorem fieldTys_14 : fieldTys env.P 14 = (some [9, 12]) := by kernel_rfl
@[simp] theorem isBool_14 : isBool env.P 14 = false := by kernel_rfl
@[simp] theorem plain_14 : plain env.P 20 14 = true := by kernel_rfl
@[simp] theorem isInt_14 : isInt env.P 14 = false := by kernel_rfl
@[simp] theorem intKind_14 : intKind env.P 14 = none := by kernel_rfl
@[simp] theorem isBys_14 : isByteSlice env.P 14 = false := by kernel_rfl
@[simp] theorem undS_14 : (env.P.underlying 14).isNone = false := by kernel_rfl
@[simp] theorem places_14 : placesOf env.P 14 = (some [(0, 1), (1, 1)]) := by kernel_rfl
@[simp] theorem tfield_0_14 : tfield env.P 14 0 = (some (0, 9)) := by kernel_rfl
@[simp] theorem fplace_0_14 : fieldPlaces env.P 14 0 = (some (0, 1)) := by kernel_rfl
@[simp] theorem tfield_1_14 : tfield env.P 14 1 = (some (1, 12)) := by kernel_rfl
@[simp] theorem fplace_1_14 : fieldPlaces env.P 14 1 = (some (1, 1)) := by kernel_rfl
@[simp] theorem tsize_15 : tsize env.P 15 = (some 1) := by kernel_rfl
@[simp] theorem tagg_15 : tagg env.P 15 = (some false) := by kernel_rfl
@[simp] theorem telem_15 : telem env.P 15 = none := by kernel_rfl
@[simp] theorem tarr_15 : tarr env.P 15 = none := by kernel_rfl
@[simp] theorem isStr_15 : isStr env.P 15 = false := by kernel_rfl
@[simp] theorem tzero_15 : tzero env.P 15 = (some (.v (.pointer none))) := by kernel_rfl
@[simp] theorem tbytes_15 : tbytes env.P 15 = (some 8) := by kernel_rfl
@[simp] theorem apT_15 : apT env.P 15 = true := by kernel_rfl
@[simp] theorem leafT_15 : leafT env.P 15 = none := by kernel_rfl
@[simp] theorem fieldTys_15 : fieldTys env.P 15 = none := by kernel_rfl
@[simp] theorem isBool_15 : isBool env.P 15 = false := by kernel_rfl
@[simp] theorem plain_15 : plain env.P 20 15 = false := by kernel_rfl
@[simp] theorem isInt_15 : isInt env.P 15 = false := by kernel_rfl
@[simp] theorem intKind_15 : intKind env.P 15 = none := by kernel_rfl
@[simp] theorem isBys_15 : isByteSlice env.P 15 = false := by kernel_rfl
@[simp] theorem undS_15 : (env.P.underlying 15).isNone = false := by kernel_rfl
@[simp] theorem tsize_16 : tsize env.P 16 = (some 1) := by kernel_rfl
@[simp] theorem tagg_16 : tagg env.P 16 = (some false) := by kernel_rfl
@[simp] theorem telem_16 : telem env.P 16 = none := by kernel_rfl
@[simp] theorem tarr_16 : tarr env.P 16 = none := by kernel_rfl
@[simp] theorem isStr_16 : isStr env.P 16 = false := by kernel_rfl
@[simp] theorem tzero_16 : tzero env.P 16 = (some (.v (.pointer none))) := by kernel_rfl
@[simp] theorem tbytes_16 : tbytes env.P 16 = (some 8) := by kernel_rfl
@[simp] theorem apT_16 : apT env.P 16 = true := by kernel_rfl
@[simp] theorem leafT_16 : leafT env.P 16 = none := by kernel_rfl
@[simp] theorem fieldTys_16 : fieldTys env.P 16 = none := by kernel_rfl
@[simp] theorem isBool_16 : isBool env.P 16 = false := by kernel_rfl
@[simp] theorem plain_16 : plain env.P 20 16 = false := by kernel_rfl
@[simp] theorem isInt_16 : isInt env.P 16 = false := by kernel_rfl
@[simp] theorem intKind_16 : intKind env.P 16 = none := by kernel_rfl
@[simp] theorem isBys_16 : isByteSlice env.P 16 = false := by kernel_rfl
@[simp] theorem undS_16 : (env.P.underlying 16).isNone = false := by kernel_rfl
@[simp] theorem tsize_17 : tsize env.P 17 = (some 1) := by kernel_rfl
@[simp] theorem tagg_17 : tagg env.P 17 = (some false) := by kernel_rfl
@[simp] theorem telem_17 : telem env.P 17 = none := by kernel_rfl
@[simp] theorem tarr_17 : tarr env.P 17 = none := by kernel_rfl
@[simp] theorem isStr_17 : isStr env.P 17 = false := by kernel_rfl
@[simp] theorem tzero_17 : tzero env.P 17 = (some (.v (.pointer none))) := by kernel_rfl
@[simp] theorem tbytes_17 : tbytes env.P 17 = (some 8) := by kernel_rfl
@[simp] theorem apT_17 : apT env.P 17 = true := by kernel_rfl
@[simp] theorem leafT_17 : leafT env.P 17 = none := by kernel_rfl
@[simp] theorem fieldTys_17 : fieldTys env.P 17 = none := by kernel_rfl
@[simp] theorem isBool_17 : isBool env.P 17 = false := by kernel_rfl
@[simp] theorem plain_17 : plain env.P 20 17 = false := by kernel_rfl
@[simp] theorem isInt_17 : isInt env.P 17 = false := by kernel_rfl
@[simp] theorem intKind_17 : intKind env.P 17 = none := by kernel_rfl
@[simp] theorem isBys_17 : isByteSlice env.P 17 = false := by kernel_rfl
@[simp] theorem undS_17 : (env.P.underlying 17).isNone = false := by kernel_rfl
@[simp] theorem tsize_18 : tsize env.P 18 = (some 1) := by kernel_rfl
@[simp] theorem tagg_18 : tagg env.P 18 = (some true) := by kernel_rfl
@[simp] theorem telem_18 : telem env.P 18 = none := by kernel_rfl
@[simp] theorem tarr_18 : tarr env.P 18 = none := by kernel_rfl
@[simp] theorem isStr_18 : isStr env.P 18 = false := by kernel_rfl
@[simp] theorem tzero_18 : tzero env.P 18 = (some (.agg [(.v (.pointer none))])) := by kernel_rfl
@[simp] theorem tbytes_18 : tbytes env.P 18 = (some 8) := by kernel_rfl
@[simp] theorem apT_18 : apT env.P 18 = true := by kernel_rfl
@[simp] theorem leafT_18 : leafT env.P 18 = none := by kernel_rfl
@[simp] theorem fieldTys_18 : fieldTys env.P 18 = (some [17]) := by kernel_rfl
@[simp] theorem isBool_18 : isBool env.P 18 = false := by kernel_rfl
@[simp] theorem plain_18 : plain env.P 20 18 = false := by kernel_rfl
@[simp] theorem isInt_18 : isInt env.P 18 = false := by kernel_rfl
@[simp] theorem intKind_18 : intKind env.P 18 = none := by kernel_rfl
@[simp] theorem isBys_18 : isByteSlice env.P 18 = false := by kernel_rfl
@[simp] theorem undS_18 : (env.P.underlying 18).isNone = false := by kernel_rfl
@[simp] theorem places_18 : placesOf env.P 18 = (some [(0, 1)]) := by kernel_rfl
@[simp] theorem tfield_0_18 : tfield env.P 18 0 = (some (0, 17)) := by kernel_rfl
@[simp] theorem fplace_0_18 : fieldPlaces env.P 18 0 = (some (0, 1)) := by kernel_rfl
@[simp] theorem tsize_19 : tsize env.P 19 = (some 1) := by kernel_rfl
@[simp] theorem tagg_19 : tagg env.P 19 = (some true) := by kernel_rfl
@[simp] theorem telem_19 : telem env.P 19 = none := by kernel_rfl
@[simp] theorem tarr_19 : tarr env.P 19 = none := by kernel_rfl
@[simp] theorem isStr_19 : isStr env.P 19 = false := by kernel_rfl
@[simp] theorem tzero_19 : tzero env.P 19 = (some (.agg [(.v (.pointer none))])) := by kernel_rfl
@[simp] theorem tbytes_19 : tbytes env.P 19 = (some 8) := by kernel_rfl
@[simp] theorem apT_19 : apT env.P 19 = true := by kernel_rfl
@[simp] theorem leafT_19 : leafT env.P 19 = none := by kernel_rfl
@[simp] theorem fieldTys_19 : fieldTys env.P 19 = (some [17]) := by kernel_rfl
@[simp] theorem isBool_19 : isBool env.P 19 = false := by kernel_rfl
@[simp] theorem plain_19 : plain env.P 20 19 = false := by kernel_rfl
@[simp] theorem isInt_19 : isInt env.P 19 = false := by kernel_rfl
@[simp] theorem intKind_19 : intKind env.P 19 = none := by kernel_rfl
@[simp] theorem isBys_19 : isByteSlice env.P 19 = false := by kernel_rfl
@[simp] theorem undS_19 : (env.P.underlying 19).isNone = false := by kernel_rfl
@[simp] theorem places_19 : placesOf env.P 19 = (some [(0, 1)]) := by kernel_rfl
@[simp] theorem tfield_0_19 : tfield env.P 19 0 = (some (0, 17)) := by kernel_rfl
@[simp] theorem fplace_0_19 : fieldPlaces env.P 19 0 = (some (0, 1)) := by kernel_rfl
@[simp] theorem tsize_20 : tsize env.P 20 = (some 1) := by kernel_rfl
@[simp] theorem tagg_20 : tagg env.P 20 = (some false) := by kernel_rfl
@[simp] theorem telem_20 : telem env.P 20 = none := by kernel_rfl
@[simp] theorem tarr_20 : tarr env.P 20 = none := by kernel_rfl
@[simp] theorem isStr_20 : isStr env.P 20 = false := by kernel_rfl
@[simp] theorem tzero_20 : tzero env.P 20 = (some (.v .nilIface)) := by kernel_rfl
@[simp] theorem tbytes_20 : tbytes env.P 20 = (some 16) := by kernel_rfl
@[simp] theorem apT_20 : apT env.P 20 = true := by kernel_rfl
@[simp] theorem leafT_20 : leafT env.P 20 = none := by kernel_rfl
@[simp] theorem fieldTys_20 : fieldTys env.P 20 = none := by kernel_rfl
@[simp] theorem isBool_20 : isBool env.P 20 = false := by kernel_rfl
@[simp] theorem plain_20 : plain env.P 20 20 = false := by kernel_rfl
@[simp] theorem isInt_20 : isInt env.P 20 = false := by kernel_rfl
@[simp] theorem intKind_20 : intKind env.P 20 = none := by kernel_rfl
@[simp] theorem isBys_20 : isByteSlice env.P 20 = false := by kernel_rfl
@[simp] theorem undS_20 : (env.P.underlying 20).isNone = false := by kernel_rfl
@[simp] theorem tsize_21 : tsize env.P 21 = (some 1) := by kernel_rfl
@[simp] theorem tagg_21 : tagg env.P 21 = (some false) := by kernel_rfl
@[simp] theorem telem_21 : telem env.P 21 = none := by kernel_rfl
@[simp] theorem tarr_21 : tarr env.P 21 = none := by kernel_rfl
@[simp] theorem isStr_21 : isStr env.P 21 = false := by kernel_rfl
@[simp] theorem tzero_21 : tzero env.P 21 = (some (.v (.int .i32 0))) := by kernel_rfl
@[simp] theorem tbytes_21 : tbytes env.P 21 = (some 4) := by kernel_rfl
@[simp] theorem apT_21 : apT env.P 21 = false := by kernel_rfl
@[simp] theorem leafT_21 : leafT env.P 21 = (some 1) := by kernel_rfl
@[simp] theorem fieldTys_21 : fieldTys env.P 21 = none := by kernel_rfl
@[simp] theorem isBool_21 : isBool env.P 21 = false := by kernel_rfl
@[simp] theorem plain_21 : plain env.P 20 21 = true := by kernel_rfl
@[simp] theorem isInt_21 : isInt env.P 21 = true := by kernel_rfl
@[simp] theorem intKind_21 : intKind env.P 21 = (some .i32) := by kernel_rfl
@[simp] theorem isBys_21 : isByteSlice env.P 21 = false := by kernel_rfl
@[simp] theorem undS_21 : (env.P.underlying 21).isNone = false := by kernel_rfl
@[simp] theorem tsize_22 : tsize env.P 22 = (some 1) := by kernel_rfl
@[simp] theorem tagg_22 : tagg env.P 22 = (some false) := by kernel_rfl
@[simp] theorem telem_22 : telem env.P 22 = none := by kernel_rfl
@[simp] theorem tarr_22 : tarr env.P 22 = none := by kernel_rfl
@[simp] theorem isStr_22 : isStr env.P 22 = false := by kernel_rfl
@[simp] theorem tzero_22 : tzero env.P 22 = (some (a32 0)) := by kernel_rfl
@[simp] theorem tbytes_22 : tbytes env.P 22 = (some 4) := by kernel_rfl
@[simp] theorem apT_22 : apT env.P 22 = false := by kernel_rfl
@[simp] theorem leafT_22 : leafT env.P 22 = (some 1) := by kernel_rfl
@[simp] theorem fieldTys_22 : fieldTys env.P 22 = none := by kernel_rfl
@[simp] theorem isBool_22 : isBool env.P 22 = false := by kernel_rfl
@[simp] theorem plain_22 : plain env.P 20 22 = true := by kernel_rfl
@[simp] theorem isInt_22 : isInt env.P 22 = true := by kernel_rfl
@[simp] theorem intKind_22 : intKind env.P 22 = (some .u32) := by kernel_rfl
@[simp] theorem isBys_22 : isByteSlice env.P 22 = false := by kernel_rfl
@[simp] theorem undS_22 : (env.P.underlying 22).isNone = false := by kernel_rfl
@[simp] theorem tsize_23 : tsize env.P 23 = (some 2) := by kernel_rfl
@[simp] theorem tagg_23 : tagg env.P 23 = (some true) := by kernel_rfl
@[simp] theorem telem_23 : telem env.P 23 = none := by kernel_rfl
@[simp] theorem tarr_23 : tarr env.P 23 = none := by kernel_rfl
@[simp] theorem isStr_23 : isStr env.P 23 = false := by kernel_rfl
@[simp] theorem tzero_23 : tzero env.P 23 = (some (.agg [(a8 0), (a32 0)])) := by kernel_rfl
@[simp] theorem tbytes_23 : tbytes env.P 23 = (some 8) := by kernel_rfl
@[simp] theorem apT_23 : apT env.P 23 = true := by kernel_rfl
@[simp] theorem leafT_23 : leafT env.P 23 = none := by kernel_rfl
@[simp] theorem eqTy_23 : eqTy env.P 23 = true := by kernel_rfl
@[simp] theorem fieldTys_23 : fieldTys env.P 23 = (some [5, 22]) := by kernel_rfl
@[simp] theorem isBool_23 : isBool env.P 23 = false := by kernel_rfl
@[simp] theorem plain_23 : plain env.P 20 23 = true := by kernel_rfl
@[simp] theorem isInt_23 : isInt env.P 23 = false := by kernel_rfl
@[simp] theorem intKind_23 : intKind env.P 23 = none := by kernel_rfl
@[simp] theorem isBys_23 : isByteSlice env.P 23 = false := by kernel_rfl
@[simp] theorem undS_23 : (env.P.underlying 23).isNone = false := by kernel_rfl
@[simp] theorem places_23 : placesOf env.P 23 = (some [(0, 1), (1, 1)]) := by kernel_rfl
@[simp] theorem tfield_0_23 : tfield env.P 23 0 = (some (0, 5)) := by kernel_rfl
@[simp] theorem fplace_0_23 : fieldPlaces env.P 23 0 = (some (0, 1)) := by kernel_rfl
@[simp] theorem tfield_1_23 : tfield env.P 23 1 = (some (1, 22)) := by kernel_rfl
@[simp] theorem fplace_1_23 : fieldPlaces env.P 23 1 = (some (1, 1)) := by kernel_rfl
@[simp] theorem tsize_24 : tsize env.P 24 = (some 2) := by kernel_rfl
@[simp] theorem tagg_24 : tagg env.P 24 = (some true) := by kernel_rfl
@[simp] theorem telem_24 : telem env.P 24 = none := by kernel_rfl
@[simp] theorem tarr_24 : tarr env.P 24 = none := by kernel_rfl
@[simp] theorem isStr_24 : isStr env.P 24 = false := by kernel_rfl
@[simp] theorem tzero_24 : tzero env.P 24 = (some (.agg [(a8 0), (a32 0)])) := by kernel_rfl
@[simp] theorem tbytes_24 : tbytes env.P 24 = (some 8) := by kernel_rfl
@[simp] theorem apT_24 : apT env.P 24 = true := by kernel_rfl
@[simp] theorem leafT_24 : leafT env.P 24 = none := by kernel_rfl
@[simp] theorem eqTy_24 : eqTy env.P 24 = true := by kernel_rfl
@[simp] theorem fieldTys_24 : fieldTys env.P 24 = (some [5, 22]) := by kernel_rfl
@[simp] theorem isBool_24 : isBool env.P 24 = false := by kernel_rfl
@[simp] theorem plain_24 : plain env.P 20 24 = true := by kernel_rfl
@[simp] theorem isInt_24 : isInt env.P 24 = false := by kernel_rfl
@[simp] theorem intKind_24 : intKind env.P 24 = none := by kernel_rfl
@[simp] theorem isBys_24 : isByteSlice env.P 24 = false := by kernel_rfl
@[simp] theorem undS_24 : (env.P.underlying 24).isNone = false := by kernel_rfl
@[simp] theorem places_24 : placesOf env.P 24 = (some [(0, 1), (1, 1)]) := by kernel_rfl
@[simp] theorem tfield_0_24 : tfield env.P 24 0 = (some (0, 5)) := by kernel_rfl
@[simp] theorem fplace_0_24 : fieldPlaces env.P 24 0 = (some (0, 1)) := by kernel_rfl
@[simp] theorem tfield_1_24 : tfield env.P 24 1 = (some (1, 22)) := by kernel_rfl
@[simp] theorem fplace_1_24 : fieldPlaces env.P 24 1 = (some (1, 1)) := by kernel_rfl
@[simp] theorem tsize_25 : tsize env.P 25 = (some 5) := by kernel_rfl
@[simp] theorem tagg_25 : tagg env.P 25 = (some true) := by kernel_rfl
@[simp] theorem telem_25 : telem env.P 25 = none := by kernel_rfl
@[simp] theorem tarr_25 : tarr env.P 25 = none := by kernel_rfl
@[simp] theorem isStr_25 : isStr env.P 25 = false := by kernel_rfl
@[simp] theorem tzero_25 : tzero env.P 25 = (some (.agg [(a8 0), (a32 0), (.v (.int .i64 0)), (.v (.int .i64 0)), (.v (.int .i64 0))])) := by kernel_rfl
@[simp] theorem tbytes_25 : tbytes env.P 25 = (some 32) := by kernel_rfl
@[simp] theorem apT_25 : apT env.P 25 = true := by kernel_rfl
@[simp] theorem leafT_25 : leafT env.P 25 = none := by kernel_rfl
@[simp] theorem eqTy_25 : eqTy env.P 25 = true := by kernel_rfl
@[simp] theorem fieldTys_25 : fieldTys env.P 25 = (some [24, 3, 3, 3]) := by kernel_rfl
@[simp] theorem isBool_25 : isBool env.P 25 = false := by kernel_rfl
@[simp] theorem plain_25 : plain env.P 20 25 = true := by kernel_rfl
@[simp] theorem isInt_25 : isInt env.P 25 = false := by kernel_rfl
@[simp] theorem intKind_25 : intKind env.P 25 = none := by kernel_rfl
@[simp] theorem isBys_25 : isByteSlice env.P 25 = false := by kernel_rfl
@[simp] theorem undS_25 : (env.P.underlying 25).isNone = false := by kernel_rfl
@[simp] theorem places_25 : placesOf env.P 25 = (some [(0, 2), (2, 1), (3, 1), (4, 1)]) := by kernel_rfl
@[simp] theorem tfield_0_25 : tfield env.P 25 0 = (some (0, 24)) := by kernel_rfl
@[simp] theorem fplace_0_25 : fieldPlaces env.P 25 0 = (some (0, 2)) := by kernel_rfl
@[simp] theorem tfield_1_25 : tfield env.P 25 1 = (some (2, 3)) := by kernel_rfl
@[simp] theorem fplace_1_25 : fieldPlaces env.P 25 1 = (some (2, 1)) := by kernel_rfl
@[simp] theorem tfield_2_25 : tfield env.P 25 2 = (some (3, 3)) := by kernel_rfl
@[simp] theorem fplace_2_25 : fieldPlaces env.P 25 2 = (some (3, 1)) := by kernel_rfl
@[simp] theorem tfield_3_25 : tfield env.P 25 3 = (some (4, 3)) := by kernel_rfl
@[simp] theorem fplace_3_25 : fieldPlaces env.P 25 3 = (some (4, 1)) := by kernel_rfl
@[simp] theorem tsize_26 : tsize env.P 26 = (some 5) := by kernel_rfl
@[simp] theorem tagg_26 : tagg env.P 26 = (some true) := by kernel_rfl
@[simp] theorem telem_26 : telem env.P 26 = none := by kernel_rfl
@[simp] theorem tarr_26 : tarr env.P 26 = none := by kernel_rfl
@[simp] theorem isStr_26 : isStr env.P 26 = false := by kernel_rfl
@[simp] theorem tzero_26 : tzero env.P 26 = (some (.agg [(a8 0), (a32 0), (.v (.int .i64 0)), (.v (.int .i64 0)), (.v (.int .i64 0))])) := by kernel_rfl
@[simp] theorem tbytes_26 : tbytes env.P 26 = (some 32) := by kernel_rfl
@[simp] theorem apT_26 : apT env.P 26 = true := by kernel_rfl
@[simp] theorem leafT_26 : leafT env.P 26 = none := by kernel_rfl
@[simp] theorem eqTy_26 : eqTy env.P 26 = true := by kernel_rfl
@[simp] theorem fieldTys_26 : fieldTys env.P 26 = (some [24, 3, 3, 3]) := by kernel_rfl
@[simp] theorem isBool_26 : isBool env.P 26 = false := by kernel_rfl
@[simp] theorem plain_26 : plain env.P 20 26 = true := by kernel_rfl
@[simp] theorem isInt_26 : isInt env.P 26 = false := by kernel_rfl
@[simp] theorem intKind_26 : intKind env.P 26 = none := by kernel_rfl
@[simp] theorem isBys_26 : isByteSlice env.P 26 = false := by kernel_rfl
@[simp] theorem undS_26 : (env.P.underlying 26).isNone = false := by kernel_rfl
@[simp] theorem places_26 : placesOf env.P 26 = (some [(0, 2), (2, 1), (3, 1), (4, 1)]) := by kernel_rfl
@[simp] theorem tfield_0_26 : tfield env.P 26 0 = (some (0, 24)) := by kernel_rfl
@[simp] theorem fplace_0_26 : fieldPlaces env.P 26 0 = (some (0, 2)) := by kernel_rfl
@[simp] theorem tfield_1_26 : tfield env.P 26 1 = (some (2, 3)) := by kernel_rfl
@[simp] theorem fplace_1_26 : fieldPlaces env.P 26 1 = (some (2, 1)) := by kernel_rfl
@[simp] theorem tfield_2_26 : tfield env.P 26 2 = (some (3, 3)) := by kernel_rfl
@[simp] theorem fplace_2_26 : fieldPlaces env.P 26 2 = (some (3, 1)) := by kernel_rfl
@[simp] theorem tfield_3_26 : tfield env.P 26 3 = (some (4, 3)) := by kernel_rfl
@[simp] theorem fplace_3_26 : fieldPlaces env.P 26 3 = (some (4, 1)) := by kernel_rfl
@[simp] theorem tsize_27 : tsize env.P 27 = (some 1) := by kernel_rfl
@[simp] theorem tagg_27 : tagg env.P 27 = (some false) := by kernel_rfl
@[simp] theorem telem_27 : telem env.P 27 = none := by kernel_rfl
@[simp] theorem tarr_27 : tarr env.P 27 = none := by kernel_rfl
@[simp] theorem isStr_27 : isStr env.P 27 = false := by kernel_rfl
@[simp] theorem tzero_27 : tzero env.P 27 = (some (.v (.int .i64 0))) := by kernel_rfl
@[simp] theorem tbytes_27 : tbytes env.P 27 = (some 8) := by kernel_rfl
@[simp] theorem apT_27 : apT env.P 27 = false := by kernel_rfl
@[simp] theorem leafT_27 : leafT env.P 27 = (some 1) := by kernel_rfl
@[simp] theorem fieldTys_27 : fieldTys env.P 27 = none := by kernel_rfl
@[simp] theorem isBool_27 : isBool env.P 27 = false := by kernel_rfl
@[simp] theorem plain_27 : plain env.P 20 27 = true := by kernel_rfl
@[simp] theorem isInt_27 : isInt env.P 27 = true := by kernel_rfl
@[simp] theorem intKind_27 : intKind env.P 27 = (some .i64) := by kernel_rfl
@[simp] theorem isBys_27 : isByteSlice env.P 27 = false := by kernel_rfl
@[simp] theorem undS_27 : (env.P.underlying 27).isNone = false := by kernel_rfl
@[simp] theorem tsize_28 : tsize env.P 28 = (some 1) := by kernel_rfl
@[simp] theorem tagg_28 : tagg env.P 28 = (some false) := by kernel_rfl
@[simp] theorem telem_28 : telem env.P 28 = none := by kernel_rfl
@[simp] theorem tarr_28 : tarr env.P 28 = none := by kernel_rfl
@[simp] theorem isStr_28 : isStr env.P 28 = false := by kernel_rfl
@[simp] theorem tbytes_28 : tbytes env.P 28 = (some 0) := by kernel_rfl
@[simp] theorem apT_28 : apT env.P 28 = true := by kernel_rfl
@[simp] theorem leafT_28 : leafT env.P 28 = none := by kernel_rfl
@[simp] theorem fieldTys_28 : fieldTys env.P 28 = none := by kernel_rfl
@[simp] theorem isBool_28 : isBool env.P 28 = false := by kernel_rfl
@[simp] theorem plain_28 : plain env.P 20 28 = false := by kernel_rfl
@[simp] theorem isInt_28 : isInt env.P 28 = false := by kernel_rfl
@[simp] theorem intKind_28 : intKind env.P 28 = none := by kernel_rfl
@[simp] theorem isBys_28 : isByteSlice env.P 28 = false := by kernel_rfl
@[simp] theorem undS_28 : (env.P.underlying 28).isNone = false := by kernel_rfl
@[simp] theorem tsize_29 : tsize env.P 29 = (some 1) := by kernel_rfl
@[simp] theorem tagg_29 : tagg env.P 29 = (some false) := by kernel_rfl
@[simp] theorem telem_29 : telem env.P 29 = none := by kernel_rfl
@[simp] theorem tarr_29 : tarr env.P 29 = none := by kernel_rfl
@[simp] theorem isStr_29 : isStr env.P 29 = false := by kernel_rfl
@[simp] theorem tzero_29 : tzero env.P 29 = (some (.v .nilFunc)) := by kernel_rfl
@[simp] theorem tbytes_29 : tbytes env.P 29 = (some 8) := by kernel_rfl
@[simp] theorem apT_29 : apT env.P 29 = true := by kernel_rfl
@[simp] theorem leafT_29 : leafT env.P 29 = none := by kernel_rfl
@[simp] theorem fieldTys_29 : fieldTys env.P 29 = none := by kernel_rfl
@[simp] theorem isBool_29 : isBool env.P 29 = false := by kernel_rfl
@[simp] theorem plain_29 : plain env.P 20 29 = false := by kernel_rfl
@[simp] theorem isInt_29 : isInt env.P 29 = false := by kernel_rfl
@[simp] theorem intKind_29 : intKind env.P 29 = none := by kernel_rfl
@[simp] theorem isBys_29 : isByteSlice env.P 29 = false := by kernel_rfl
@[simp] theorem undS_29 : (env.P.underlying 29).isNone = false := by kernel_rfl
@[simp] theorem tsize_30 : tsize env.P 30 = (some 1) := by kernel_rfl
@[simp] theorem tagg_30 : tagg env.P 30 = (some false) := by kernel_rfl
@[simp] theorem telem_30 : telem env.P 30 = (some 39) := by kernel_rfl
@[simp] theorem tarr_30 : tarr env.P 30 = none := by kernel_rfl
@[simp] theorem isStr_30 : isStr env.P 30 = false := by kernel_rfl
@[simp] theorem tzero_30 : tzero env.P 30 = (some (.v (.slice none 0 0))) := by kernel_rfl
@[simp] theorem tbytes_30 : tbytes env.P 30 = (some 24) := by kernel_rfl
@[simp] theorem apT_30 : apT env.P 30 = true := by kernel_rfl
@[simp] theorem leafT_30 : leafT env.P 30 = none := by kernel_rfl
@[simp] theorem fieldTys_30 : fieldTys env.P 30 = none := by kernel_rfl
@[simp] theorem isBool_30 : isBool env.P 30 = false := by kernel_rfl
@[simp] theorem plain_30 : plain env.P 20 30 = true := by kernel_rfl
@[simp] theorem elT_30 : elT env.P 30 3 12 = true := by kernel_rfl
@[simp] theorem isInt_30 : isInt env.P 30 = false := by kernel_rfl
@[simp] theorem intKind_30 : intKind env.P 30 = none := by kernel_rfl
@[simp] theorem isBys_30 : isByteSlice env.P 30 = false := by kernel_rfl
@[simp] theorem undS_30 : (env.P.underlying 30).isNone = false := by kernel_rfl
@[simp] theorem tsize_31 : tsize env.P 31 = (some 1) := by kernel_rfl
@[simp] theorem tagg_31 : tagg env.P 31 = (some false) := by kernel_rfl
@[simp] theorem telem_31 : telem env.P 31 = (some 26) := by kernel_rfl
@[simp] theorem tarr_31 : tarr env.P 31 = none := by kernel_rfl
@[simp] theorem isStr_31 : isStr env.P 31 = false := by kernel_rfl
@[simp] theorem tzero_31 : tzero env.P 31 = (some (.v (.slice none 0 0))) := by kernel_rfl
@[simp] theorem tbytes_31 : tbytes env.P 31 = (some 24) := by kernel_rfl
@[simp] theorem apT_31 : apT env.P 31 = true := by kernel_rfl
@[simp] theorem leafT_31 : leafT env.P 31 = none := by kernel_rfl
@[simp] theorem fieldTys_31 : fieldTys env.P 31 = none := by kernel_rfl
@[simp] theorem isBool_31 : isBool env.P 31 = false := by kernel_rfl
@[simp] theorem plain_31 : plain env.P 20 31 = true := by kernel_rfl
@[simp] theorem elT_31 : elT env.P 31 5 32 = true := by kernel_rfl
@[simp] theorem isInt_31 : isInt env.P 31 = false := by kernel_rfl
@[simp] theorem intKind_31 : intKind env.P 31 = none := by kernel_rfl
@[simp] theorem isBys_31 : isByteSlice env.P 31 = false := by kernel_rfl
@[simp] theorem undS_31 : (env.P.underlying 31).isNone = false := by kernel_rfl
@[simp] theorem tsize_32 : tsize env.P 32 = (some 3) := by kernel_rfl
@[simp] theorem tagg_32 : tagg env.P 32 = (some true) := by kernel_rfl
@[simp] theorem telem_32 : telem env.P 32 = none := by kernel_rfl
@[simp] theorem tarr_32 : tarr env.P 32 = none := by kernel_rfl
@[simp] theorem isStr_32 : isStr env.P 32 = false := by kernel_rfl
@[simp] theorem tzero_32 : tzero env.P 32 = (some (.agg [(.v (.slice none 0 0)), (.v (.slice none 0 0)), (.v (.int .i64 0))])) := by kernel_rfl
@[simp] theorem tbytes_32 : tbytes env.P 32 = (some 56) := by kernel_rfl
@[simp] theorem apT_32 : apT env.P 32 = true := by kernel_rfl
@[simp] theorem leafT_32 : leafT env.P 32 = none := by kernel_rfl
@[simp] theorem fieldTys_32 : fieldTys env.P 32 = (some [30, 31, 3]) := by kernel_rfl
@[simp] theorem isBool_32 : isBool env.P 32 = false := by kernel_rfl
@[simp] theorem plain_32 : plain env.P 20 32 = true := by kernel_rfl
@[simp] theorem isInt_32 : isInt env.P 32 = false := by kernel_rfl
@[simp] theorem intKind_32 : intKind env.P 32 = none := by kernel_rfl
@[simp] theorem isBys_32 : isByteSlice env.P 32 = false := by kernel_rfl
@[simp] theorem undS_32 : (env.P.underlying 32).isNone = false := by kernel_rfl
@[simp] theorem places_32 : placesOf env.P 32 = (some [(0, 1), (1, 1), (2, 1)]) := by kernel_rfl
@[simp] theorem tfield_0_32 : tfield env.P 32 0 = (some (0, 30)) := by kernel_rfl
@[simp] theorem fplace_0_32 : fieldPlaces env.P 32 0 = (some (0, 1)) := by kernel_rfl
@[simp] theorem tfield_1_32 : tfield env.P 32 1 = (some (1, 31)) := by kernel_rfl
@[simp] theorem fplace_1_32 : fieldPlaces env.P 32 1 = (some (1, 1)) := by kernel_rfl
@[simp] theorem tfield_2_32 : tfield env.P 32 2 = (some (2, 3)) := by kernel_rfl
@[simp] theorem fplace_2_32 : fieldPlaces env.P 32 2 = (some (2, 1)) := by kernel_rfl
@[simp] theorem tsize_33 : tsize env.P 33 = (some 3) := by kernel_rfl
@[simp] theorem tagg_33 : tagg env.P 33 = (some true) := by kernel_rfl
@[simp] theorem telem_33 : telem env.P 33 = none := by kernel_rfl
@[simp] theorem tarr_33 : tarr env.P 33 = none := by kernel_rfl
@[simp] theorem isStr_33 : isStr env.P 33 = false := by kernel_rfl
@[simp] theorem tzero_33 : tzero env.P 33 = (some (.agg [(.v (.slice none 0 0)), (.v (.slice none 0 0)), (.v (.int .i64 0))])) := by kernel_rfl
@[simp] theorem tbytes_33 : tbytes env.P 33 = (some 56) := by kernel_rfl
@[simp] theorem apT_33 : apT env.P 33 = true := by kernel_rfl
@[simp] theorem leafT_33 : leafT env.P 33 = none := by kernel_rfl
@[simp] theorem fieldTys_33 : fieldTys env.P 33 = (some [30, 31, 3]) := by kernel_rfl
@[simp] theorem isBool_33 : isBool env.P 33 = false := by kernel_rfl
@[simp] theorem plain_33 : plain env.P 20 33 = true := by kernel_rfl
@[simp] theorem isInt_33 : isInt env.P 33 = false := by kernel_rfl
@[simp] theorem intKind_33 : intKind env.P 33 = none := by kernel_rfl
@[simp] theorem isBys_33 : isByteSlice env.P 33 = false := by kernel_rfl
@[simp] theorem undS_33 : (env.P.underlying 33).isNone = false := by kernel_rfl
@[simp] theorem places_33 : placesOf env.P 33 = (some [(0, 1), (1, 1), (2, 1)]) := by kernel_rfl
@[simp] theorem tfield_0_33 : tfield env.P 33 0 = (some (0, 30)) := by kernel_rfl
@[simp] theorem fplace_0_33 : fieldPlaces env.P 33 0 = (some (0, 1)) := by kernel_rfl
@[simp] theorem tfield_1_33 : tfield env.P 33 1 = (some (1, 31)) := by kernel_rfl
@[simp] theorem fplace_1_33 : fieldPlaces env.P 33 1 = (some (1, 1)) := by kernel_rfl
@[simp] theorem tfield_2_33 : tfield env.P 33 2 = (some (2, 3)) := by kernel_rfl
@[simp] theorem fplace_2_33 : fieldPlaces env.P 33 2 = (some (2, 1)) := by kernel_rfl
@[simp] theorem tsize_34 : tsize env.P 34 = (some 1) := by kernel_rfl
@[simp] theorem tagg_34 : tagg env.P 34 = (some false) := by kernel_rfl
@[simp] theorem telem_34 : telem env.P 34 = none := by kernel_rfl
@[simp] theorem tarr_34 : tarr env.P 34 = none := by kernel_rfl
@[simp] theorem isStr_34 : isStr env.P 34 = false := by kernel_rfl
@[simp] theorem tzero_34 : tzero env.P 34 = (some (.v .nilFunc)) := by kernel_rfl
@[simp] theorem tbytes_34 : tbytes env.P 34 = (some 8) := by kernel_rfl
@[simp] theorem apT_34 : apT env.P 34 = true := by kernel_rfl
@[simp] theorem leafT_34 : leafT env.P 34 = none := by kernel_rfl
@[simp] theorem fieldTys_34 : fieldTys env.P 34 = none := by kernel_rfl
@[simp] theorem isBool_34 : isBool env.P 34 = false := by kernel_rfl
@[simp] theorem plain_34 : plain env.P 20 34 = false := by kernel_rfl
@[simp] theorem isInt_34 : isInt env.P 34 = false := by kernel_rfl
@[simp] theorem intKind_34 : intKind env.P 34 = none := by kernel_rfl
@[simp] theorem isBys_34 : isByteSlice env.P 34 = false := by kernel_rfl
@[simp] theorem undS_34 : (env.P.underlying 34).isNone = false := by kernel_rfl
@[simp] theorem tsize_35 : tsize env.P 35 = (some 1) := by kernel_rfl
@[simp] theorem tagg_35 : tagg env.P 35 = (some false) := by kernel_rfl
@[simp] theorem telem_35 : telem env.P 35 = none := by kernel_rfl
@[simp] theorem tarr_35 : tarr env.P 35 = none := by kernel_rfl
@[simp] theorem isStr_35 : isStr env.P 35 = false := by kernel_rfl
@[simp] theorem tzero_35 : tzero env.P 35 = (some (.v .nilFunc)) := by kernel_rfl
@[simp] theorem tbytes_35 : tbytes env.P 35 = (some 8) := by kernel_rfl
@[simp] theorem apT_35 : apT env.P 35 = true := by kernel_rfl
@[simp] theorem leafT_35 : leafT env.P 35 = none := by kernel_rfl
@[simp] theorem fieldTys_35 : fieldTys env.P 35 = none := by kernel_rfl
@[simp] theorem isBool_35 : isBool env.P 35 = false := by kernel_rfl
@[simp] theorem plain_35 : plain env.P 20 35 = false := by kernel_rfl
@[simp] theorem isInt_35 : isInt env.P 35 = false := by kernel_rfl
@[simp] theorem intKind_35 : intKind env.P 35 = none := by kernel_rfl
@[simp] theorem isBys_35 : isByteSlice env.P 35 = false := by kernel_rfl
@[simp] theorem undS_35 : (env.P.underlying 35).isNone = false := by kernel_rfl
@[simp] theorem tsize_36 : tsize env.P 36 = (some 1) := by kernel_rfl
@[simp] theorem tagg_36 : tagg env.P 36 = (some false) := by kernel_rfl
@[simp] theorem telem_36 : telem env.P 36 = none := by kernel_rfl
@[simp] theorem tarr_36 : tarr env.P 36 = none := by kernel_rfl
@[simp] theorem isStr_36 : isStr env.P 36 = false := by kernel_rfl
@[simp] theorem tzero_36 : tzero env.P 36 = (some (.tup [(.v (.bool false)), (.v (.int .i64 0))])) := by kernel_rfl
@[simp] theorem tbytes_36 : tbytes env.P 36 = (some 0) := by kernel_rfl
@[simp] theorem apT_36 : apT env.P 36 = true := by kernel_rfl
@[simp] theorem leafT_36 : leafT env.P 36 = none := by kernel_rfl
@[simp] theorem fieldTys_36 : fieldTys env.P 36 = none := by kernel_rfl
@[simp] theorem isBool_36 : isBool env.P 36 = false := by kernel_rfl
@[simp] theorem plain_36 : plain env.P 20 36 = false := by kernel_rfl
@[simp] theorem isInt_36 : isInt env.P 36 = false := by kernel_rfl
@[simp] theorem intKind_36 : intKind env.P 36 = none := by kernel_rfl
@[simp] theorem isBys_36 : isByteSlice env.P 36 = false := by kernel_rfl
@[simp] theorem undS_36 : (env.P.underlying 36).isNone = false := by kernel_rfl
@[simp] theorem tsize_37 : tsize env.P 37 = (some 1) := by kernel_rfl
@[simp] theorem tagg_37 : tagg env.P 37 = (some false) := by kernel_rfl
@[simp] theorem telem_37 : telem env.P 37 = none := by kernel_rfl
@[simp] theorem tarr_37 : tarr env.P 37 = none := by kernel_rfl
@[simp] theorem isStr_37 : isStr env.P 37 = false := by kernel_rfl
@[simp] theorem tzero_37 : tzero env.P 37 = (some (.v .nilFunc)) := by kernel_rfl
@[simp] theorem tbytes_37 : tbytes env.P 37 = (some 8) := by kernel_rfl
@[simp] theorem apT_37 : apT env.P 37 = true := by kernel_rfl
@[simp] theorem leafT_37 : leafT env.P 37 = none := by kernel_rfl
@[simp] theorem fieldTys_37 : fieldTys env.P 37 = none := by kernel_rfl
@[simp] theorem isBool_37 : isBool env.P 37 = false := by kernel_rfl
@[simp] theorem plain_37 : plain env.P 20 37 = false := by kernel_rfl
@[simp] theorem isInt_37 : isInt env.P 37 = false := by kernel_rfl
@[simp] theorem intKind_37 : intKind env.P 37 = none := by kernel_rfl
@[simp] theorem isBys_37 : isByteSlice env.P 37 = false := by kernel_rfl
@[simp] theorem undS_37 : (env.P.underlying 37).isNone = false := by kernel_rfl
@[simp] theorem tsize_38 : tsize env.P 38 = (some 3) := by kernel_rfl
@[simp] theorem tagg_38 : tagg env.P 38 = (some true) := by kernel_rfl
@[simp] theorem telem_38 : telem env.P 38 = none := by kernel_rfl
@[simp] theorem tarr_38 : tarr env.P 38 = none := by kernel_rfl
@[simp] theorem isStr_38 : isStr env.P 38 = false := by kernel_rfl
@[simp] theorem tzero_38 : tzero env.P 38 = (some (.agg [(a8 0), (a32 0), (.v (.bool false))])) := by kernel_rfl
@[simp] theorem tbytes_38 : tbytes env.P 38 = (some 12) := by kernel_rfl
@[simp] theorem apT_38 : apT env.P 38 = true := by kernel_rfl
@[simp] theorem leafT_38 : leafT env.P 38 = none := by kernel_rfl
@[simp] theorem eqTy_38 : eqTy env.P 38 = true := by kernel_rfl
@[simp] theorem fieldTys_38 : fieldTys env.P 38 = (some [24, 4]) := by kernel_rfl
@[simp] theorem isBool_38 : isBool env.P 38 = false := by kernel_rfl
@[simp] theorem plain_38 : plain env.P 20 38 = true := by kernel_rfl
@[simp] theorem isInt_38 : isInt env.P 38 = false := by kernel_rfl
@[simp] theorem intKind_38 : intKind env.P 38 = none := by kernel_rfl
@[simp] theorem isBys_38 : isByteSlice env.P 38 = false := by kernel_rfl
@[simp] theorem undS_38 : (env.P.underlying 38).isNone = false := by kernel_rfl
@[simp] theorem places_38 : placesOf env.P 38 = (some [(0, 2), (2, 1)]) := by kernel_rfl
@[simp] theorem tfield_0_38 : tfield env.P 38 0 = (some (0, 24)) := by kernel_rfl
@[simp] theorem fplace_0_38 : fieldPlaces env.P 38 0 = (some (0, 2)) := by kernel_rfl
@[simp] theorem tfield_1_38 : tfield env.P 38 1 = (some (2, 4)) := by kernel_rfl
@[simp] theorem fplace_1_38 : fieldPlaces env.P 38 1 = (some (2, 1)) := by kernel_rfl
@[simp] theorem tsize_39 : tsize env.P 39 = (some 3) := by kernel_rfl
@[simp] theorem tagg_39 : tagg env.P 39 = (some true) := by kernel_rfl
@[simp] theorem telem_39 : telem env.P 39 = none := by kernel_rfl
@[simp] theorem tarr_39 : tarr env.P 39 = none := by kernel_rfl
@[simp] theorem isStr_39 : isStr env.P 39 = false := by kernel_rfl
@[simp] theorem tzero_39 : tzero env.P 39 = (some (.agg [(a8 0), (a32 0), (.v (.bool false))])) := by kernel_rfl
@[simp] theorem tbytes_39 : tbytes env.P 39 = (some 12) := by kernel_rfl
@[simp] theorem apT_39 : apT env.P 39 = true := by kernel_rfl
@[simp] theorem leafT_39 : leafT env.P 39 = none := by kernel_rfl
@[simp] theorem eqTy_39 : eqTy env.P 39 = true := by kernel_rfl
@[simp] theorem fieldTys_39 : fieldTys env.P 39 = (some [24, 4]) := by kernel_rfl
@[simp] theorem isBool_39 : isBool env.P 39 = false := by kernel_rfl
@[simp] theorem plain_39 : plain env.P 20 39 = true := by kernel_rfl
@[simp] theorem isInt_39 : isInt env.P 39 = false := by kernel_rfl
@[simp] theorem intKind_39 : intKind env.P 39 = none := by kernel_rfl
@[simp] theorem isBys_39 : isByteSlice env.P 39 = false := by kernel_rfl
@[simp] theorem undS_39 : (env.P.underlying 39).isNone = false := by kernel_rfl
@[simp] theorem places_39 : placesOf env.P 39 = (some [(0, 2), (2, 1)]) := by kernel_rfl
@[simp] theorem tfield_0_39 : tfield env.P 39 0 = (some (0, 24)) := by kernel_rfl
@[simp] theorem fplace_0_39 : fieldPlaces env.P 39 0 = (some (0, 2)) := by kernel_rfl
@[simp] theorem tfield_1_39 : tfield env.P 39 1 = (some (2, 4)) := by kernel_rfl
@[simp] theorem fplace_1_39 : fieldPlaces env.P 39 1 = (some (2, 1)) := by kernel_rfl
@[simp] theorem tsize_40 : tsize env.P 40 = (some 1) := by kernel_rfl
@[simp] theorem tagg_40 : tagg env.P 40 = (some false) := by kernel_rfl
@[simp] theorem telem_40 : telem env.P 40 = none := by kernel_rfl
@[simp] theorem tarr_40 : tarr env.P 40 = none := by kernel_rfl
@[simp] theorem isStr_40 : isStr env.P 40 = false := by kernel_rfl
@[simp] theorem tzero_40 : tzero env.P 40 = (some (.v .nilFunc)) := by kernel_rfl
@[simp] theorem tbytes_40 : tbytes env.P 40 = (some 8) := by kernel_rfl
@[simp] theorem apT_40 : apT env.P 40 = true := by kernel_rfl
@[simp] theorem leafT_40 : leafT env.P 40 = none := by kernel_rfl
@[simp] theorem fieldTys_40 : fieldTys env.P 40 = none := by kernel_rfl
@[simp] theorem isBool_40 : isBool env.P 40 = false := by kernel_rfl
@[simp] theorem plain_40 : plain env.P 20 40 = false := by kernel_rfl
@[simp] theorem isInt_40 : isInt env.P 40 = false := by kernel_rfl
@[simp] theorem intKind_40 : intKind env.P 40 = none := by kernel_rfl
@[simp] theorem isBys_40 : isByteSlice env.P 40 = false := by kernel_rfl
@[simp] theorem undS_40 : (env.P.underlying 40).isNone = false := by kernel_rfl
@[simp] theorem tsize_41 : tsize env.P 41 = (some 1) := by kernel_rfl
@[simp] theorem tagg_41 : tagg env.P 41 = (some false) := by kernel_rfl
@[simp] theorem telem_41 : telem env.P 41 = none := by kernel_rfl
@[simp] theorem tarr_41 : tarr env.P 41 = none := by kernel_rfl
@[simp] theorem isStr_41 : isStr env.P 41 = false := by kernel_rfl
@[simp] theorem tzero_41 : tzero env.P 41 = (some (.v .nilFunc)) := by kernel_rfl
@[simp] theorem tbytes_41 : tbytes env.P 41 = (some 8) := by kernel_rfl
@[simp] theorem apT_41 : apT env.P 41 = true := by kernel_rfl
@[simp] theorem leafT_41 : leafT env.P 41 = none := by kernel_rfl
@[simp] theorem fieldTys_41 : fieldTys env.P 41 = none := by kernel_rfl
@[simp] theorem isBool_41 : isBool env.P 41 = false := by kernel_rfl
@[simp] theorem plain_41 : plain env.P 20 41 = false := by kernel_rfl
@[simp] theorem isInt_41 : isInt env.P 41 = false := by kernel_rfl
@[simp] theorem intKind_41 : intKind env.P 41 = none := by kernel_rfl
@[simp] theorem isBys_41 : isByteSlice env.P 41 = false := by kernel_rfl
@[simp] theorem undS_41 : (env.P.underlying 41).isNone = false := by kernel_rfl
@[simp] theorem tsize_42 : tsize env.P 42 = (some 1) := by kernel_rfl
@[simp] theorem tagg_42 : tagg env.P 42 = (some false) := by kernel_rfl
@[simp] theorem telem_42 : telem env.P 42 = none := by kernel_rfl
@[simp] theorem tarr_42 : tarr env.P 42 = none := by kernel_rfl
@[simp] theorem isStr_42 : isStr env.P 42 = false := by kernel_rfl
@[simp] theorem tzero_42 : tzero env.P 42 = (some (.v .nilFunc)) := by kernel_rfl
@[simp] theorem tbytes_42 : tbytes env.P 42 = (some 8) := by kernel_rfl
@[simp] theorem apT_42 : apT env.P 42 = true := by kernel_rfl
@[simp] theorem leafT_42 : leafT env.P 42 = none := by kernel_rfl
@[simp] theorem fieldTys_42 : fieldTys env.P 42 = none := by kernel_rfl
@[simp] theorem isBool_42 : isBool env.P 42 = false := by kernel_rfl
@[simp] theorem plain_42 : plain env.P 20 42 = false := by kernel_rfl
@[simp] theorem isInt_42 : isInt env.P 42 = false := by kernel_rfl
@[simp] theorem intKind_42 : intKind env.P 42 = none := by kernel_rfl
@[simp] theorem isBys_42 : isByteSlice env.P 42 = false := by kernel_rfl
@[simp] theorem undS_42 : (env.P.underlying 42).isNone = false := by kernel_rfl
@[simp] theorem tsize_43 : tsize env.P 43 = (some 1) := by kernel_rfl
@[simp] theorem tagg_43 : tagg env.P 43 = (some false) := by kernel_rfl
@[simp] theorem telem_43 : telem env.P 43 = none := by kernel_rfl
@[simp] theorem tarr_43 : tarr env.P 43 = none := by kernel_rfl
@[simp] theorem isStr_43 : isStr env.P 43 = false := by kernel_rfl
@[simp] theorem tzero_43 : tzero env.P 43 = (some (.v .nilFunc)) := by kernel_rfl
@[simp] theorem tbytes_43 : tbytes env.P 43 = (some 8) := by kernel_rfl
@[simp] theorem apT_43 : apT env.P 43 = true := by kernel_rfl
@[simp] theorem leafT_43 : leafT env.P 43 = none := by kernel_rfl
@[simp] theorem fieldTys_43 : fieldTys env.P 43 = none := by kernel_rfl
@[simp] theorem isBool_43 : isBool env.P 43 = false := by kernel_rfl
@[simp] theorem plain_43 : plain env.P 20 43 = false := by kernel_rfl
@[simp] theorem isInt_43 : isInt env.P 43 = false := by kernel_rfl
@[simp] theorem intKind_43 : intKind env.P 43 = none := by kernel_rfl
@[simp] theorem isBys_43 : isByteSlice env.P 43 = false := by kernel_rfl
@[simp] theorem undS_43 : (env.P.underlying 43).isNone = false := by kernel_rfl
@[simp] theorem tsize_44 : tsize env.P 44 = (some 1) := by kernel_rfl
@[simp] theorem tagg_44 : tagg env.P 44 = (some false) := by kernel_rfl
@[simp] theorem telem_44 : telem env.P 44 = none := by kernel_rfl
@[simp] theorem tarr_44 : tarr env.P 44 = none := by kernel_rfl
@[simp] theorem isStr_44 : isStr env.P 44 = false := by kernel_rfl
@[simp] theorem tzero_44 : tzero env.P 44 = (some (.v .nilFunc)) := by kernel_rfl
@[simp] theorem tbytes_44 : tbytes env.P 44 = (some 8) := by kernel_rfl
@[simp] theorem apT_44 : apT env.P 44 = true := by kernel_rfl
@[simp] theorem leafT_44 : leafT env.P 44 = none := by kernel_rfl
@[simp] theorem fieldTys_44 : fieldTys env.P 44 = none := by kernel_rfl
@[simp] theorem isBool_44 : isBool env.P 44 = false := by kernel_rfl
@[simp] theorem plain_44 : plain env.P 20 44 = false := by kernel_rfl
@[simp] theorem isInt_44 : isInt env.P 44 = false := by kernel_rfl
@[simp] theorem intKind_44 : intKind env.P 44 = none := by kernel_rfl
@[simp] theorem isBys_44 : isByteSlice env.P 44 = false := by kernel_rfl
@[simp] theorem undS_44 : (env.P.underlying 44).isNone = false := by kernel_rfl
@[simp] theorem tsize_45 : tsize env.P 45 = (some 1) := by kernel_rfl
@[simp] theorem tagg_45 : tagg env.P 45 = (some false) := by kernel_rfl
@[simp] theorem telem_45 : telem env.P 45 = none := by kernel_rfl
@[simp] theorem tarr_45 : tarr env.P 45 = none := by kernel_rfl
@[simp] theorem isStr_45 : isStr env.P 45 = false := by kernel_rfl
@[simp] theorem tzero_45 : tzero env.P 45 = (some (.v .nilFunc)) := by kernel_rfl
@[simp] theorem tbytes_45 : tbytes env.P 45 = (some 8) := by kernel_rfl
@[simp] theorem apT_45 : apT env.P 45 = true := by kernel_rfl
@[simp] theorem leafT_45 : leafT env.P 45 = none := by kernel_rfl
@[simp] theorem fieldTys_45 : fieldTys env.P 45 = none := by kernel_rfl
@[simp] theorem isBool_45 : isBool env.P 45 = false := by kernel_rfl
@[simp] theorem plain_45 : plain env.P 20 45 = false := by kernel_rfl
@[simp] theorem isInt_45 : isInt env.P 45 = false := by kernel_rfl
@[simp] theorem intKind_45 : intKind env.P 45 = none := by kernel_rfl
@[simp] theorem isBys_45 : isByteSlice env.P 45 = false := by kernel_rfl
@[simp] theorem undS_45 : (env.P.underlying 45).isNone = false := by kernel_rfl
@[simp] theorem tsize_46 : tsize env.P 46 = (some 1) := by kernel_rfl
@[simp] theorem tagg_46 : tagg env.P 46 = (some false) := by kernel_rfl
@[simp] theorem telem_46 : telem env.P 46 = none := by kernel_rfl
@[simp] theorem tarr_46 : tarr env.P 46 = none := by kernel_rfl
@[simp] theorem isStr_46 : isStr env.P 46 = false := by kernel_rfl
@[simp] theorem tzero_46 : tzero env.P 46 = (some (.v .nilFunc)) := by kernel_rfl
@[simp] theorem tbytes_46 : tbytes env.P 46 = (some 8) := by kernel_rfl
@[simp] theorem apT_46 : apT env.P 46 = true := by kernel_rfl
@[simp] theorem leafT_46 : leafT env.P 46 = none := by kernel_rfl
@[simp] theorem fieldTys_46 : fieldTys env.P 46 = none := by kernel_rfl
@[simp] theorem isBool_46 : isBool env.P 46 = false := by kernel_rfl
@[simp] theorem plain_46 : plain env.P 20 46 = false := by kernel_rfl
@[simp] theorem isInt_46 : isInt env.P 46 = false := by kernel_rfl
@[simp] theorem intKind_46 : intKind env.P 46 = none := by kernel_rfl
@[simp] theorem isBys_46 : isByteSlice env.P 46 = false := by kernel_rfl
@[simp] theorem undS_46 : (env.P.underlying 46).isNone = false := by kernel_rfl
@[simp] theorem tsize_47 : tsize env.P 47 = (some 1) := by kernel_rfl
@[simp] theorem tagg_47 : tagg env.P 47 = (some false) := by kernel_rfl
@[simp] theorem telem_47 : telem env.P 47 = none := by kernel_rfl
@[simp] theorem tarr_47 : tarr env.P 47 = none := by kernel_rfl
@[simp] theorem isStr_47 : isStr env.P 47 = false := by kernel_rfl
@[simp] theorem tzero_47 : tzero env.P 47 = (some (.tup [(.v (.int .i64 0)), (.v (.int .i64 0))])) := by kernel_rfl
@[simp] theorem tbytes_47 : tbytes env.P 47 = (some 0) := by kernel_rfl
@[simp] theorem apT_47 : apT env.P 47 = true := by kernel_rfl
@[simp] theorem leafT_47 : leafT env.P 47 = none := by kernel_rfl
@[simp] theorem fieldTys_47 : fieldTys env.P 47 = none := by kernel_rfl
@[simp] theorem isBool_47 : isBool env.P 47 = false := by kernel_rfl
@[simp] theorem plain_47 : plain env.P 20 47 = false := by kernel_rfl
@[simp] theorem isInt_47 : isInt env.P 47 = false := by kernel_rfl
@[simp] theorem intKind_47 : intKind env.P 47 = none := by kernel_rfl
@[simp] theorem isBys_47 : isByteSlice env.P 47 = false := by kernel_rfl
@[simp] theorem undS_47 : (env.P.underlying 47).isNone = false := by kernel_rfl
@[simp] theorem tsize_48 : tsize env.P 48 = (some 1) := by kernel_rfl
@[simp] theorem tagg_48 : tagg env.P 48 = (some false) := by kernel_rfl
@[simp] theorem telem_48 : telem env.P 48 = none := by kernel_rfl
@[simp] theorem tarr_48 : tarr env.P 48 = none := by kernel_rfl
@[simp] theorem isStr_48 : isStr env.P 48 = false := by kernel_rfl
@[simp] theorem tzero_48 : tzero env.P 48 = (some (.v .nilFunc)) := by kernel_rfl
@[simp] theorem tbytes_48 : tbytes env.P 48 = (some 8) := by kernel_rfl
@[simp] theorem apT_48 : apT env.P 48 = true := by kernel_rfl
@[simp] theorem leafT_48 : leafT env.P 48 = none := by kernel_rfl
@[simp] theorem fieldTys_48 : fieldTys env.P 48 = none := by kernel_rfl
@[simp] theorem isBool_48 : isBool env.P 48 = false := by kernel_rfl
@[simp] theorem plain_48 : plain env.P 20 48 = false := by kernel_rfl
@[simp] theorem isInt_48 : isInt env.P 48 = false := by kernel_rfl
@[simp] theorem intKind_48 : intKind env.P 48 = none := by kernel_rfl
@[simp] theorem isBys_48 : isByteSlice env.P 48 = false := by kernel_rfl
@[simp] theorem undS_48 : (env.P.underlying 48).isNone = false := by kernel_rfl
@[simp] theorem tsize_49 : tsize env.P 49 = (some 1) := by kernel_rfl
@[simp] theorem tagg_49 : tagg env.P 49 = (some false) := by kernel_rfl
@[simp] theorem telem_49 : telem env.P 49 = none := by kernel_rfl
@[simp] theorem tarr_49 : tarr env.P 49 = none := by kernel_rfl
@[simp] theorem isStr_49 : isStr env.P 49 = false := by kernel_rfl
@[simp] theorem tzero_49 : tzero env.P 49 = (some (.tup [(.v (.int .i64 0)), (.v (.int .i64 0))])) := by kernel_rfl
@[simp] theorem tbytes_49 : tbytes env.P 49 = (some 0) := by kernel_rfl
@[simp] theorem apT_49 : apT env.P 49 = true := by kernel_rfl
@[simp] theorem leafT_49 : leafT env.P 49 = none := by kernel_rfl
@[simp] theorem fieldTys_49 : fieldTys env.P 49 = none := by kernel_rfl
@[simp] theorem isBool_49 : isBool env.P 49 = false := by kernel_rfl
@[simp] theorem plain_49 : plain env.P 20 49 = false := by kernel_rfl
@[simp] theorem isInt_49 : isInt env.P 49 = false := by kernel_rfl
@[simp] theorem intKind_49 : intKind env.P 49 = none := by kernel_rfl
@[simp] theorem isBys_49 : isByteSlice env.P 49 = false := by kernel_rfl
@[simp] theorem undS_49 : (env.P.underlying 49).isNone = false := by kernel_rfl
@[simp] theorem tsize_50 : tsize env.P 50 = (some 1) := by kernel_rfl
@[simp] theorem tagg_50 : tagg env.P 50 = (some false) := by kernel_rfl
@[simp] theorem telem_50 : telem env.P 50 = none := by kernel_rfl
@[simp] theorem tarr_50 : tarr env.P 50 = none := by kernel_rfl
@[simp] theorem isStr_50 : isStr env.P 50 = false := by kernel_rfl
@[simp] theorem tzero_50 : tzero env.P 50 = (some (.v .nilFunc)) := by kernel_rfl
@[simp] theorem tbytes_50 : tbytes env.P 50 = (some 8) := by kernel_rfl
@[simp] theorem apT_50 : apT env.P 50 = true := by kernel_rfl
@[simp] theorem leafT_50 : leafT env.P 50 = none := by kernel_rfl
@[simp] theorem fieldTys_50 : fieldTys env.P 50 = none := by kernel_rfl
@[simp] theorem isBool_50 : isBool env.P 50 = false := by kernel_rfl
@[simp] theorem plain_50 : plain env.P 20 50 = false := by kernel_rfl
@[simp] theorem isInt_50 : isInt env.P 50 = false := by kernel_rfl
@[simp] theorem intKind_50 : intKind env.P 50 = none := by kernel_rfl
@[simp] theorem isBys_50 : isByteSlice env.P 50 = false := by kernel_rfl
@[simp] theorem undS_50 : (env.P.underlying 50).isNone = false := by kernel_rfl
@[simp] theorem tsize_51 : tsize env.P 51 = (some 1) := by kernel_rfl
@[simp] theorem tagg_51 : tagg env.P 51 = (some false) := by kernel_rfl
@[simp] theorem telem_51 : telem env.P 51 = none := by kernel_rfl
@[simp] theorem tarr_51 : tarr env.P 51 = none := by kernel_rfl
@[simp] theorem isStr_51 : isStr env.P 51 = false := by kernel_rfl
@[simp] theorem tzero_51 : tzero env.P 51 = (some (.tup [(.v (.bool false)), (.v (.int .i64 0))])) := by kernel_rfl
@[simp] theorem tbytes_51 : tbytes env.P 51 = (some 0) := by kernel_rfl
@[simp] theorem apT_51 : apT env.P 51 = true := by kernel_rfl
@[simp] theorem leafT_51 : leafT env.P 51 = none := by kernel_rfl
@[simp] theorem fieldTys_51 : fieldTys env.P 51 = none := by kernel_rfl
@[simp] theorem isBool_51 : isBool env.P 51 = false := by kernel_rfl
@[simp] theorem plain_51 : plain env.P 20 51 = false := by kernel_rfl
@[simp] theorem isInt_51 : isInt env.P 51 = false := by kernel_rfl
@[simp] theorem intKind_51 : intKind env.P 51 = none := by kernel_rfl
@[simp] theorem isBys_51 : isByteSlice env.P 51 = false := by kernel_rfl
@[simp] theorem undS_51 : (env.P.underlying 51).isNone = false := by kernel_rfl
@[simp] theorem tsize_52 : tsize env.P 52 = (some 1) := by kernel_rfl
@[simp] theorem tagg_52 : tagg env.P 52 = (some false) := by kernel_rfl
@[simp] theorem telem_52 : telem env.P 52 = none := by kernel_rfl
@[simp] theorem tarr_52 : tarr env.P 52 = none := by kernel_rfl
@[simp] theorem isStr_52 : isStr env.P 52 = false := by kernel_rfl
@[simp] theorem tzero_52 : tzero env.P 52 = (some (.v .nilFunc)) := by kernel_rfl
@[simp] theorem tbytes_52 : tbytes env.P 52 = (some 8) := by kernel_rfl
@[simp] theorem apT_52 : apT env.P 52 = true := by kernel_rfl
@[simp] theorem leafT_52 : leafT env.P 52 = none := by kernel_rfl
@[simp] theorem fieldTys_52 : fieldTys env.P 52 = none := by kernel_rfl
@[simp] theorem isBool_52 : isBool env.P 52 = false := by kernel_rfl
@[simp] theorem plain_52 : plain env.P 20 52 = false := by kernel_rfl
@[simp] theorem isInt_52 : isInt env.P 52 = false := by kernel_rfl
@[simp] theorem intKind_52 : intKind env.P 52 = none := by kernel_rfl
@[simp] theorem isBys_52 : isByteSlice env.P 52 = false := by kernel_rfl
@[simp] theorem undS_52 : (env.P.underlying 52).isNone = false := by kernel_rfl
@[simp] theorem tsize_53 : tsize env.P 53 = (some 1) := by kernel_rfl
@[simp] theorem tagg_53 : tagg env.P 53 = (some false) := by kernel_rfl
@[simp] theorem telem_53 : telem env.P 53 = none := by kernel_rfl
@[simp] theorem tarr_53 : tarr env.P 53 = none := by kernel_rfl
@[simp] theorem isStr_53 : isStr env.P 53 = false := by kernel_rfl
@[simp] theorem tbytes_53 : tbytes env.P 53 = (some 0) := by kernel_rfl
@[simp] theorem apT_53 : apT env.P 53 = true := by kernel_rfl
@[simp] theorem leafT_53 : leafT env.P 53 = none := by kernel_rfl
@[simp] theorem fieldTys_53 : fieldTys env.P 53 = none := by kernel_rfl
@[simp] theorem isBool_53 : isBool env.P 53 = false := by kernel_rfl
@[simp] theorem plain_53 : plain env.P 20 53 = false := by kernel_rfl
@[simp] theorem isInt_53 : isInt env.P 53 = false := by kernel_rfl
@[simp] theorem intKind_53 : intKind env.P 53 = none := by kernel_rfl
@[simp] theorem isBys_53 : isByteSlice env.P 53 = false := by kernel_rfl
@[simp] theorem undS_53 : (env.P.underlying 53).isNone = false := by kernel_rfl
@[simp] theorem tsize_54 : tsize env.P 54 = (some 1) := by kernel_rfl
@[simp] theorem tagg_54 : tagg env.P 54 = (some false) := by kernel_rfl
@[simp] theorem telem_54 : telem env.P 54 = none := by kernel_rfl
@[simp] theorem tarr_54 : tarr env.P 54 = none := by kernel_rfl
@[simp] theorem isStr_54 : isStr env.P 54 = false := by kernel_rfl
@[simp] theorem tzero_54 : tzero env.P 54 = (some (.v .nilFunc)) := by kernel_rfl
@[simp] theorem tbytes_54 : tbytes env.P 54 = (some 8) := by kernel_rfl
@[simp] theorem apT_54 : apT env.P 54 = true := by kernel_rfl
@[simp] theorem leafT_54 : leafT env.P 54 = none := by kernel_rfl
@[simp] theorem fieldTys_54 : fieldTys env.P 54 = none := by kernel_rfl
@[simp] theorem isBool_54 : isBool env.P 54 = false := by kernel_rfl
@[simp] theorem plain_54 : plain env.P 20 54 = false := by kernel_rfl
@[simp] theorem isInt_54 : isInt env.P 54 = false := by kernel_rfl
@[simp] theorem intKind_54 : intKind env.P 54 = none := by kernel_rfl
@[simp] theorem isBys_54 : isByteSlice env.P 54 = false := by kernel_rfl
@[simp] theorem undS_54 : (env.P.underlying 54).isNone = false := by kernel_rfl
@[simp] theorem tsize_55 : tsize env.P 55 = (some 1) := by kernel_rfl
@[simp] theorem tagg_55 : tagg env.P 55 = (some false) := by kernel_rfl
@[simp] theorem telem_55 : telem env.P 55 = none := by kernel_rfl
@[simp] theorem tarr_55 : tarr env.P 55 = none := by kernel_rfl
@[simp] theorem isStr_55 : isStr env.P 55 = false := by kernel_rfl
@[simp] theorem tzero_55 : tzero env.P 55 = (some (.v .nilFunc)) := by kernel_rfl
@[simp] theorem tbytes_55 : tbytes env.P 55 = (some 8) := by kernel_rfl
@[simp] theorem apT_55 : apT env.P 55 = true := by kernel_rfl
@[simp] theorem leafT_55 : leafT env.P 55 = none := by kernel_rfl
@[simp] theorem fieldTys_55 : fieldTys env.P 55 = none := by kernel_rfl
@[simp] theorem isBool_55 : isBool env.P 55 = false := by kernel_rfl
@[simp] theorem plain_55 : plain env.P 20 55 = false := by kernel_rfl
@[simp] theorem isInt_55 : isInt env.P 55 = false := by kernel_rfl
@[simp] theorem intKind_55 : intKind env.P 55 = none := by kernel_rfl
@[simp] theorem isBys_55 : isByteSlice env.P 55 = false := by kernel_rfl
@[simp] theorem undS_55 : (env.P.underlying 55).isNone = false := by kernel_rfl
@[simp] theorem tsize_56 : tsize env.P 56 = (some 1) := by kernel_rfl
@[simp] theorem tagg_56 : tagg env.P 56 = (some false) := by kernel_rfl
@[simp] theorem telem_56 : telem env.P 56 = none := by kernel_rfl
@[simp] theorem tarr_56 : tarr env.P 56 = none := by kernel_rfl
@[simp] theorem isStr_56 : isStr env.P 56 = false := by kernel_rfl
@[simp] theorem tzero_56 : tzero env.P 56 = (some (.v .nilFunc)) := by kernel_rfl
@[simp] theorem tbytes_56 : tbytes env.P 56 = (some 8) := by kernel_rfl
@[simp] theorem apT_56 : apT env.P 56 = true := by kernel_rfl
@[simp] theorem leafT_56 : leafT env.P 56 = none := by kernel_rfl
@[simp] theorem fieldTys_56 : fieldTys env.P 56 = none := by kernel_rfl
@[simp] theorem isBool_56 : isBool env.P 56 = false := by kernel_rfl
@[simp] theorem plain_56 : plain env.P 20 56 = false := by kernel_rfl
@[simp] theorem isInt_56 : isInt env.P 56 = false := by kernel_rfl
@[simp] theorem intKind_56 : intKind env.P 56 = none := by kernel_rfl
@[simp] theorem isBys_56 : isByteSlice env.P 56 = false := by kernel_rfl
@[simp] theorem undS_56 : (env.P.underlying 56).isNone = false := by kernel_rfl
@[simp] theorem tsize_57 : tsize env.P 57 = (some 1) := by kernel_rfl
@[simp] theorem tagg_57 : tagg env.P 57 = (some false) := by kernel_rfl
@[simp] theorem telem_57 : telem env.P 57 = none := by kernel_rfl
@[simp] theorem tarr_57 : tarr env.P 57 = none := by kernel_rfl
@[simp] theorem isStr_57 : isStr env.P 57 = false := by kernel_rfl
@[simp] theorem tzero_57 : tzero env.P 57 = (some (.v .nilFunc)) := by kernel_rfl
@[simp] theorem tbytes_57 : tbytes env.P 57 = (some 8) := by kernel_rfl
@[simp] theorem apT_57 : apT env.P 57 = true := by kernel_rfl
@[simp] theorem leafT_57 : leafT env.P 57 = none := by kernel_rfl
@[simp] theorem fieldTys_57 : fieldTys env.P 57 = none := by kernel_rfl
@[simp] theorem isBool_57 : isBool env.P 57 = false := by kernel_rfl
@[simp] theorem plain_57 : plain env.P 20 57 = false := by kernel_rfl
@[simp] theorem isInt_57 : isInt env.P 57 = false := by kernel_rfl
@[simp] theorem intKind_57 : intKind env.P 57 = none := by kernel_rfl
@[simp] theorem isBys_57 : isByteSlice env.P 57 = false := by kernel_rfl
@[simp] theorem undS_57 : (env.P.underlying 57).isNone = false := by kernel_rfl
@[simp] theorem tsize_58 : tsize env.P 58 = (some 4) := by kernel_rfl
@[simp] theorem tagg_58 : tagg env.P 58 = (some true) := by kernel_rfl
@[simp] theorem telem_58 : telem env.P 58 = none := by kernel_rfl
@[simp] theorem tarr_58 : tarr env.P 58 = none := by kernel_rfl
@[simp] theorem isStr_58 : isStr env.P 58 = false := by kernel_rfl
@[simp] theorem tzero_58 : tzero env.P 58 = (some (.agg [(.v (.int .i64 0)), (a8 0), (a32 0), (.v (.bool false))])) := by kernel_rfl
@[simp] theorem tbytes_58 : tbytes env.P 58 = (some 24) := by kernel_rfl
@[simp] theorem apT_58 : apT env.P 58 = true := by kernel_rfl
@[simp] theorem leafT_58 : leafT env.P 58 = none := by kernel_rfl
@[simp] theorem eqTy_58 : eqTy env.P 58 = true := by kernel_rfl
@[simp] theorem fieldTys_58 : fieldTys env.P 58 = (some [3, 39]) := by kernel_rfl
@[simp] theorem isBool_58 : isBool env.P 58 = false := by kernel_rfl
@[simp] theorem plain_58 : plain env.P 20 58 = true := by kernel_rfl
@[simp] theorem isInt_58 : isInt env.P 58 = false := by kernel_rfl
@[simp] theorem intKind_58 : intKind env.P 58 = none := by kernel_rfl
@[simp] theorem isBys_58 : isByteSlice env.P 58 = false := by kernel_rfl
@[simp] theorem undS_58 : (env.P.underlying 58).isNone = false := by kernel_rfl
@[simp] theorem places_58 : placesOf env.P 58 = (some [(0, 1), (1, 3)]) := by kernel_rfl
@[simp] theorem tfield_0_58 : tfield env.P 58 0 = (some (0, 3)) := by kernel_rfl
@[simp] theorem fplace_0_58 : fieldPlaces env.P 58 0 = (some (0, 1)) := by kernel_rfl
@[simp] theorem tfield_1_58 : tfield env.P 58 1 = (some (1, 39)) := by kernel_rfl
@[simp] theorem fplace_1_58 : fieldPlaces env.P 58 1 = (some (1, 3)) := by kernel_rfl
@[simp] theorem tsize_59 : tsize env.P 59 = (some 4) := by kernel_rfl
@[simp] theorem tagg_59 : tagg env.P 59 = (some true) := by kernel_rfl
@[simp] theorem telem_59 : telem env.P 59 = none := by kernel_rfl
@[simp] theorem tarr_59 : tarr env.P 59 = none := by kernel_rfl
@[simp] theorem isStr_59 : isStr env.P 59 = false := by kernel_rfl
@[simp] theorem tzero_59 : tzero env.P 59 = (some (.agg [(.v (.int .i64 0)), (a8 0), (a32 0), (.v (.bool false))])) := by kernel_rfl
@[simp] theorem tbytes_59 : tbytes env.P 59 = (some 24) := by kernel_rfl
@[simp] theorem apT_59 : apT env.P 59 = true := by kernel_rfl
@[simp] theorem leafT_59 : leafT env.P 59 = none := by kernel_rfl
@[simp] theorem eqTy_59 : eqTy env.P 59 = true := by kernel_rfl
@[simp] theorem fieldTys_59 : fieldTys env.P 59 = (some [3, 39]) := by kernel_rfl
@[simp] theorem isBool_59 : isBool env.P 59 = false := by kernel_rfl
@[simp] theorem plain_59 : plain env.P 20 59 = true := by kernel_rfl
@[simp] theorem isInt_59 : isInt env.P 59 = false := by kernel_rfl
@[simp] theorem intKind_59 : intKind env.P 59 = none := by kernel_rfl
@[simp] theorem isBys_59 : isByteSlice env.P 59 = false := by kernel_rfl
@[simp] theorem undS_59 : (env.P.underlying 59).isNone = false := by kernel_rfl
@[simp] theorem places_59 : placesOf env.P 59 = (some [(0, 1), (1, 3)]) := by kernel_rfl
@[simp] theorem tfield_0_59 : tfield env.P 59 0 = (some (0, 3)) := by kernel_rfl
@[simp] theorem fplace_0_59 : fieldPlaces env.P 59 0 = (some (0, 1)) := by kernel_rfl
@[simp] theorem tfield_1_59 : tfield env.P 59 1 = (some (1, 39)) := by kernel_rfl
@[simp] theorem fplace_1_59 : fieldPlaces env.P 59 1 = (some (1, 3)) := by kernel_rfl
@[simp] theorem tsize_60 : tsize env.P 60 = (some 1) := by kernel_rfl
@[simp] theorem tagg_60 : tagg env.P 60 = (some false) := by kernel_rfl
@[simp] theorem telem_60 : telem env.P 60 = (some 5) := by kernel_rfl
@[simp] theorem tarr_60 : tarr env.P 60 = none := by kernel_rfl
@[simp] theorem isStr_60 : isStr env.P 60 = false := by kernel_rfl
@[simp] theorem tzero_60 : tzero env.P 60 = (some (.v (.slice none 0 0))) := by kernel_rfl
@[simp] theorem tbytes_60 : tbytes env.P 60 = (some 24) := by kernel_rfl
@[simp] theorem apT_60 : apT env.P 60 = true := by kernel_rfl
@[simp] theorem leafT_60 : leafT env.P 60 = none := by kernel_rfl
@[simp] theorem fieldTys_60 : fieldTys env.P 60 = none := by kernel_rfl
@[simp] theorem isBool_60 : isBool env.P 60 = false := by kernel_rfl
@[simp] theorem plain_60 : plain env.P 20 60 = true := by kernel_rfl
@[simp] theorem elT_60 : elT env.P 60 1 1 = true := by kernel_rfl
@[simp] theorem isInt_60 : isInt env.P 60 = false := by kernel_rfl
@[simp] theorem intKind_60 : intKind env.P 60 = none := by kernel_rfl
@[simp] theorem isBys_60 : isByteSlice env.P 60 = true := by kernel_rfl
@[simp] theorem undS_60 : (env.P.underlying 60).isNone = false := by kernel_rfl
@[simp] theorem tsize_61 : tsize env.P 61 = (some 1) := by kernel_rfl
@[simp] theorem tagg_61 : tagg env.P 61 = (some false) := by kernel_rfl
@[simp] theorem telem_61 : telem env.P 61 = none := by kernel_rfl
@[simp] theorem tarr_61 : tarr env.P 61 = none := by kernel_rfl
@[simp] theorem isStr_61 : isStr env.P 61 = false := by kernel_rfl
@[simp] theorem tzero_61 : tzero env.P 61 = (some (.tup [(.v (.slice none 0 0)), (.v (.int .i64 0))])) := by kernel_rfl
@[simp] theorem tbytes_61 : tbytes env.P 61 = (some 0) := by kernel_rfl
@[simp] theorem apT_61 : apT env.P 61 = true := by kernel_rfl
@[simp] theorem leafT_61 : leafT env.P 61 = none := by kernel_rfl
@[simp] theorem fieldTys_61 : fieldTys env.P 61 = none := by kernel_rfl
@[simp] theorem isBool_61 : isBool env.P 61 = false := by kernel_rfl
@[simp] theorem plain_61 : plain env.P 20 61 = false := by kernel_rfl
@[simp] theorem isInt_61 : isInt env.P 61 = false := by kernel_rfl
@[simp] theorem intKind_61 : intKind env.P 61 = none := by kernel_rfl
@[simp] theorem isBys_61 : isByteSlice env.P 61 = false := by kernel_rfl
@[simp] theorem undS_61 : (env.P.underlying 61).isNone = false := by kernel_rfl
@[simp] theorem tsize_62 : tsize env.P 62 = (some 1) := by kernel_rfl
@[simp] theorem tagg_62 : tagg env.P 62 = (some false) := by kernel_rfl
@[simp] theorem telem_62 : telem env.P 62 = none := by kernel_rfl
@[simp] theorem tarr_62 : tarr env.P 62 = none := by kernel_rfl
@[simp] theorem isStr_62 : isStr env.P 62 = false := by kernel_rfl
@[simp] theorem tzero_62 : tzero env.P 62 = (some (.v .nilFunc)) := by kernel_rfl
@[simp] theorem tbytes_62 : tbytes env.P 62 = (some 8) := by kernel_rfl
@[simp] theorem apT_62 : apT env.P 62 = true := by kernel_rfl
@[simp] theorem leafT_62 : leafT env.P 62 = none := by kernel_rfl
@[simp] theorem fieldTys_62 : fieldTys env.P 62 = none := by kernel_rfl
@[simp] theorem isBool_62 : isBool env.P 62 = false := by kernel_rfl
@[simp] theorem plain_62 : plain env.P 20 62 = false := by kernel_rfl
@[simp] theorem isInt_62 : isInt env.P 62 = false := by kernel_rfl
@[simp] theorem intKind_62 : intKind env.P 62 = none := by kernel_rfl
@[simp] theorem isBys_62 : isByteSlice env.P 62 = false := by kernel_rfl
@[simp] theorem undS_62 : (env.P.underlying 62).isNone = false := by kernel_rfl
@[simp] theorem tsize_63 : tsize env.P 63 = (some 1) := by kernel_rfl
@[simp] theorem tagg_63 : tagg env.P 63 = (some false) := by kernel_rfl
@[simp] theorem telem_63 : telem env.P 63 = none := by kernel_rfl
@[simp] theorem tarr_63 : tarr env.P 63 = none := by kernel_rfl
@[simp] theorem isStr_63 : isStr env.P 63 = false := by kernel_rfl
@[simp] theorem tzero_63 : tzero env.P 63 = (some (.tup [(.v (.slice none 0 0)), (.v (.int .i64 0))])) := by kernel_rfl
@[simp] theorem tbytes_63 : tbytes env.P 63 = (some 0) := by kernel_rfl
@[simp] theorem apT_63 : apT env.P 63 = true := by kernel_rfl
@[simp] theorem leafT_63 : leafT env.P 63 = none := by kernel_rfl
@[simp] theorem fieldTys_63 : fieldTys env.P 63 = none := by kernel_rfl
@[simp] theorem isBool_63 : isBool env.P 63 = false := by kernel_rfl
@[simp] theorem plain_63 : plain env.P 20 63 = false := by kernel_rfl
@[simp] theorem isInt_63 : isInt env.P 63 = false := by kernel_rfl
@[simp] theorem intKind_63 : intKind env.P 63 = none := by kernel_rfl
@[simp] theorem isBys_63 : isByteSlice env.P 63 = false := by kernel_rfl
@[simp] theorem undS_63 : (env.P.underlying 63).isNone = false := by kernel_rfl
@[simp] theorem tsize_64 : tsize env.P 64 = (some 1) := by kernel_rfl
@[simp] theorem tagg_64 : tagg env.P 64 = (some false) := by kernel_rfl
@[simp] theorem telem_64 : telem env.P 64 = none := by kernel_rfl
@[simp] theorem tarr_64 : tarr env.P 64 = none := by kernel_rfl
@[simp] theorem isStr_64 : isStr env.P 64 = false := by kernel_rfl
@[simp] theorem tzero_64 : tzero env.P 64 = (some (.v .nilFunc)) := by kernel_rfl
@[simp] theorem tbytes_64 : tbytes env.P 64 = (some 8) := by kernel_rfl
@[simp] theorem apT_64 : apT env.P 64 = true := by kernel_rfl
@[simp] theorem leafT_64 : leafT env.P 64 = none := by kernel_rfl
@[simp] theorem fieldTys_64 : fieldTys env.P 64 = none := by kernel_rfl
@[simp] theorem isBool_64 : isBool env.P 64 = false := by kernel_rfl
@[simp] theorem plain_64 : plain env.P 20 64 = false := by kernel_rfl
@[simp] theorem isInt_64 : isInt env.P 64 = false := by kernel_rfl
@[simp] theorem intKind_64 : intKind env.P 64 = none := by kernel_rfl
@[simp] theorem isBys_64 : isByteSlice env.P 64 = false := by kernel_rfl
@[simp] theorem undS_64 : (env.P.underlying 64).isNone = false := by kernel_rfl
@[simp] theorem tsize_65 : tsize env.P 65 = (some 1) := by kernel_rfl
@[simp] theorem tagg_65 : tagg env.P 65 = (some false) := by kernel_rfl
@[simp] theorem telem_65 : telem env.P 65 = none := by kernel_rfl
@[simp] theorem tarr_65 : tarr env.P 65 = none := by kernel_rfl
@[simp] theorem isStr_65 : isStr env.P 65 = false := by kernel_rfl
@[simp] theorem tbytes_65 : tbytes env.P 65 = (some 0) := by kernel_rfl
@[simp] theorem apT_65 : apT env.P 65 = true := by kernel_rfl
@[simp] theorem leafT_65 : leafT env.P 65 = none := by kernel_rfl
@[simp] theorem fieldTys_65 : fieldTys env.P 65 = none := by kernel_rfl
@[simp] theorem isBool_65 : isBool env.P 65 = false := by kernel_rfl
@[simp] theorem plain_65 : plain env.P 20 65 = false := by kernel_rfl
@[simp] theorem isInt_65 : isInt env.P 65 = false := by kernel_rfl
@[simp] theorem intKind_65 : intKind env.P 65 = none := by kernel_rfl
@[simp] theorem isBys_65 : isByteSlice env.P 65 = false := by kernel_rfl
@[simp] theorem undS_65 : (env.P.underlying 65).isNone = false := by kernel_rfl
@[simp] theorem tsize_66 : tsize env.P 66 = (some 1) := by kernel_rfl
@[simp] theorem tagg_66 : tagg env.P 66 = (some false) := by kernel_rfl
@[simp] theorem telem_66 : telem env.P 66 = none := by kernel_rfl
@[simp] theorem tarr_66 : tarr env.P 66 = none := by kernel_rfl
@[simp] theorem isStr_66 : isStr env.P 66 = false := by kernel_rfl
@[simp] theorem tzero_66 : tzero env.P 66 = (some (.v .nilFunc)) := by kernel_rfl
@[simp] theorem tbytes_66 : tbytes env.P 66 = (some 8) := by kernel_rfl
@[simp] theorem apT_66 : apT env.P 66 = true := by kernel_rfl
@[simp] theorem leafT_66 : leafT env.P 66 = none := by kernel_rfl
@[simp] theorem fieldTys_66 : fieldTys env.P 66 = none := by kernel_rfl
@[simp] theorem isBool_66 : isBool env.P 66 = false := by kernel_rfl
@[simp] theorem plain_66 : plain env.P 20 66 = false := by kernel_rfl
@[simp] theorem isInt_66 : isInt env.P 66 = false := by kernel_rfl
@[simp] theorem intKind_66 : intKind env.P 66 = none := by kernel_rfl
@[simp] theorem isBys_66 : isByteSlice env.P 66 = false := by kernel_rfl
@[simp] theorem undS_66 : (env.P.underlying 66).isNone = false := by kernel_rfl
@[simp] theorem tsize_67 : tsize env.P 67 = (some 1) := by kernel_rfl
@[simp] theorem tagg_67 : tagg env.P 67 = (some false) := by kernel_rfl
@[simp] theorem telem_67 : telem env.P 67 = none := by kernel_rfl
@[simp] theorem tarr_67 : tarr env.P 67 = none := by kernel_rfl
@[simp] theorem isStr_67 : isStr env.P 67 = false := by kernel_rfl
@[simp] theorem tbytes_67 : tbytes env.P 67 = (some 0) := by kernel_rfl
@[simp] theorem apT_67 : apT env.P 67 = true := by kernel_rfl
@[simp] theorem leafT_67 : leafT env.P 67 = none := by kernel_rfl
@[simp] theorem fieldTys_67 : fieldTys env.P 67 = none := by kernel_rfl
@[simp] theorem isBool_67 : isBool env.P 67 = false := by kernel_rfl
@[simp] theorem plain_67 : plain env.P 20 67 = false := by kernel_rfl
@[simp] theorem isInt_67 : isInt env.P 67 = false := by kernel_rfl
@[simp] theorem intKind_67 : intKind env.P 67 = none := by kernel_rfl
@[simp] theorem isBys_67 : isByteSlice env.P 67 = false := by kernel_rfl
@[simp] theorem undS_67 : (env.P.underlying 67).isNone = false := by kernel_rfl
@[simp] theorem tsize_68 : tsize env.P 68 = (some 1) := by kernel_rfl
@[simp] theorem tagg_68 : tagg env.P 68 = (some false) := by kernel_rfl
@[simp] theorem telem_68 : telem env.P 68 = none := by kernel_rfl
@[simp] theorem tarr_68 : tarr env.P 68 = none := by kernel_rfl
@[simp] theorem isStr_68 : isStr env.P 68 = false := by kernel_rfl
@[simp] theorem tzero_68 : tzero env.P 68 = (some (.v .nilFunc)) := by kernel_rfl
@[simp] theorem tbytes_68 : tbytes env.P 68 = (some 8) := by kernel_rfl
@[simp] theorem apT_68 : apT env.P 68 = true := by kernel_rfl
@[simp] theorem leafT_68 : leafT env.P 68 = none := by kernel_rfl
@[simp] theorem fieldTys_68 : fieldTys env.P 68 = none := by kernel_rfl
@[simp] theorem isBool_68 : isBool env.P 68 = false := by kernel_rfl
@[simp] theorem plain_68 : plain env.P 20 68 = false := by kernel_rfl
@[simp] theorem isInt_68 : isInt env.P 68 = false := by kernel_rfl
@[simp] theorem intKind_68 : intKind env.P 68 = none := by kernel_rfl
@[simp] theorem isBys_68 : isByteSlice env.P 68 = false := by kernel_rfl
@[simp] theorem undS_68 : (env.P.underlying 68).isNone = false := by kernel_rfl
@[simp] theorem tsize_69 : tsize env.P 69 = (some 1) := by kernel_rfl
@[simp] theorem tagg_69 : tagg env.P 69 = (some false) := by kernel_rfl
@[simp] theorem telem_69 : telem env.P 69 = none := by kernel_rfl
@[simp] theorem tarr_69 : tarr env.P 69 = none := by kernel_rfl
@[simp] theorem isStr_69 : isStr env.P 69 = false := by kernel_rfl
@[simp] theorem tzero_69 : tzero env.P 69 = (some (.v .nilFunc)) := by kernel_rfl
@[simp] theorem tbytes_69 : tbytes env.P 69 = (some 8) := by kernel_rfl
@[simp] theorem apT_69 : apT env.P 69 = true := by kernel_rfl
@[simp] theorem leafT_69 : leafT env.P 69 = none := by kernel_rfl
@[simp] theorem fieldTys_69 : fieldTys env.P 69 = none := by kernel_rfl
@[simp] theorem isBool_69 : isBool env.P 69 = false := by kernel_rfl
@[simp] theorem plain_69 : plain env.P 20 69 = false := by kernel_rfl
@[simp] theorem isInt_69 : isInt env.P 69 = false := by kernel_rfl
@[simp] theorem intKind_69 : intKind env.P 69 = none := by kernel_rfl
@[simp] theorem isBys_69 : isByteSlice env.P 69 = false := by kernel_rfl
@[simp] theorem undS_69 : (env.P.underlying 69).isNone = false := by kernel_rfl
@[simp] theorem tsize_70 : tsize env.P 70 = (some 1) := by kernel_rfl
@[simp] theorem tagg_70 : tagg env.P 70 = (some false) := by kernel_rfl
@[simp] theorem telem_70 : telem env.P 70 = (some 59) := by kernel_rfl
@[simp] theorem tarr_70 : tarr env.P 70 = none := by kernel_rfl
@[simp] theorem isStr_70 : isStr env.P 70 = false := by kernel_rfl
@[simp] theorem tzero_70 : tzero env.P 70 = (some (.v (.slice none 0 0))) := by kernel_rfl
@[simp] theorem tbytes_70 : tbytes env.P 70 = (some 24) := by kernel_rfl
@[simp] theorem apT_70 : apT env.P 70 = true := by kernel_rfl
@[simp] theorem leafT_70 : leafT env.P 70 = none := by kernel_rfl
@[simp] theorem fieldTys_70 : fieldTys env.P 70 = none := by kernel_rfl
@[simp] theorem isBool_70 : isBool env.P 70 = false := by kernel_rfl
@[simp] theorem plain_70 : plain env.P 20 70 = true := by kernel_rfl
@[simp] theorem elT_70 : elT env.P 70 4 24 = true := by kernel_rfl
@[simp] theorem isInt_70 : isInt env.P 70 = false := by kernel_rfl
@[simp] theorem intKind_70 : intKind env.P 70 = none := by kernel_rfl
@[simp] theorem isBys_70 : isByteSlice env.P 70 = false := by kernel_rfl
@[simp] theorem undS_70 : (env.P.underlying 70).isNone = false := by kernel_rfl
@[simp] theorem tsize_71 : tsize env.P 71 = (some 1) := by kernel_rfl
@[simp] theorem tagg_71 : tagg env.P 71 = (some false) := by kernel_rfl
@[simp] theorem telem_71 : telem env.P 71 = none := by kernel_rfl
@[simp] theorem tarr_71 : tarr env.P 71 = none := by kernel_rfl
@[simp] theorem isStr_71 : isStr env.P 71 = false := by kernel_rfl
@[simp] theorem tbytes_71 : tbytes env.P 71 = (some 0) := by kernel_rfl
@[simp] theorem apT_71 : apT env.P 71 = true := by kernel_rfl
@[simp] theorem leafT_71 : leafT env.P 71 = none := by kernel_rfl
@[simp] theorem fieldTys_71 : fieldTys env.P 71 = none := by kernel_rfl
@[simp] theorem isBool_71 : isBool env.P 71 = false := by kernel_rfl
@[simp] theorem plain_71 : plain env.P 20 71 = false := by kernel_rfl
@[simp] theorem isInt_71 : isInt env.P 71 = false := by kernel_rfl
@[simp] theorem intKind_71 : intKind env.P 71 = none := by kernel_rfl
@[simp] theorem isBys_71 : isByteSlice env.P 71 = false := by kernel_rfl
@[simp] theorem undS_71 : (env.P.underlying 71).isNone = false := by kernel_rfl
@[simp] theorem tsize_72 : tsize env.P 72 = (some 1) := by kernel_rfl
@[simp] theorem tagg_72 : tagg env.P 72 = (some false) := by kernel_rfl
@[simp] theorem telem_72 : telem env.P 72 = none := by kernel_rfl
@[simp] theorem tarr_72 : tarr env.P 72 = none := by kernel_rfl
@[simp] theorem isStr_72 : isStr env.P 72 = false := by kernel_rfl
@[simp] theorem tzero_72 : tzero env.P 72 = (some (.v .nilFunc)) := by kernel_rfl
@[simp] theorem tbytes_72 : tbytes env.P 72 = (some 8) := by kernel_rfl
@[simp] theorem apT_72 : apT env.P 72 = true := by kernel_rfl
@[simp] theorem leafT_72 : leafT env.P 72 = none := by kernel_rfl
@[simp] theorem fieldTys_72 : fieldTys env.P 72 = none := by kernel_rfl
@[simp] theorem isBool_72 : isBool env.P 72 = false := by kernel_rfl
@[simp] theorem plain_72 : plain env.P 20 72 = false := by kernel_rfl
@[simp] theorem isInt_72 : isInt env.P 72 = false := by kernel_rfl
@[simp] theorem intKind_72 : intKind env.P 72 = none := by kernel_rfl
@[simp] theorem isBys_72 : isByteSlice env.P 72 = false := by kernel_rfl
@[simp] theorem undS_72 : (env.P.underlying 72).isNone = false := by kernel_rfl
@[simp] theorem tsize_73 : tsize env.P 73 = (some 1) := by kernel_rfl
@[simp] theorem tagg_73 : tagg env.P 73 = (some false) := by kernel_rfl
@[simp] theorem telem_73 : telem env.P 73 = none := by kernel_rfl
@[simp] theorem tarr_73 : tarr env.P 73 = none := by kernel_rfl
@[simp] theorem isStr_73 : isStr env.P 73 = false := by kernel_rfl
@[simp] theorem tbytes_73 : tbytes env.P 73 = (some 0) := by kernel_rfl
@[simp] theorem apT_73 : apT env.P 73 = true := by kernel_rfl
@[simp] theorem leafT_73 : leafT env.P 73 = none := by kernel_rfl
@[simp] theorem fieldTys_73 : fieldTys env.P 73 = none := by kernel_rfl
@[simp] theorem isBool_73 : isBool env.P 73 = false := by kernel_rfl
@[simp] theorem plain_73 : plain env.P 20 73 = false := by kernel_rfl
@[simp] theorem isInt_73 : isInt env.P 73 = false := by kernel_rfl
@[simp] theorem intKind_73 : intKind env.P 73 = none := by kernel_rfl
@[simp] theorem isBys_73 : isByteSlice env.P 73 = false := by kernel_rfl
@[simp] theorem undS_73 : (env.P.underlying 73).isNone = false := by kernel_rfl
@[simp] theorem tsize_74 : tsize env.P 74 = (some 1) := by kernel_rfl
@[simp] theorem tagg_74 : tagg env.P 74 = (some false) := by kernel_rfl
@[simp] theorem telem_74 : telem env.P 74 = none := by kernel_rfl
@[simp] theorem tarr_74 : tarr env.P 74 = none := by kernel_rfl
@[simp] theorem isStr_74 : isStr env.P 74 = false := by kernel_rfl
@[simp] theorem tzero_74 : tzero env.P 74 = (some (.v .nilFunc)) := by kernel_rfl
@[simp] theorem tbytes_74 : tbytes env.P 74 = (some 8) := by kernel_rfl
@[simp] theorem apT_74 : apT env.P 74 = true := by kernel_rfl
@[simp] theorem leafT_74 : leafT env.P 74 = none := by kernel_rfl
@[simp] theorem fieldTys_74 : fieldTys env.P 74 = none := by kernel_rfl
@[simp] theorem isBool_74 : isBool env.P 74 = false := by kernel_rfl
@[simp] theorem plain_74 : plain env.P 20 74 = false := by kernel_rfl
@[simp] theorem isInt_74 : isInt env.P 74 = false := by kernel_rfl
@[simp] theorem intKind_74 : intKind env.P 74 = none := by kernel_rfl
@[simp] theorem isBys_74 : isByteSlice env.P 74 = false := by kernel_rfl
@[simp] theorem undS_74 : (env.P.underlying 74).isNone = false := by kernel_rfl
@[simp] theorem tsize_75 : tsize env.P 75 = (some 1) := by kernel_rfl
@[simp] theorem tagg_75 : tagg env.P 75 = (some false) := by kernel_rfl
@[simp] theorem telem_75 : telem env.P 75 = (some 27) := by kernel_rfl
@[simp] theorem tarr_75 : tarr env.P 75 = none := by kernel_rfl
@[simp] theorem isStr_75 : isStr env.P 75 = false := by kernel_rfl
@[simp] theorem tzero_75 : tzero env.P 75 = (some (.v (.slice none 0 0))) := by kernel_rfl
@[simp] theorem tbytes_75 : tbytes env.P 75 = (some 24) := by kernel_rfl
@[simp] theorem apT_75 : apT env.P 75 = true := by kernel_rfl
@[simp] theorem leafT_75 : leafT env.P 75 = none := by kernel_rfl
@[simp] theorem fieldTys_75 : fieldTys env.P 75 = none := by kernel_rfl
@[simp] theorem isBool_75 : isBool env.P 75 = false := by kernel_rfl
@[simp] theorem plain_75 : plain env.P 20 75 = true := by kernel_rfl
@[simp] theorem elT_75 : elT env.P 75 1 8 = true := by kernel_rfl
@[simp] theorem isInt_75 : isInt env.P 75 = false := by kernel_rfl
@[simp] theorem intKind_75 : intKind env.P 75 = none := by kernel_rfl
@[simp] theorem isBys_75 : isByteSlice env.P 75 = false := by kernel_rfl
@[simp] theorem undS_75 : (env.P.underlying 75).isNone = false := by kernel_rfl
@[simp] theorem tsize_76 : tsize env.P 76 = (some 1) := by kernel_rfl
@[simp] theorem tagg_76 : tagg env.P 76 = (some false) := by kernel_rfl
@[simp] theorem telem_76 : telem env.P 76 = none := by kernel_rfl
@[simp] theorem tarr_76 : tarr env.P 76 = none := by kernel_rfl
@[simp] theorem isStr_76 : isStr env.P 76 = false := by kernel_rfl
@[simp] theorem tbytes_76 : tbytes env.P 76 = (some 0) := by kernel_rfl
@[simp] theorem apT_76 : apT env.P 76 = true := by kernel_rfl
@[simp] theorem leafT_76 : leafT env.P 76 = none := by kernel_rfl
@[simp] theorem fieldTys_76 : fieldTys env.P 76 = none := by kernel_rfl
@[simp] theorem isBool_76 : isBool env.P 76 = false := by kernel_rfl
@[simp] theorem plain_76 : plain env.P 20 76 = false := by kernel_rfl
@[simp] theorem isInt_76 : isInt env.P 76 = false := by kernel_rfl
@[simp] theorem intKind_76 : intKind env.P 76 = none := by kernel_rfl
@[simp] theorem isBys_76 : isByteSlice env.P 76 = false := by kernel_rfl
@[simp] theorem undS_76 : (env.P.underlying 76).isNone = false := by kernel_rfl
@[simp] theorem tsize_77 : tsize env.P 77 = (some 1) := by kernel_rfl
@[simp] theorem tagg_77 : tagg env.P 77 = (some false) := by kernel_rfl
@[simp] theorem telem_77 : telem env.P 77 = none := by kernel_rfl
@[simp] theorem tarr_77 : tarr env.P 77 = none := by kernel_rfl
@[simp] theorem isStr_77 : isStr env.P 77 = false := by kernel_rfl
@[simp] theorem tzero_77 : tzero env.P 77 = (some (.v .nilFunc)) := by kernel_rfl
@[simp] theorem tbytes_77 : tbytes env.P 77 = (some 8) := by kernel_rfl
@[simp] theorem apT_77 : apT env.P 77 = true := by kernel_rfl
@[simp] theorem leafT_77 : leafT env.P 77 = none := by kernel_rfl
@[simp] theorem fieldTys_77 : fieldTys env.P 77 = none := by kernel_rfl
@[simp] theorem isBool_77 : isBool env.P 77 = false := by kernel_rfl
@[simp] theorem plain_77 : plain env.P 20 77 = false := by kernel_rfl
@[simp] theorem isInt_77 : isInt env.P 77 = false := by kernel_rfl
@[simp] theorem intKind_77 : intKind env.P 77 = none := by kernel_rfl
@[simp] theorem isBys_77 : isByteSlice env.P 77 = false := by kernel_rfl
@[simp] theorem undS_77 : (env.P.underlying 77).isNone = false := by kernel_rfl
@[simp] theorem tsize_78 : tsize env.P 78 = (some 1) := by kernel_rfl
@[simp] theorem tagg_78 : tagg env.P 78 = (some false) := by kernel_rfl
@[simp] theorem telem_78 : telem env.P 78 = (some 3) := by kernel_rfl
@[simp] theorem tarr_78 : tarr env.P 78 = none := by kernel_rfl
@[simp] theorem isStr_78 : isStr env.P 78 = false := by kernel_rfl
@[simp] theorem tzero_78 : tzero env.P 78 = (some (.v (.slice none 0 0))) := by kernel_rfl
@[simp] theorem tbytes_78 : tbytes env.P 78 = (some 24) := by kernel_rfl
@[simp] theorem apT_78 : apT env.P 78 = true := by kernel_rfl
@[simp] theorem leafT_78 : leafT env.P 78 = none := by kernel_rfl
@[simp] theorem fieldTys_78 : fieldTys env.P 78 = none := by kernel_rfl
@[simp] theorem isBool_78 : isBool env.P 78 = false := by kernel_rfl
@[simp] theorem plain_78 : plain env.P 20 78 = true := by kernel_rfl
@[simp] theorem elT_78 : elT env.P 78 1 8 = true := by kernel_rfl
@[simp] theorem isInt_78 : isInt env.P 78 = false := by kernel_rfl
@[simp] theorem intKind_78 : intKind env.P 78 = none := by kernel_rfl
@[simp] theorem isBys_78 : isByteSlice env.P 78 = false := by kernel_rfl
@[simp] theorem undS_78 : (env.P.underlying 78).isNone = false := by kernel_rfl
@[simp] theorem tsize_79 : tsize env.P 79 = (some 1) := by kernel_rfl
@[simp] theorem tagg_79 : tagg env.P 79 = (some false) := by kernel_rfl
@[simp] theorem telem_79 : telem env.P 79 = none := by kernel_rfl
@[simp] theorem tarr_79 : tarr env.P 79 = none := by kernel_rfl
@[simp] theorem isStr_79 : isStr env.P 79 = false := by kernel_rfl
@[simp] theorem tbytes_79 : tbytes env.P 79 = (some 0) := by kernel_rfl
@[simp] theorem apT_79 : apT env.P 79 = true := by kernel_rfl
@[simp] theorem leafT_79 : leafT env.P 79 = none := by kernel_rfl
@[simp] theorem fieldTys_79 : fieldTys env.P 79 = none := by kernel_rfl
@[simp] theorem isBool_79 : isBool env.P 79 = false := by kernel_rfl
@[simp] theorem plain_79 : plain env.P 20 79 = false := by kernel_rfl
@[simp] theorem isInt_79 : isInt env.P 79 = false := by kernel_rfl
@[simp] theorem intKind_79 : intKind env.P 79 = none := by kernel_rfl
@[simp] theorem isBys_79 : isByteSlice env.P 79 = false := by kernel_rfl
@[simp] theorem undS_79 : (env.P.underlying 79).isNone = false := by kernel_rfl
@[simp] theorem tsize_80 : tsize env.P 80 = (some 1) := by kernel_rfl
@[simp] theorem tagg_80 : tagg env.P 80 = (some false) := by kernel_rfl
@[simp] theorem telem_80 : telem env.P 80 = none := by kernel_rfl
@[simp] theorem tarr_80 : tarr env.P 80 = none := by kernel_rfl
@[simp] theorem isStr_80 : isStr env.P 80 = false := by kernel_rfl
@[simp] theorem tzero_80 : tzero env.P 80 = (some (.v .nilFunc)) := by kernel_rfl
@[simp] theorem tbytes_80 : tbytes env.P 80 = (some 8) := by kernel_rfl
@[simp] theorem apT_80 : apT env.P 80 = true := by kernel_rfl
@[simp] theorem leafT_80 : leafT env.P 80 = none := by kernel_rfl
@[simp] theorem fieldTys_80 : fieldTys env.P 80 = none := by kernel_rfl
@[simp] theorem isBool_80 : isBool env.P 80 = false := by kernel_rfl
@[simp] theorem plain_80 : plain env.P 20 80 = false := by kernel_rfl
@[simp] theorem isInt_80 : isInt env.P 80 = false := by kernel_rfl
@[simp] theorem intKind_80 : intKind env.P 80 = none := by kernel_rfl
@[simp] theorem isBys_80 : isByteSlice env.P 80 = false := by kernel_rfl
@[simp] theorem undS_80 : (env.P.underlying 80).isNone = false := by kernel_rfl
@[simp] theorem tsize_81 : tsize env.P 81 = (some 1) := by kernel_rfl
@[simp] theorem tagg_81 : tagg env.P 81 = (some false) := by kernel_rfl
@[simp] theorem telem_81 : telem env.P 81 = none := by kernel_rfl
@[simp] theorem tarr_81 : tarr env.P 81 = none := by kernel_rfl
@[simp] theorem isStr_81 : isStr env.P 81 = false := by kernel_rfl
@[simp] theorem tzero_81 : tzero env.P 81 = (some (.v .nilFunc)) := by kernel_rfl
@[simp] theorem tbytes_81 : tbytes env.P 81 = (some 8) := by kernel_rfl
@[simp] theorem apT_81 : apT env.P 81 = true := by kernel_rfl
@[simp] theorem leafT_81 : leafT env.P 81 = none := by kernel_rfl
@[simp] theorem fieldTys_81 : fieldTys env.P 81 = none := by kernel_rfl
@[simp] theorem isBool_81 : isBool env.P 81 = false := by kernel_rfl
@[simp] theorem plain_81 : plain env.P 20 81 = false := by kernel_rfl
@[simp] theorem isInt_81 : isInt env.P 81 = false := by kernel_rfl
@[simp] theorem intKind_81 : intKind env.P 81 = none := by kernel_rfl
@[simp] theorem isBys_81 : isByteSlice env.P 81 = false := by kernel_rfl
@[simp] theorem undS_81 : (env.P.underlying 81).isNone = false := by kernel_rfl
@[simp] theorem tsize_82 : tsize env.P 82 = (some 1) := by kernel_rfl
@[simp] theorem tagg_82 : tagg env.P 82 = (some false) := by kernel_rfl
@[simp] theorem telem_82 : telem env.P 82 = none := by kernel_rfl
@[simp] theorem tarr_82 : tarr env.P 82 = none := by kernel_rfl
@[simp] theorem isStr_82 : isStr env.P 82 = false := by kernel_rfl
@[simp] theorem tzero_82 : tzero env.P 82 = (some (.v .nilFunc)) := by kernel_rfl
@[simp] theorem tbytes_82 : tbytes env.P 82 = (some 8) := by kernel_rfl
@[simp] theorem apT_82 : apT env.P 82 = true := by kernel_rfl
@[simp] theorem leafT_82 : leafT env.P 82 = none := by kernel_rfl
@[simp] theorem fieldTys_82 : fieldTys env.P 82 = none := by kernel_rfl
@[simp] theorem isBool_82 : isBool env.P 82 = false := by kernel_rfl
@[simp] theorem plain_82 : plain env.P 20 82 = false := by kernel_rfl
@[simp] theorem isInt_82 : isInt env.P 82 = false := by kernel_rfl
@[simp] theorem intKind_82 : intKind env.P 82 = none := by kernel_rfl
@[simp] theorem isBys_82 : isByteSlice env.P 82 = false := by kernel_rfl
@[simp] theorem undS_82 : (env.P.underlying 82).isNone = false := by kernel_rfl
@[simp] theorem tsize_83 : tsize env.P 83 = (some 1) := by kernel_rfl
@[simp] theorem tagg_83 : tagg env.P 83 = (some false) := by kernel_rfl
@[simp] theorem telem_83 : telem env.P 83 = none := by kernel_rfl
@[simp] theorem tarr_83 : tarr env.P 83 = none := by kernel_rfl
@[simp] theorem isStr_83 : isStr env.P 83 = false := by kernel_rfl
@[simp] theorem tzero_83 : tzero env.P 83 = (some (.v .nilFunc)) := by kernel_rfl
@[simp] theorem tbytes_83 : tbytes env.P 83 = (some 8) := by kernel_rfl
@[simp] theorem apT_83 : apT env.P 83 = true := by kernel_rfl
@[simp] theorem leafT_83 : leafT env.P 83 = none := by kernel_rfl
@[simp] theorem fieldTys_83 : fieldTys env.P 83 = none := by kernel_rfl
@[simp] theorem isBool_83 : isBool env.P 83 = false := by kernel_rfl
@[simp] theorem plain_83 : plain env.P 20 83 = false := by kernel_rfl
@[simp] theorem isInt_83 : isInt env.P 83 = false := by kernel_rfl
@[simp] theorem intKind_83 : intKind env.P 83 = none := by kernel_rfl
@[simp] theorem isBys_83 : isByteSlice env.P 83 = false := by kernel_rfl
@[simp] theorem undS_83 : (env.P.underlying 83).isNone = false := by kernel_rfl
@[simp] theorem tsize_84 : tsize env.P 84 = (some 1) := by kernel_rfl
@[simp] theorem tagg_84 : tagg env.P 84 = (some false) := by kernel_rfl
@[simp] theorem telem_84 : telem env.P 84 = none := by kernel_rfl
@[simp] theorem tarr_84 : tarr env.P 84 = none := by kernel_rfl
@[simp] theorem isStr_84 : isStr env.P 84 = false := by kernel_rfl
@[simp] theorem tzero_84 : tzero env.P 84 = (some (.v .nilFunc)) := by kernel_rfl
@[simp] theorem tbytes_84 : tbytes env.P 84 = (some 8) := by kernel_rfl
@[simp] theorem apT_84 : apT env.P 84 = true := by kernel_rfl
@[simp] theorem leafT_84 : leafT env.P 84 = none := by kernel_rfl
@[simp] theorem fieldTys_84 : fieldTys env.P 84 = none := by kernel_rfl
@[simp] theorem isBool_84 : isBool env.P 84 = false := by kernel_rfl
@[simp] theorem plain_84 : plain env.P 20 84 = false := by kernel_rfl
@[simp] theorem isInt_84 : isInt env.P 84 = false := by kernel_rfl
@[simp] theorem intKind_84 : intKind env.P 84 = none := by kernel_rfl
@[simp] theorem isBys_84 : isByteSlice env.P 84 = false := by kernel_rfl
@[simp] theorem undS_84 : (env.P.underlying 84).isNone = false := by kernel_rfl
@[simp] theorem tsize_85 : tsize env.P 85 = (some 1) := by kernel_rfl
@[simp] theorem tagg_85 : tagg env.P 85 = (some false) := by kernel_rfl
@[simp] theorem telem_85 : telem env.P 85 = none := by kernel_rfl
@[simp] theorem tarr_85 : tarr env.P 85 = none := by kernel_rfl
@[simp] theorem isStr_85 : isStr env.P 85 = false := by kernel_rfl
@[simp] theorem tzero_85 : tzero env.P 85 = (some (.v .nilFunc)) := by kernel_rfl
@[simp] theorem tbytes_85 : tbytes env.P 85 = (some 8) := by kernel_rfl
@[simp] theorem apT_85 : apT env.P 85 = true := by kernel_rfl
@[simp] theorem leafT_85 : leafT env.P 85 = none := by kernel_rfl
@[simp] theorem fieldTys_85 : fieldTys env.P 85 = none := by kernel_rfl
@[simp] theorem isBool_85 : isBool env.P 85 = false := by kernel_rfl
@[simp] theorem plain_85 : plain env.P 20 85 = false := by kernel_rfl
@[simp] theorem isInt_85 : isInt env.P 85 = false := by kernel_rfl
@[simp] theorem intKind_85 : intKind env.P 85 = none := by kernel_rfl
@[simp] theorem isBys_85 : isByteSlice env.P 85 = false := by kernel_rfl
@[simp] theorem undS_85 : (env.P.underlying 85).isNone = false := by kernel_rfl
@[simp] theorem tsize_86 : tsize env.P 86 = (some 1) := by kernel_rfl
@[simp] theorem tagg_86 : tagg env.P 86 = (some false) := by kernel_rfl
@[simp] theorem telem_86 : telem env.P 86 = none := by kernel_rfl
@[simp] theorem tarr_86 : tarr env.P 86 = none := by kernel_rfl
@[simp] theorem isStr_86 : isStr env.P 86 = false := by kernel_rfl
@[simp] theorem tzero_86 : tzero env.P 86 = (some (.v .nilFunc)) := by kernel_rfl
@[simp] theorem tbytes_86 : tbytes env.P 86 = (some 8) := by kernel_rfl
@[simp] theorem apT_86 : apT env.P 86 = true := by kernel_rfl
@[simp] theorem leafT_86 : leafT env.P 86 = none := by kernel_rfl
@[simp] theorem fieldTys_86 : fieldTys env.P 86 = none := by kernel_rfl
@[simp] theorem isBool_86 : isBool env.P 86 = false := by kernel_rfl
@[simp] theorem plain_86 : plain env.P 20 86 = false := by kernel_rfl
@[simp] theorem isInt_86 : isInt env.P 86 = false := by kernel_rfl
@[simp] theorem intKind_86 : intKind env.P 86 = none := by kernel_rfl
@[simp] theorem isBys_86 : isByteSlice env.P 86 = false := by kernel_rfl
@[simp] theorem undS_86 : (env.P.underlying 86).isNone = false := by kernel_rfl
@[simp] theorem tsize_87 : tsize env.P 87 = (some 1) := by kernel_rfl
@[simp] theorem tagg_87 : tagg env.P 87 = (some false) := by kernel_rfl
@[simp] theorem telem_87 : telem env.P 87 = none := by kernel_rfl
@[simp] theorem tarr_87 : tarr env.P 87 = none := by kernel_rfl
@[simp] theorem isStr_87 : isStr env.P 87 = false := by kernel_rfl
@[simp] theorem tbytes_87 : tbytes env.P 87 = (some 0) := by kernel_rfl
@[simp] theorem apT_87 : apT env.P 87 = true := by kernel_rfl
@[simp] theorem leafT_87 : leafT env.P 87 = none := by kernel_rfl
@[simp] theorem fieldTys_87 : fieldTys env.P 87 = none := by kernel_rfl
@[simp] theorem isBool_87 : isBool env.P 87 = false := by kernel_rfl
@[simp] theorem plain_87 : plain env.P 20 87 = false := by kernel_rfl
@[simp] theorem isInt_87 : isInt env.P 87 = false := by kernel_rfl
@[simp] theorem intKind_87 : intKind env.P 87 = none := by kernel_rfl
@[simp] theorem isBys_87 : isByteSlice env.P 87 = false := by kernel_rfl
@[simp] theorem undS_87 : (env.P.underlying 87).isNone = false := by kernel_rfl
@[simp] theorem tsize_88 : tsize env.P 88 = (some 1) := by kernel_rfl
@[simp] theorem tagg_88 : tagg env.P 88 = (some false) := by kernel_rfl
@[simp] theorem telem_88 : telem env.P 88 = none := by kernel_rfl
@[simp] theorem tarr_88 : tarr env.P 88 = none := by kernel_rfl
@[simp] theorem isStr_88 : isStr env.P 88 = false := by kernel_rfl
@[simp] theorem tzero_88 : tzero env.P 88 = (some (.v .nilFunc)) := by kernel_rfl
@[simp] theorem tbytes_88 : tbytes env.P 88 = (some 8) := by kernel_rfl
@[simp] theorem apT_88 : apT env.P 88 = true := by kernel_rfl
@[simp] theorem leafT_88 : leafT env.P 88 = none := by kernel_rfl
@[simp] theorem fieldTys_88 : fieldTys env.P 88 = none := by kernel_rfl
@[simp] theorem isBool_88 : isBool env.P 88 = false := by kernel_rfl
@[simp] theorem plain_88 : plain env.P 20 88 = false := by kernel_rfl
@[simp] theorem isInt_88 : isInt env.P 88 = false := by kernel_rfl
@[simp] theorem intKind_88 : intKind env.P 88 = none := by kernel_rfl
@[simp] theorem isBys_88 : isByteSlice env.P 88 = false := by kernel_rfl
@[simp] theorem undS_88 : (env.P.underlying 88).isNone = false := by kernel_rfl
@[simp] theorem tsize_89 : tsize env.P 89 = (some 1) := by kernel_rfl
@[simp] theorem tagg_89 : tagg env.P 89 = (some false) := by kernel_rfl
@[simp] theorem telem_89 : telem env.P 89 = none := by kernel_rfl
@[simp] theorem tarr_89 : tarr env.P 89 = none := by kernel_rfl
@[simp] theorem isStr_89 : isStr env.P 89 = false := by kernel_rfl
@[simp] theorem tzero_89 : tzero env.P 89 = (some (.v .nilFunc)) := by kernel_rfl
@[simp] theorem tbytes_89 : tbytes env.P 89 = (some 8) := by kernel_rfl
@[simp] theorem apT_89 : apT env.P 89 = true := by kernel_rfl
@[simp] theorem leafT_89 : leafT env.P 89 = none := by kernel_rfl
@[simp] theorem fieldTys_89 : fieldTys env.P 89 = none := by kernel_rfl
@[simp] theorem isBool_89 : isBool env.P 89 = false := by kernel_rfl
@[simp] theorem plain_89 : plain env.P 20 89 = false := by kernel_rfl
@[simp] theorem isInt_89 : isInt env.P 89 = false := by kernel_rfl
@[simp] theorem intKind_89 : intKind env.P 89 = none := by kernel_rfl
@[simp] theorem isBys_89 : isByteSlice env.P 89 = false := by kernel_rfl
@[simp] theorem undS_89 : (env.P.underlying 89).isNone = false := by kernel_rfl
@[simp] theorem tsize_90 : tsize env.P 90 = (some 1) := by kernel_rfl
@[simp] theorem tagg_90 : tagg env.P 90 = (some false) := by kernel_rfl
@[simp] theorem telem_90 : telem env.P 90 = none := by kernel_rfl
@[simp] theorem tarr_90 : tarr env.P 90 = none := by kernel_rfl
@[simp] theorem isStr_90 : isStr env.P 90 = false := by kernel_rfl
@[simp] theorem tzero_90 : tzero env.P 90 = (some (.v .nilFunc)) := by kernel_rfl
@[simp] theorem tbytes_90 : tbytes env.P 90 = (some 8) := by kernel_rfl
@[simp] theorem apT_90 : apT env.P 90 = true := by kernel_rfl
@[simp] theorem leafT_90 : leafT env.P 90 = none := by kernel_rfl
@[simp] theorem fieldTys_90 : fieldTys env.P 90 = none := by kernel_rfl
@[simp] theorem isBool_90 : isBool env.P 90 = false := by kernel_rfl
@[simp] theorem plain_90 : plain env.P 20 90 = false := by kernel_rfl
@[simp] theorem isInt_90 : isInt env.P 90 = false := by kernel_rfl
@[simp] theorem intKind_90 : intKind env.P 90 = none := by kernel_rfl
@[simp] theorem isBys_90 : isByteSlice env.P 90 = false := by kernel_rfl
@[simp] theorem undS_90 : (env.P.underlying 90).isNone = false := by kernel_rfl
@[simp] theorem tsize_91 : tsize env.P 91 = (some 1) := by kernel_rfl
@[simp] theorem tagg_91 : tagg env.P 91 = (some false) := by kernel_rfl
@[simp] theorem telem_91 : telem env.P 91 = none := by kernel_rfl
@[simp] theorem tarr_91 : tarr env.P 91 = none := by kernel_rfl
@[simp] theorem isStr_91 : isStr env.P 91 = false := by kernel_rfl
@[simp] theorem tzero_91 : tzero env.P 91 = (some (.v .nilFunc)) := by kernel_rfl
@[simp] theorem tbytes_91 : tbytes env.P 91 = (some 8) := by kernel_rfl
@[simp] theorem apT_91 : apT env.P 91 = true := by kernel_rfl
@[simp] theorem leafT_91 : leafT env.P 91 = none := by kernel_rfl
@[simp] theorem fieldTys_91 : fieldTys env.P 91 = none := by kernel_rfl
@[simp] theorem isBool_91 : isBool env.P 91 = false := by kernel_rfl
@[simp] theorem plain_91 : plain env.P 20 91 = false := by kernel_rfl
@[simp] theorem isInt_91 : isInt env.P 91 = false := by kernel_rfl
@[simp] theorem intKind_91 : intKind env.P 91 = none := by kernel_rfl
@[simp] theorem isBys_91 : isByteSlice env.P 91 = false := by kernel_rfl
@[simp] theorem undS_91 : (env.P.underlying 91).isNone = false := by kernel_rfl
@[simp] theorem tsize_92 : tsize env.P 92 = (some 1) := by kernel_rfl
@[simp] theorem tagg_92 : tagg env.P 92 = (some false) := by kernel_rfl
@[simp] theorem telem_92 : telem env.P 92 = none := by kernel_rfl
@[simp] theorem tarr_92 : tarr env.P 92 = none := by kernel_rfl
@[simp] theorem isStr_92 : isStr env.P 92 = false := by kernel_rfl
@[simp] theorem tzero_92 : tzero env.P 92 = (some (.v .nilFunc)) := by kernel_rfl
@[simp] theorem tbytes_92 : tbytes env.P 92 = (some 8) := by kernel_rfl
@[simp] theorem apT_92 : apT env.P 92 = true := by kernel_rfl
@[simp] theorem leafT_92 : leafT env.P 92 = none := by kernel_rfl
@[simp] theorem fieldTys_92 : fieldTys env.P 92 = none := by kernel_rfl
@[simp] theorem isBool_92 : isBool env.P 92 = false := by kernel_rfl
@[simp] theorem plain_92 : plain env.P 20 92 = false := by kernel_rfl
@[simp] theorem isInt_92 : isInt env.P 92 = false := by kernel_rfl
@[simp] theorem intKind_92 : intKind env.P 92 = none := by kernel_rfl
@[simp] theorem isBys_92 : isByteSlice env.P 92 = false := by kernel_rfl
@[simp] theorem undS_92 : (env.P.underlying 92).isNone = false := by kernel_rfl
@[simp] theorem tsize_93 : tsize env.P 93 = (some 1) := by kernel_rfl
@[simp] theorem tagg_93 : tagg env.P 93 = (some false) := by kernel_rfl
@[simp] theorem telem_93 : telem env.P 93 = none := by kernel_rfl
@[simp] theorem tarr_93 : tarr env.P 93 = none := by kernel_rfl
@[simp] theorem isStr_93 : isStr env.P 93 = false := by kernel_rfl
@[simp] theorem tzero_93 : tzero env.P 93 = (some (.v .nilFunc)) := by kernel_rfl
@[simp] theorem tbytes_93 : tbytes env.P 93 = (some 8) := by kernel_rfl
@[simp] theorem apT_93 : apT env.P 93 = true := by kernel_rfl
@[simp] theorem leafT_93 : leafT env.P 93 = none := by kernel_rfl
@[simp] theorem fieldTys_93 : fieldTys env.P 93 = none := by kernel_rfl
@[simp] theorem isBool_93 : isBool env.P 93 = false := by kernel_rfl
@[simp] theorem plain_93 : plain env.P 20 93 = false := by kernel_rfl
@[simp] theorem isInt_93 : isInt env.P 93 = false := by kernel_rfl
@[simp] theorem intKind_93 : intKind env.P 93 = none := by kernel_rfl
@[simp] theorem isBys_93 : isByteSlice env.P 93 = false := by kernel_rfl
@[simp] theorem undS_93 : (env.P.underlying 93).isNone = false := by kernel_rfl
@[simp] theorem tsize_94 : tsize env.P 94 = (some 1) := by kernel_rfl
@[simp] theorem tagg_94 : tagg env.P 94 = (some false) := by kernel_rfl
@[simp] theorem telem_94 : telem env.P 94 = none := by kernel_rfl
@[simp] theorem tarr_94 : tarr env.P 94 = none := by kernel_rfl
@[simp] theorem isStr_94 : isStr env.P 94 = false := by kernel_rfl
@[simp] theorem tzero_94 : tzero env.P 94 = (some (.v .nilFunc)) := by kernel_rfl
@[simp] theorem tbytes_94 : tbytes env.P 94 = (some 8) := by kernel_rfl
@[simp] theorem apT_94 : apT env.P 94 = true := by kernel_rfl
@[simp] theorem leafT_94 : leafT env.P 94 = none := by kernel_rfl
@[simp] theorem fieldTys_94 : fieldTys env.P 94 = none := by kernel_rfl
@[simp] theorem isBool_94 : isBool env.P 94 = false := by kernel_rfl
@[simp] theorem plain_94 : plain env.P 20 94 = false := by kernel_rfl
@[simp] theorem isInt_94 : isInt env.P 94 = false := by kernel_rfl
@[simp] theorem intKind_94 : intKind env.P 94 = none := by kernel_rfl
@[simp] theorem isBys_94 : isByteSlice env.P 94 = false := by kernel_rfl
@[simp] theorem undS_94 : (env.P.underlying 94).isNone = false := by kernel_rfl
@[simp] theorem tsize_95 : tsize env.P 95 = (some 1) := by kernel_rfl
@[simp] theorem tagg_95 : tagg env.P 95 = (some false) := by kernel_rfl
@[simp] theorem telem_95 : telem env.P 95 = none := by kernel_rfl
@[simp] theorem tarr_95 : tarr env.P 95 = none := by kernel_rfl
@[simp] theorem isStr_95 : isStr env.P 95 = false := by kernel_rfl
@[simp] theorem tzero_95 : tzero env.P 95 = (some (.v .nilFunc)) := by kernel_rfl
@[simp] theorem tbytes_95 : tbytes env.P 95 = (some 8) := by kernel_rfl
@[simp] theorem apT_95 : apT env.P 95 = true := by kernel_rfl
@[simp] theorem leafT_95 : leafT env.P 95 = none := by kernel_rfl
@[simp] theorem fieldTys_95 : fieldTys env.P 95 = none := by kernel_rfl
@[simp] theorem isBool_95 : isBool env.P 95 = false := by kernel_rfl
@[simp] theorem plain_95 : plain env.P 20 95 = false := by kernel_rfl
@[simp] theorem isInt_95 : isInt env.P 95 = false := by kernel_rfl
@[simp] theorem intKind_95 : intKind env.P 95 = none := by kernel_rfl
@[simp] theorem isBys_95 : isByteSlice env.P 95 = false := by kernel_rfl
@[simp] theorem undS_95 : (env.P.underlying 95).isNone = false := by kernel_rfl
@[simp] theorem tsize_96 : tsize env.P 96 = (some 1) := by kernel_rfl
@[simp] theorem tagg_96 : tagg env.P 96 = (some false) := by kernel_rfl
@[simp] theorem telem_96 : telem env.P 96 = none := by kernel_rfl
@[simp] theorem tarr_96 : tarr env.P 96 = none := by kernel_rfl
@[simp] theorem isStr_96 : isStr env.P 96 = false := by kernel_rfl
@[simp] theorem tzero_96 : tzero env.P 96 = (some (.v .nilFunc)) := by kernel_rfl
@[simp] theorem tbytes_96 : tbytes env.P 96 = (some 8) := by kernel_rfl
@[simp] theorem apT_96 : apT env.P 96 = true := by kernel_rfl
@[simp] theorem leafT_96 : leafT env.P 96 = none := by kernel_rfl
@[simp] theorem fieldTys_96 : fieldTys env.P 96 = none := by kernel_rfl
@[simp] theorem isBool_96 : isBool env.P 96 = false := by kernel_rfl
@[simp] theorem plain_96 : plain env.P 20 96 = false := by kernel_rfl
@[simp] theorem isInt_96 : isInt env.P 96 = false := by kernel_rfl
@[simp] theorem intKind_96 : intKind env.P 96 = none := by kernel_rfl
@[simp] theorem isBys_96 : isByteSlice env.P 96 = false := by kernel_rfl
@[simp] theorem undS_96 : (env.P.underlying 96).isNone = false := by kernel_rfl
@[simp] theorem tsize_97 : tsize env.P 97 = (some 1) := by kernel_rfl
@[simp] theorem tagg_97 : tagg env.P 97 = (some false) := by kernel_rfl
@[simp] theorem telem_97 : telem env.P 97 = none := by kernel_rfl
@[simp] theorem tarr_97 : tarr env.P 97 = none := by kernel_rfl
@[simp] theorem isStr_97 : isStr env.P 97 = false := by kernel_rfl
@[simp] theorem tzero_97 : tzero env.P 97 = (some (.v .nilFunc)) := by kernel_rfl
@[simp] theorem tbytes_97 : tbytes env.P 97 = (some 8) := by kernel_rfl
@[simp] theorem apT_97 : apT env.P 97 = true := by kernel_rfl
@[simp] theorem leafT_97 : leafT env.P 97 = none := by kernel_rfl
@[simp] theorem fieldTys_97 : fieldTys env.P 97 = none := by kernel_rfl
@[simp] theorem isBool_97 : isBool env.P 97 = false := by kernel_rfl
@[simp] theorem plain_97 : plain env.P 20 97 = false := by kernel_rfl
@[simp] theorem isInt_97 : isInt env.P 97 = false := by kernel_rfl
@[simp] theorem intKind_97 : intKind env.P 97 = none := by kernel_rfl
@[simp] theorem isBys_97 : isByteSlice env.P 97 = false := by kernel_rfl
@[simp] theorem undS_97 : (env.P.underlying 97).isNone = false := by kernel_rfl
@[simp] theorem tsize_98 : tsize env.P 98 = (some 1) := by kernel_rfl
@[simp] theorem tagg_98 : tagg env.P 98 = (some false) := by kernel_rfl
@[simp] theorem telem_98 : telem env.P 98 = none := by kernel_rfl
@[simp] theorem tarr_98 : tarr env.P 98 = none := by kernel_rfl
@[simp] theorem isStr_98 : isStr env.P 98 = false := by kernel_rfl
@[simp] theorem tzero_98 : tzero env.P 98 = (some (.v .nilFunc)) := by kernel_rfl
@[simp] theorem tbytes_98 : tbytes env.P 98 = (some 8) := by kernel_rfl
@[simp] theorem apT_98 : apT env.P 98 = true := by kernel_rfl
@[simp] theorem leafT_98 : leafT env.P 98 = none := by kernel_rfl
@[simp] theorem fieldTys_98 : fieldTys env.P 98 = none := by kernel_rfl
@[simp] theorem isBool_98 : isBool env.P 98 = false := by kernel_rfl
@[simp] theorem plain_98 : plain env.P 20 98 = false := by kernel_rfl
@[simp] theorem isInt_98 : isInt env.P 98 = false := by kernel_rfl
@[simp] theorem intKind_98 : intKind env.P 98 = none := by kernel_rfl
@[simp] theorem isBys_98 : isByteSlice env.P 98 = false := by kernel_rfl
@[simp] theorem undS_98 : (env.P.underlying 98).isNone = false := by kernel_rfl
@[simp] theorem tsize_99 : tsize env.P 99 = (some 1) := by kernel_rfl
@[simp] theorem tagg_99 : tagg env.P 99 = (some false) := by kernel_rfl
@[simp] theorem telem_99 : telem env.P 99 = none := by kernel_rfl
@[simp] theorem tarr_99 : tarr env.P 99 = none := by kernel_rfl
@[simp] theorem isStr_99 : isStr env.P 99 = false := by kernel_rfl
@[simp] theorem tzero_99 : tzero env.P 99 = (some (.v .nilFunc)) := by kernel_rfl
@[simp] theorem tbytes_99 : tbytes env.P 99 = (some 8) := by kernel_rfl
@[simp] theorem apT_99 : apT env.P 99 = true := by kernel_rfl
@[simp] theorem leafT_99 : leafT env.P 99 = none := by kernel_rfl
@[simp] theorem fieldTys_99 : fieldTys env.P 99 = none := by kernel_rfl
@[simp] theorem isBool_99 : isBool env.P 99 = false := by kernel_rfl
@[simp] theorem plain_99 : plain env.P 20 99 = false := by kernel_rfl
@[simp] theorem isInt_99 : isInt env.P 99 = false := by kernel_rfl
@[simp] theorem intKind_99 : intKind env.P 99 = none := by kernel_rfl
@[simp] theorem isBys_99 : isByteSlice env.P 99 = false := by kernel_rfl
@[simp] theorem undS_99 : (env.P.underlying 99).isNone = false := by kernel_rfl
@[simp] theorem tsize_100 : tsize env.P 100 = (some 1) := by kernel_rfl
@[simp] theorem tagg_100 : tagg env.P 100 = (some false) := by kernel_rfl
@[simp] theorem telem_100 : telem env.P 100 = none := by kernel_rfl
@[simp] theorem tarr_100 : tarr env.P 100 = none := by kernel_rfl
@[simp] theorem isStr_100 : isStr env.P 100 = false := by kernel_rfl
@[simp] theorem tzero_100 : tzero env.P 100 = (some (.v .nilFunc)) := by kernel_rfl
@[simp] theorem tbytes_100 : tbytes env.P 100 = (some 8) := by kernel_rfl
@[simp] theorem apT_100 : apT env.P 100 = true := by kernel_rfl
@[simp] theorem leafT_100 : leafT env.P 100 = none := by kernel_rfl
@[simp] theorem fieldTys_100 : fieldTys env.P 100 = none := by kernel_rfl
@[simp] theorem isBool_100 : isBool env.P 100 = false := by kernel_rfl
@[simp] theorem plain_100 : plain env.P 20 100 = false := by kernel_rfl
@[simp] theorem isInt_100 : isInt env.P 100 = false := by kernel_rfl
@[simp] theorem intKind_100 : intKind env.P 100 = none := by kernel_rfl
@[simp] theorem isBys_100 : isByteSlice env.P 100 = false := by kernel_rfl
@[simp] theorem undS_100 : (env.P.underlying 100).isNone = false := by kernel_rfl
@[simp] theorem tsize_101 : tsize env.P 101 = (some 1) := by kernel_rfl
@[simp] theorem tagg_101 : tagg env.P 101 = (some false) := by kernel_rfl
@[simp] theorem telem_101 : telem env.P 101 = none := by kernel_rfl
@[simp] theorem tarr_101 : tarr env.P 101 = none := by kernel_rfl
@[simp] theorem isStr_101 : isStr env.P 101 = false := by kernel_rfl
@[simp] theorem tzero_101 : tzero env.P 101 = (some (.v .nilFunc)) := by kernel_rfl
@[simp] theorem tbytes_101 : tbytes env.P 101 = (some 8) := by kernel_rfl
@[simp] theorem apT_101 : apT env.P 101 = true := by kernel_rfl
@[simp] theorem leafT_101 : leafT env.P 101 = none := by kernel_rfl
@[simp] theorem fieldTys_101 : fieldTys env.P 101 = none := by kernel_rfl
@[simp] theorem isBool_101 : isBool env.P 101 = false := by kernel_rfl
@[simp] theorem plain_101 : plain env.P 20 101 = false := by kernel_rfl
@[simp] theorem isInt_101 : isInt env.P 101 = false := by kernel_rfl
@[simp] theorem intKind_101 : intKind env.P 101 = none := by kernel_rfl
@[simp] theorem isBys_101 : isByteSlice env.P 101 = false := by kernel_rfl
@[simp] theorem undS_101 : (env.P.underlying 101).isNone = false := by kernel_rfl
@[simp] theorem tsize_102 : tsize env.P 102 = (some 1) := by kernel_rfl
@[simp] theorem tagg_102 : tagg env.P 102 = (some false) := by kernel_rfl
@[simp] theorem telem_102 : telem env.P 102 = none := by kernel_rfl
@[simp] theorem tarr_102 : tarr env.P 102 = none := by kernel_rfl
@[simp] theorem isStr_102 : isStr env.P 102 = false := by kernel_rfl
@[simp] theorem tzero_102 : tzero env.P 102 = (some (.v .nilFunc)) := by kernel_rfl
@[simp] theorem tbytes_102 : tbytes env.P 102 = (some 8) := by kernel_rfl
@[simp] theorem apT_102 : apT env.P 102 = true := by kernel_rfl
@[simp] theorem leafT_102 : leafT env.P 102 = none := by kernel_rfl
@[simp] theorem fieldTys_102 : fieldTys env.P 102 = none := by kernel_rfl
@[simp] theorem isBool_102 : isBool env.P 102 = false := by kernel_rfl
@[simp] theorem plain_102 : plain env.P 20 102 = false := by kernel_rfl
@[simp] theorem isInt_102 : isInt env.P 102 = false := by kernel_rfl
@[simp] theorem intKind_102 : intKind env.P 102 = none := by kernel_rfl
@[simp] theorem isBys_102 : isByteSlice env.P 102 = false := by kernel_rfl
@[simp] theorem undS_102 : (env.P.underlying 102).isNone = false := by kernel_rfl
@[simp] theorem tsize_103 : tsize env.P 103 = (some 3) := by kernel_rfl
@[simp] theorem tagg_103 : tagg env.P 103 = (some true) := by kernel_rfl
@[simp] theorem telem_103 : telem env.P 103 = none := by kernel_rfl
@[simp] theorem tarr_103 : tarr env.P 103 = none := by kernel_rfl
@[simp] theorem isStr_103 : isStr env.P 103 = false := by kernel_rfl
@[simp] theorem tzero_103 : tzero env.P 103 = (some (.agg [(a8 0), (a32 0), (a8 0)])) := by kernel_rfl
@[simp] theorem tbytes_103 : tbytes env.P 103 = (some 12) := by kernel_rfl
@[simp] theorem apT_103 : apT env.P 103 = true := by kernel_rfl
@[simp] theorem leafT_103 : leafT env.P 103 = none := by kernel_rfl
@[simp] theorem eqTy_103 : eqTy env.P 103 = true := by kernel_rfl
@[simp] theorem fieldTys_103 : fieldTys env.P 103 = (some [24, 5]) := by kernel_rfl
@[simp] theorem isBool_103 : isBool env.P 103 = false := by kernel_rfl
@[simp] theorem plain_103 : plain env.P 20 103 = true := by kernel_rfl
@[simp] theorem isInt_103 : isInt env.P 103 = false := by kernel_rfl
@[simp] theorem intKind_103 : intKind env.P 103 = none := by kernel_rfl
@[simp] theorem isBys_103 : isByteSlice env.P 103 = false := by kernel_rfl
@[simp] theorem undS_103 : (env.P.underlying 103).isNone = false := by kernel_rfl
@[simp] theorem places_103 : placesOf env.P 103 = (some [(0, 2), (2, 1)]) := by kernel_rfl
@[simp] theorem tfield_0_103 : tfield env.P 103 0 = (some (0, 24)) := by kernel_rfl
@[simp] theorem fplace_0_103 : fieldPlaces env.P 103 0 = (some (0, 2)) := by kernel_rfl
@[simp] theorem tfield_1_103 : tfield env.P 103 1 = (some (2, 5)) := by kernel_rfl
@[simp] theorem fplace_1_103 : fieldPlaces env.P 103 1 = (some (2, 1)) := by kernel_rfl
@[simp] theorem tsize_104 : tsize env.P 104 = (some 3) := by kernel_rfl
@[simp] theorem tagg_104 : tagg env.P 104 = (some true) := by kernel_rfl
@[simp] theorem telem_104 : telem env.P 104 = none := by kernel_rfl
@[simp] theorem tarr_104 : tarr env.P 104 = none := by kernel_rfl
@[simp] theorem isStr_104 : isStr env.P 104 = false := by kernel_rfl
@[simp] theorem tzero_104 : tzero env.P 104 = (some (.agg [(a8 0), (a32 0), (a8 0)])) := by kernel_rfl
@[simp] theorem tbytes_104 : tbytes env.P 104 = (some 12) := by kernel_rfl
@[simp] theorem apT_104 : apT env.P 104 = true := by kernel_rfl
@[simp] theorem leafT_104 : leafT env.P 104 = none := by kernel_rfl
@[simp] theorem eqTy_104 : eqTy env.P 104 = true := by kernel_rfl
@[simp] theorem fieldTys_104 : fieldTys env.P 104 = (some [24, 5]) := by kernel_rfl
@[simp] theorem isBool_104 : isBool env.P 104 = false := by kernel_rfl
@[simp] theorem plain_104 : plain env.P 20 104 = true := by kernel_rfl
@[simp] theorem isInt_104 : isInt env.P 104 = false := by kernel_rfl
@[simp] theorem intKind_104 : intKind env.P 104 = none := by kernel_rfl
@[simp] theorem isBys_104 : isByteSlice env.P 104 = false := by kernel_rfl
@[simp] theorem undS_104 : (env.P.underlying 104).isNone = false := by kernel_rfl
@[simp] theorem places_104 : placesOf env.P 104 = (some [(0, 2), (2, 1)]) := by kernel_rfl
@[simp] theorem tfield_0_104 : tfield env.P 104 0 = (some (0, 24)) := by kernel_rfl
@[simp] theorem fplace_0_104 : fieldPlaces env.P 104 0 = (some (0, 2)) := by kernel_rfl
@[simp] theorem tfield_1_104 : tfield env.P 104 1 = (some (2, 5)) := by kernel_rfl
@[simp] theorem fplace_1_104 : fieldPlaces env.P 104 1 = (some (2, 1)) := by kernel_rfl
@[simp] theorem tsize_105 : tsize env.P 105 = (some 1) := by kernel_rfl
@[simp] theorem tagg_105 : tagg env.P 105 = (some false) := by kernel_rfl
@[simp] theorem telem_105 : telem env.P 105 = none := by kernel_rfl
@[simp] theorem tarr_105 : tarr env.P 105 = none := by kernel_rfl
@[simp] theorem isStr_105 : isStr env.P 105 = false := by kernel_rfl
@[simp] theorem tzero_105 : tzero env.P 105 = (some (.v .nilFunc)) := by kernel_rfl
@[simp] theorem tbytes_105 : tbytes env.P 105 = (some 8) := by kernel_rfl
@[simp] theorem apT_105 : apT env.P 105 = true := by kernel_rfl
@[simp] theorem leafT_105 : leafT env.P 105 = none := by kernel_rfl
@[simp] theorem fieldTys_105 : fieldTys env.P 105 = none := by kernel_rfl
@[simp] theorem isBool_105 : isBool env.P 105 = false := by kernel_rfl
@[simp] theorem plain_105 : plain env.P 20 105 = false := by kernel_rfl
@[simp] theorem isInt_105 : isInt env.P 105 = false := by kernel_rfl
@[simp] theorem intKind_105 : intKind env.P 105 = none := by kernel_rfl
@[simp] theorem isBys_105 : isByteSlice env.P 105 = false := by kernel_rfl
@[simp] theorem undS_105 : (env.P.underlying 105).isNone = false := by kernel_rfl
@[simp] theorem tsize_106 : tsize env.P 106 = (some 1) := by kernel_rfl
@[simp] theorem tagg_106 : tagg env.P 106 = (some false) := by kernel_rfl
@[simp] theorem telem_106 : telem env.P 106 = none := by kernel_rfl
@[simp] theorem tarr_106 : tarr env.P 106 = none := by kernel_rfl
@[simp] theorem isStr_106 : isStr env.P 106 = false := by kernel_rfl
@[simp] theorem tzero_106 : tzero env.P 106 = (some (.v .nilFunc)) := by kernel_rfl
@[simp] theorem tbytes_106 : tbytes env.P 106 = (some 8) := by kernel_rfl
@[simp] theorem apT_106 : apT env.P 106 = true := by kernel_rfl
@[simp] theorem leafT_106 : leafT env.P 106 = none := by kernel_rfl
@[simp] theorem fieldTys_106 : fieldTys env.P 106 = none := by kernel_rfl
@[simp] theorem isBool_106 : isBool env.P 106 = false := by kernel_rfl
@[simp] theorem plain_106 : plain env.P 20 106 = false := by kernel_rfl
@[simp] theorem isInt_106 : isInt env.P 106 = false := by kernel_rfl
@[simp] theorem intKind_106 : intKind env.P 106 = none := by kernel_rfl
@[simp] theorem isBys_106 : isByteSlice env.P 106 = false := by kernel_rfl
@[simp] theorem undS_106 : (env.P.underlying 106).isNone = false := by kernel_rfl
@[simp] theorem tsize_107 : tsize env.P 107 = (some 1) := by kernel_rfl
@[simp] theorem tagg_107 : tagg env.P 107 = (some false) := by kernel_rfl
@[simp] theorem telem_107 : telem env.P 107 = none := by kernel_rfl
@[simp] theorem tarr_107 : tarr env.P 107 = none := by kernel_rfl
@[simp] theorem isStr_107 : isStr env.P 107 = false := by kernel_rfl
@[simp] theorem tbytes_107 : tbytes env.P 107 = (some 0) := by kernel_rfl
@[simp] theorem apT_107 : apT env.P 107 = true := by kernel_rfl
@[simp] theorem leafT_107 : leafT env.P 107 = none := by kernel_rfl
@[simp] theorem fieldTys_107 : fieldTys env.P 107 = none := by kernel_rfl
@[simp] theorem isBool_107 : isBool env.P 107 = false := by kernel_rfl
@[simp] theorem plain_107 : plain env.P 20 107 = false := by kernel_rfl
@[simp] theorem isInt_107 : isInt env.P 107 = false := by kernel_rfl
@[simp] theorem intKind_107 : intKind env.P 107 = none := by kernel_rfl
@[simp] theorem isBys_107 : isByteSlice env.P 107 = false := by kernel_rfl
@[simp] theorem undS_107 : (env.P.underlying 107).isNone = false := by kernel_rfl
@[simp] theorem tsize_108 : tsize env.P 108 = (some 1) := by kernel_rfl
@[simp] theorem tagg_108 : tagg env.P 108 = (some false) := by kernel_rfl
@[simp] theorem telem_108 : telem env.P 108 = none := by kernel_rfl
@[simp] theorem tarr_108 : tarr env.P 108 = none := by kernel_rfl
@[simp] theorem isStr_108 : isStr env.P 108 = false := by kernel_rfl
@[simp] theorem tzero_108 : tzero env.P 108 = (some (.v .nilFunc)) := by kernel_rfl
@[simp] theorem tbytes_108 : tbytes env.P 108 = (some 8) := by kernel_rfl
@[simp] theorem apT_108 : apT env.P 108 = true := by kernel_rfl
@[simp] theorem leafT_108 : leafT env.P 108 = none := by kernel_rfl
@[simp] theorem fieldTys_108 : fieldTys env.P 108 = none := by kernel_rfl
@[simp] theorem isBool_108 : isBool env.P 108 = false := by kernel_rfl
@[simp] theorem plain_108 : plain env.P 20 108 = false := by kernel_rfl
@[simp] theorem isInt_108 : isInt env.P 108 = false := by kernel_rfl
@[simp] theorem intKind_108 : intKind env.P 108 = none := by kernel_rfl
@[simp] theorem isBys_108 : isByteSlice env.P 108 = false := by kernel_rfl
@[simp] theorem undS_108 : (env.P.underlying 108).isNone = false := by kernel_rfl
@[simp] theorem tsize_109 : tsize env.P 109 = (some 1) := by kernel_rfl
@[simp] theorem tagg_109 : tagg env.P 109 = (some false) := by kernel_rfl
@[simp] theorem telem_109 : telem env.P 109 = none := by kernel_rfl
@[simp] theorem tarr_109 : tarr env.P 109 = none := by kernel_rfl
@[simp] theorem isStr_109 : isStr env.P 109 = false := by kernel_rfl
@[simp] theorem tzero_109 : tzero env.P 109 = (some (.v .nilFunc)) := by kernel_rfl
@[simp] theorem tbytes_109 : tbytes env.P 109 = (some 8) := by kernel_rfl
@[simp] theorem apT_109 : apT env.P 109 = true := by kernel_rfl
@[simp] theorem leafT_109 : leafT env.P 109 = none := by kernel_rfl
@[simp] theorem fieldTys_109 : fieldTys env.P 109 = none := by kernel_rfl
@[simp] theorem isBool_109 : isBool env.P 109 = false := by kernel_rfl
@[simp] theorem plain_109 : plain env.P 20 109 = false := by kernel_rfl
@[simp] theorem isInt_109 : isInt env.P 109 = false := by kernel_rfl
@[simp] theorem intKind_109 : intKind env.P 109 = none := by kernel_rfl
@[simp] theorem isBys_109 : isByteSlice env.P 109 = false := by kernel_rfl
@[simp] theorem undS_109 : (env.P.underlying 109).isNone = false := by kernel_rfl
@[simp] theorem tsize_110 : tsize env.P 110 = (some 1) := by kernel_rfl
@[simp] theorem tagg_110 : tagg env.P 110 = (some false) := by kernel_rfl
@[simp] theorem telem_110 : telem env.P 110 = none := by kernel_rfl
@[simp] theorem tarr_110 : tarr env.P 110 = none := by kernel_rfl
@[simp] theorem isStr_110 : isStr env.P 110 = false := by kernel_rfl
@[simp] theorem tbytes_110 : tbytes env.P 110 = (some 0) := by kernel_rfl
@[simp] theorem apT_110 : apT env.P 110 = true := by kernel_rfl
@[simp] theorem leafT_110 : leafT env.P 110 = none := by kernel_rfl
@[simp] theorem fieldTys_110 : fieldTys env.P 110 = none := by kernel_rfl
@[simp] theorem isBool_110 : isBool env.P 110 = false := by kernel_rfl
@[simp] theorem plain_110 : plain env.P 20 110 = false := by kernel_rfl
@[simp] theorem isInt_110 : isInt env.P 110 = false := by kernel_rfl
@[simp] theorem intKind_110 : intKind env.P 110 = none := by kernel_rfl
@[simp] theorem isBys_110 : isByteSlice env.P 110 = false := by kernel_rfl
@[simp] theorem undS_110 : (env.P.underlying 110).isNone = false := by kernel_rfl
@[simp] theorem tsize_111 : tsize env.P 111 = (some 1) := by kernel_rfl
@[simp] theorem tagg_111 : tagg env.P 111 = (some false) := by kernel_rfl
@[simp] theorem telem_111 : telem env.P 111 = none := by kernel_rfl
@[simp] theorem tarr_111 : tarr env.P 111 = none := by kernel_rfl
@[simp] theorem isStr_111 : isStr env.P 111 = false := by kernel_rfl
@[simp] theorem tzero_111 : tzero env.P 111 = (some (.v .nilFunc)) := by kernel_rfl
@[simp] theorem tbytes_111 : tbytes env.P 111 = (some 8) := by kernel_rfl
@[simp] theorem apT_111 : apT env.P 111 = true := by kernel_rfl
@[simp] theorem leafT_111 : leafT env.P 111 = none := by kernel_rfl
@[simp] theorem fieldTys_111 : fieldTys env.P 111 = none := by kernel_rfl
@[simp] theorem isBool_111 : isBool env.P 111 = false := by kernel_rfl
@[simp] theorem plain_111 : plain env.P 20 111 = false := by kernel_rfl
@[simp] theorem isInt_111 : isInt env.P 111 = false := by kernel_rfl
@[simp] theorem intKind_111 : intKind env.P 111 = none := by kernel_rfl
@[simp] theorem isBys_111 : isByteSlice env.P 111 = false := by kernel_rfl
@[simp] theorem undS_111 : (env.P.underlying 111).isNone = false := by kernel_rfl
@[simp] theorem tsize_112 : tsize env.P 112 = (some 1) := by kernel_rfl
@[simp] theorem tagg_112 : tagg env.P 112 = (some false) := by kernel_rfl
@[simp] theorem telem_112 : telem env.P 112 = none := by kernel_rfl
@[simp] theorem tarr_112 : tarr env.P 112 = none := by kernel_rfl
@[simp] theorem isStr_112 : isStr env.P 112 = false := by kernel_rfl
@[simp] theorem tzero_112 : tzero env.P 112 = (some (.v .nilFunc)) := by kernel_rfl
@[simp] theorem tbytes_112 : tbytes env.P 112 = (some 8) := by kernel_rfl
@[simp] theorem apT_112 : apT env.P 112 = true := by kernel_rfl
@[simp] theorem leafT_112 : leafT env.P 112 = none := by kernel_rfl
@[simp] theorem fieldTys_112 : fieldTys env.P 112 = none := by kernel_rfl
@[simp] theorem isBool_112 : isBool env.P 112 = false := by kernel_rfl
@[simp] theorem plain_112 : plain env.P 20 112 = false := by kernel_rfl
@[simp] theorem isInt_112 : isInt env.P 112 = false := by kernel_rfl
@[simp] theorem intKind_112 : intKind env.P 112 = none := by kernel_rfl
@[simp] theorem isBys_112 : isByteSlice env.P 112 = false := by kernel_rfl
@[simp] theorem undS_112 : (env.P.underlying 112).isNone = false := by kernel_rfl
@[simp] theorem tsize_113 : tsize env.P 113 = (some 1) := by kernel_rfl
@[simp] theorem tagg_113 : tagg env.P 113 = (some false) := by kernel_rfl
@[simp] theorem telem_113 : telem env.P 113 = none := by kernel_rfl
@[simp] theorem tarr_113 : tarr env.P 113 = none := by kernel_rfl
@[simp] theorem isStr_113 : isStr env.P 113 = false := by kernel_rfl
@[simp] theorem tzero_113 : tzero env.P 113 = (some (.v .nilFunc)) := by kernel_rfl
@[simp] theorem tbytes_113 : tbytes env.P 113 = (some 8) := by kernel_rfl
@[simp] theorem apT_113 : apT env.P 113 = true := by kernel_rfl
@[simp] theorem leafT_113 : leafT env.P 113 = none := by kernel_rfl
@[simp] theorem fieldTys_113 : fieldTys env.P 113 = none := by kernel_rfl
@[simp] theorem isBool_113 : isBool env.P 113 = false := by kernel_rfl
@[simp] theorem plain_113 : plain env.P 20 113 = false := by kernel_rfl
@[simp] theorem isInt_113 : isInt env.P 113 = false := by kernel_rfl
@[simp] theorem intKind_113 : intKind env.P 113 = none := by kernel_rfl
@[simp] theorem isBys_113 : isByteSlice env.P 113 = false := by kernel_rfl
@[simp] theorem undS_113 : (env.P.underlying 113).isNone = false := by kernel_rfl
@[simp] theorem tsize_114 : tsize env.P 114 = (some 1) := by kernel_rfl
@[simp] theorem tagg_114 : tagg env.P 114 = (some false) := by kernel_rfl
@[simp] theorem telem_114 : telem env.P 114 = (some 4) := by kernel_rfl
@[simp] theorem tarr_114 : tarr env.P 114 = none := by kernel_rfl
@[simp] theorem isStr_114 : isStr env.P 114 = false := by kernel_rfl
@[simp] theorem tzero_114 : tzero env.P 114 = (some (.v (.slice none 0 0))) := by kernel_rfl
@[simp] theorem tbytes_114 : tbytes env.P 114 = (some 24) := by kernel_rfl
@[simp] theorem apT_114 : apT env.P 114 = true := by kernel_rfl
@[simp] theorem leafT_114 : leafT env.P 114 = none := by kernel_rfl
@[simp] theorem fieldTys_114 : fieldTys env.P 114 = none := by kernel_rfl
@[simp] theorem isBool_114 : isBool env.P 114 = false := by kernel_rfl
@[simp] theorem plain_114 : plain env.P 20 114 = true := by kernel_rfl
@[simp] theorem elT_114 : elT env.P 114 1 1 = true := by kernel_rfl
@[simp] theorem isInt_114 : isInt env.P 114 = false := by kernel_rfl
@[simp] theorem intKind_114 : intKind env.P 114 = none := by kernel_rfl
@[simp] theorem isBys_114 : isByteSlice env.P 114 = false := by kernel_rfl
@[simp] theorem undS_114 : (env.P.underlying 114).isNone = false := by kernel_rfl
@[simp] theorem tsize_115 : tsize env.P 115 = (some 1) := by kernel_rfl
@[simp] theorem tagg_115 : tagg env.P 115 = (some false) := by kernel_rfl
@[simp] theorem telem_115 : telem env.P 115 = none := by kernel_rfl
@[simp] theorem tarr_115 : tarr env.P 115 = none := by kernel_rfl
@[simp] theorem isStr_115 : isStr env.P 115 = false := by kernel_rfl
@[simp] theorem tzero_115 : tzero env.P 115 = (some (.v .nilFunc)) := by kernel_rfl
@[simp] theorem tbytes_115 : tbytes env.P 115 = (some 8) := by kernel_rfl
@[simp] theorem apT_115 : apT env.P 115 = true := by kernel_rfl
@[simp] theorem leafT_115 : leafT env.P 115 = none := by kernel_rfl
@[simp] theorem fieldTys_115 : fieldTys env.P 115 = none := by kernel_rfl
@[simp] theorem isBool_115 : isBool env.P 115 = false := by kernel_rfl
@[simp] theorem plain_115 : plain env.P 20 115 = false := by kernel_rfl
@[simp] theorem isInt_115 : isInt env.P 115 = false := by kernel_rfl
@[simp] theorem intKind_115 : intKind env.P 115 = none := by kernel_rfl
@[simp] theorem isBys_115 : isByteSlice env.P 115 = false := by kernel_rfl
@[simp] theorem undS_115 : (env.P.underlying 115).isNone = false := by kernel_rfl
@[simp] theorem tsize_116 : tsize env.P 116 = (some 1) := by kernel_rfl
@[simp] theorem tagg_116 : tagg env.P 116 = (some false) := by kernel_rfl
@[simp] theorem telem_116 : telem env.P 116 = none := by kernel_rfl
@[simp] theorem tarr_116 : tarr env.P 116 = none := by kernel_rfl
@[simp] theorem isStr_116 : isStr env.P 116 = false := by kernel_rfl
@[simp] theorem tzero_116 : tzero env.P 116 = (some (.v .nilFunc)) := by kernel_rfl
@[simp] theorem tbytes_116 : tbytes env.P 116 = (some 8) := by kernel_rfl
@[simp] theorem apT_116 : apT env.P 116 = true := by kernel_rfl
@[simp] theorem leafT_116 : leafT env.P 116 = none := by kernel_rfl
@[simp] theorem fieldTys_116 : fieldTys env.P 116 = none := by kernel_rfl
@[simp] theorem isBool_116 : isBool env.P 116 = false := by kernel_rfl
@[simp] theorem plain_116 : plain env.P 20 116 = false := by kernel_rfl
@[simp] theorem isInt_116 : isInt env.P 116 = false := by kernel_rfl
@[simp] theorem intKind_116 : intKind env.P 116 = none := by kernel_rfl
@[simp] theorem isBys_116 : isByteSlice env.P 116 = false := by kernel_rfl
@[simp] theorem undS_116 : (env.P.underlying 116).isNone = false := by kernel_rfl
@[simp] theorem tsize_117 : tsize env.P 117 = (some 1) := by kernel_rfl
@[simp] theorem tagg_117 : tagg env.P 117 = (some false) := by kernel_rfl
@[simp] theorem telem_117 : telem env.P 117 = none := by kernel_rfl
@[simp] theorem tarr_117 : tarr env.P 117 = none := by kernel_rfl
@[simp] theorem isStr_117 : isStr env.P 117 = false := by kernel_rfl
@[simp] theorem tzero_117 : tzero env.P 117 = (some (.v .nilFunc)) := by kernel_rfl
@[simp] theorem tbytes_117 : tbytes env.P 117 = (some 8) := by kernel_rfl
@[simp] theorem apT_117 : apT env.P 117 = true := by kernel_rfl
@[simp] theorem leafT_117 : leafT env.P 117 = none := by kernel_rfl
@[simp] theorem fieldTys_117 : fieldTys env.P 117 = none := by kernel_rfl
@[simp] theorem isBool_117 : isBool env.P 117 = false := by kernel_rfl
@[simp] theorem plain_117 : plain env.P 20 117 = false := by kernel_rfl
@[simp] theorem isInt_117 : isInt env.P 117 = false := by kernel_rfl
@[simp] theorem intKind_117 : intKind env.P 117 = none := by kernel_rfl
@[simp] theorem isBys_117 : isByteSlice env.P 117 = false := by kernel_rfl
@[simp] theorem undS_117 : (env.P.underlying 117).isNone = false := by kernel_rfl
@[simp] theorem tsize_118 : tsize env.P 118 = (some 1) := by kernel_rfl
@[simp] theorem tagg_118 : tagg env.P 118 = (some false) := by kernel_rfl
@[simp] theorem telem_118 : telem env.P 118 = none := by kernel_rfl
@[simp] theorem tarr_118 : tarr env.P 118 = none := by kernel_rfl
@[simp] theorem isStr_118 : isStr env.P 118 = false := by kernel_rfl
@[simp] theorem tzero_118 : tzero env.P 118 = (some (.v .nilFunc)) := by kernel_rfl
@[simp] theorem tbytes_118 : tbytes env.P 118 = (some 8) := by kernel_rfl
@[simp] theorem apT_118 : apT env.P 118 = true := by kernel_rfl
@[simp] theorem leafT_118 : leafT env.P 118 = none := by kernel_rfl
@[simp] theorem fieldTys_118 : fieldTys env.P 118 = none := by kernel_rfl
@[simp] theorem isBool_118 : isBool env.P 118 = false := by kernel_rfl
@[simp] theorem plain_118 : plain env.P 20 118 = false := by kernel_rfl
@[simp] theorem isInt_118 : isInt env.P 118 = false := by kernel_rfl
@[simp] theorem intKind_118 : intKind env.P 118 = none := by kernel_rfl
@[simp] theorem isBys_118 : isByteSlice env.P 118 = false := by kernel_rfl
@[simp] theorem undS_118 : (env.P.underlying 118).isNone = false := by kernel_rfl
@[simp] theorem tsize_119 : tsize env.P 119 = (some 4) := by kernel_rfl
@[simp] theorem tagg_119 : tagg env.P 119 = (some true) := by kernel_rfl
@[simp] theorem telem_119 : telem env.P 119 = none := by kernel_rfl
@[simp] theorem tarr_119 : tarr env.P 119 = none := by kernel_rfl
@[simp] theorem isStr_119 : isStr env.P 119 = false := by kernel_rfl
@[simp] theorem tzero_119 : tzero env.P 119 = (some (.agg [(a8 0), (a32 0), (a8 0), (.v (.int .i64 0))])) := by kernel_rfl
@[simp] theorem tbytes_119 : tbytes env.P 119 = (some 24) := by kernel_rfl
@[simp] theorem apT_119 : apT env.P 119 = true := by kernel_rfl
@[simp] theorem leafT_119 : leafT env.P 119 = none := by kernel_rfl
@[simp] theorem eqTy_119 : eqTy env.P 119 = true := by kernel_rfl
@[simp] theorem fieldTys_119 : fieldTys env.P 119 = (some [104, 27]) := by kernel_rfl
@[simp] theorem isBool_119 : isBool env.P 119 = false := by kernel_rfl
@[simp] theorem plain_119 : plain env.P 20 119 = true := by kernel_rfl
@[simp] theorem isInt_119 : isInt env.P 119 = false := by kernel_rfl
@[simp] theorem intKind_119 : intKind env.P 119 = none := by kernel_rfl
@[simp] theorem isBys_119 : isByteSlice env.P 119 = false := by kernel_rfl
@[simp] theorem undS_119 : (env.P.underlying 119).isNone = false := by kernel_rfl
@[simp] theorem places_119 : placesOf env.P 119 = (some [(0, 3), (3, 1)]) := by kernel_rfl
@[simp] theorem tfield_0_119 : tfield env.P 119 0 = (some (0, 104)) := by kernel_rfl
@[simp] theorem fplace_0_119 : fieldPlaces env.P 119 0 = (some (0, 3)) := by kernel_rfl
@[simp] theorem tfield_1_119 : tfield env.P 119 1 = (some (3, 27)) := by kernel_rfl
@[simp] theorem fplace_1_119 : fieldPlaces env.P 119 1 = (some (3, 1)) := by kernel_rfl
@[simp] theorem tsize_120 : tsize env.P 120 = (some 4) := by kernel_rfl
@[simp] theorem tagg_120 : tagg env.P 120 = (some true) := by kernel_rfl
@[simp] theorem telem_120 : telem env.P 120 = none := by kernel_rfl
@[simp] theorem tarr_120 : tarr env.P 120 = none := by kernel_rfl
@[simp] theorem isStr_120 : isStr env.P 120 = false := by kernel_rfl
@[simp] theorem tzero_120 : tzero env.P 120 = (some (.agg [(a8 0), (a32 0), (a8 0), (.v (.int .i64 0))])) := by kernel_rfl
@[simp] theorem tbytes_120 : tbytes env.P 120 = (some 24) := by kernel_rfl
@[simp] theorem apT_120 : apT env.P 120 = true := by kernel_rfl
@[simp] theorem leafT_120 : leafT env.P 120 = none := by kernel_rfl
@[simp] theorem eqTy_120 : eqTy env.P 120 = true := by kernel_rfl
@[simp] theorem fieldTys_120 : fieldTys env.P 120 = (some [104, 27]) := by kernel_rfl
@[simp] theorem isBool_120 : isBool env.P 120 = false := by kernel_rfl
@[simp] theorem plain_120 : plain env.P 20 120 = true := by kernel_rfl
@[simp] theorem isInt_120 : isInt env.P 120 = false := by kernel_rfl
@[simp] theorem intKind_120 : intKind env.P 120 = none := by kernel_rfl
@[simp] theorem isBys_120 : isByteSlice env.P 120 = false := by kernel_rfl
@[simp] theorem undS_120 : (env.P.underlying 120).isNone = false := by kernel_rfl
@[simp] theorem places_120 : placesOf env.P 120 = (some [(0, 3), (3, 1)]) := by kernel_rfl
@[simp] theorem tfield_0_120 : tfield env.P 120 0 = (some (0, 104)) := by kernel_rfl
@[simp] theorem fplace_0_120 : fieldPlaces env.P 120 0 = (some (0, 3)) := by kernel_rfl
@[simp] theorem tfield_1_120 : tfield env.P 120 1 = (some (3, 27)) := by kernel_rfl
@[simp] theorem fplace_1_120 : fieldPlaces env.P 120 1 = (some (3, 1)) := by kernel_rfl
@[simp] theorem tsize_121 : tsize env.P 121 = (some 1) := by kernel_rfl
@[simp] theorem tagg_121 : tagg env.P 121 = (some false) := by kernel_rfl
@[simp] theorem telem_121 : telem env.P 121 = none := by kernel_rfl
@[simp] theorem tarr_121 : tarr env.P 121 = none := by kernel_rfl
@[simp] theorem isStr_121 : isStr env.P 121 = false := by kernel_rfl
@[simp] theorem tzero_121 : tzero env.P 121 = (some (.v .nilFunc)) := by kernel_rfl
@[simp] theorem tbytes_121 : tbytes env.P 121 = (some 8) := by kernel_rfl
@[simp] theorem apT_121 : apT env.P 121 = true := by kernel_rfl
@[simp] theorem leafT_121 : leafT env.P 121 = none := by kernel_rfl
@[simp] theorem fieldTys_121 : fieldTys env.P 121 = none := by kernel_rfl
@[simp] theorem isBool_121 : isBool env.P 121 = false := by kernel_rfl
@[simp] theorem plain_121 : plain env.P 20 121 = false := by kernel_rfl
@[simp] theorem isInt_121 : isInt env.P 121 = false := by kernel_rfl
@[simp] theorem intKind_121 : intKind env.P 121 = none := by kernel_rfl
@[simp] theorem isBys_121 : isByteSlice env.P 121 = false := by kernel_rfl
@[simp] theorem undS_121 : (env.P.underlying 121).isNone = false := by kernel_rfl
@[simp] theorem tsize_122 : tsize env.P 122 = (some 1) := by kernel_rfl
@[simp] theorem tagg_122 : tagg env.P 122 = (some false) := by kernel_rfl
@[simp] theorem telem_122 : telem env.P 122 = none := by kernel_rfl
@[simp] theorem tarr_122 : tarr env.P 122 = none := by kernel_rfl
@[simp] theorem isStr_122 : isStr env.P 122 = false := by kernel_rfl
@[simp] theorem tzero_122 : tzero env.P 122 = (some (.v .nilFunc)) := by kernel_rfl
@[simp] theorem tbytes_122 : tbytes env.P 122 = (some 8) := by kernel_rfl
@[simp] theorem apT_122 : apT env.P 122 = true := by kernel_rfl
@[simp] theorem leafT_122 : leafT env.P 122 = none := by kernel_rfl
@[simp] theorem fieldTys_122 : fieldTys env.P 122 = none := by kernel_rfl
@[simp] theorem isBool_122 : isBool env.P 122 = false := by kernel_rfl
@[simp] theorem plain_122 : plain env.P 20 122 = false := by kernel_rfl
@[simp] theorem isInt_122 : isInt env.P 122 = false := by kernel_rfl
@[simp] theorem intKind_122 : intKind env.P 122 = none := by kernel_rfl
@[simp] theorem isBys_122 : isByteSlice env.P 122 = false := by kernel_rfl
@[simp] theorem undS_122 : (env.P.underlying 122).isNone = false := by kernel_rfl
@[simp] theorem tsize_123 : tsize env.P 123 = (some 1) := by kernel_rfl
@[simp] theorem tagg_123 : tagg env.P 123 = (some false) := by kernel_rfl
@[simp] theorem telem_123 : telem env.P 123 = none := by kernel_rfl
@[simp] theorem tarr_123 : tarr env.P 123 = none := by kernel_rfl
@[simp] theorem isStr_123 : isStr env.P 123 = false := by kernel_rfl
@[simp] theorem tzero_123 : tzero env.P 123 = (some (.v .nilFunc)) := by kernel_rfl
@[simp] theorem tbytes_123 : tbytes env.P 123 = (some 8) := by kernel_rfl
@[simp] theorem apT_123 : apT env.P 123 = true := by kernel_rfl
@[simp] theorem leafT_123 : leafT env.P 123 = none := by kernel_rfl
@[simp] theorem fieldTys_123 : fieldTys env.P 123 = none := by kernel_rfl
@[simp] theorem isBool_123 : isBool env.P 123 = false := by kernel_rfl
@[simp] theorem plain_123 : plain env.P 20 123 = false := by kernel_rfl
@[simp] theorem isInt_123 : isInt env.P 123 = false := by kernel_rfl
@[simp] theorem intKind_123 : intKind env.P 123 = none := by kernel_rfl
@[simp] theorem isBys_123 : isByteSlice env.P 123 = false := by kernel_rfl
@[simp] theorem undS_123 : (env.P.underlying 123).isNone = false := by kernel_rfl
@[simp] theorem tsize_124 : tsize env.P 124 = (some 1) := by kernel_rfl
@[simp] theorem tagg_124 : tagg env.P 124 = (some false) := by kernel_rfl
@[simp] theorem telem_124 : telem env.P 124 = none := by kernel_rfl
@[simp] theorem tarr_124 : tarr env.P 124 = none := by kernel_rfl
@[simp] theorem isStr_124 : isStr env.P 124 = false := by kernel_rfl
@[simp] theorem tzero_124 : tzero env.P 124 = (some (.v .nilFunc)) := by kernel_rfl
@[simp] theorem tbytes_124 : tbytes env.P 124 = (some 8) := by kernel_rfl
@[simp] theorem apT_124 : apT env.P 124 = true := by kernel_rfl
@[simp] theorem leafT_124 : leafT env.P 124 = none := by kernel_rfl
@[simp] theorem fieldTys_124 : fieldTys env.P 124 = none := by kernel_rfl
@[simp] theorem isBool_124 : isBool env.P 124 = false := by kernel_rfl
@[simp] theorem plain_124 : plain env.P 20 124 = false := by kernel_rfl
@[simp] theorem isInt_124 : isInt env.P 124 = false := by kernel_rfl
@[simp] theorem intKind_124 : intKind env.P 124 = none := by kernel_rfl
@[simp] theorem isBys_124 : isByteSlice env.P 124 = false := by kernel_rfl
@[simp] theorem undS_124 : (env.P.underlying 124).isNone = false := by kernel_rfl
@[simp] theorem tsize_125 : tsize env.P 125 = (some 1) := by kernel_rfl
@[simp] theorem tagg_125 : tagg env.P 125 = (some false) := by kernel_rfl
@[simp] theorem telem_125 : telem env.P 125 = none := by kernel_rfl
@[simp] theorem tarr_125 : tarr env.P 125 = none := by kernel_rfl
@[simp] theorem isStr_125 : isStr env.P 125 = false := by kernel_rfl
@[simp] theorem tzero_125 : tzero env.P 125 = (some (.v .nilFunc)) := by kernel_rfl
@[simp] theorem tbytes_125 : tbytes env.P 125 = (some 8) := by kernel_rfl
@[simp] theorem apT_125 : apT env.P 125 = true := by kernel_rfl
@[simp] theorem leafT_125 : leafT env.P 125 = none := by kernel_rfl
@[simp] theorem fieldTys_125 : fieldTys env.P 125 = none := by kernel_rfl
@[simp] theorem isBool_125 : isBool env.P 125 = false := by kernel_rfl
@[simp] theorem plain_125 : plain env.P 20 125 = false := by kernel_rfl
@[simp] theorem isInt_125 : isInt env.P 125 = false := by kernel_rfl
@[simp] theorem intKind_125 : intKind env.P 125 = none := by kernel_rfl
@[simp] theorem isBys_125 : isByteSlice env.P 125 = false := by kernel_rfl
@[simp] theorem undS_125 : (env.P.underlying 125).isNone = false := by kernel_rfl
@[simp] theorem tsize_126 : tsize env.P 126 = (some 1) := by kernel_rfl
@[simp] theorem tagg_126 : tagg env.P 126 = (some false) := by kernel_rfl
@[simp] theorem telem_126 : telem env.P 126 = none := by kernel_rfl
@[simp] theorem tarr_126 : tarr env.P 126 = none := by kernel_rfl
@[simp] theorem isStr_126 : isStr env.P 126 = false := by kernel_rfl
@[simp] theorem tzero_126 : tzero env.P 126 = (some (.v (.int .u64 0))) := by kernel_rfl
@[simp] theorem tbytes_126 : tbytes env.P 126 = (some 8) := by kernel_rfl
@[simp] theorem apT_126 : apT env.P 126 = false := by kernel_rfl
@[simp] theorem leafT_126 : leafT env.P 126 = (some 1) := by kernel_rfl
@[simp] theorem fieldTys_126 : fieldTys env.P 126 = none := by kernel_rfl
@[simp] theorem isBool_126 : isBool env.P 126 = false := by kernel_rfl
@[simp] theorem plain_126 : plain env.P 20 126 = true := by kernel_rfl
@[simp] theorem isInt_126 : isInt env.P 126 = true := by kernel_rfl
@[simp] theorem intKind_126 : intKind env.P 126 = (some .u64) := by kernel_rfl
@[simp] theorem isBys_126 : isByteSlice env.P 126 = false := by kernel_rfl
@[simp] theorem undS_126 : (env.P.underlying 126).isNone = false := by kernel_rfl
@[simp] theorem tsize_127 : tsize env.P 127 = (some 1) := by kernel_rfl
@[simp] theorem tagg_127 : tagg env.P 127 = (some false) := by kernel_rfl
@[simp] theorem telem_127 : telem env.P 127 = none := by kernel_rfl
@[simp] theorem tarr_127 : tarr env.P 127 = none := by kernel_rfl
@[simp] theorem isStr_127 : isStr env.P 127 = false := by kernel_rfl
@[simp] theorem tzero_127 : tzero env.P 127 = (some (.v .nilFunc)) := by kernel_rfl
@[simp] theorem tbytes_127 : tbytes env.P 127 = (some 8) := by kernel_rfl
@[simp] theorem apT_127 : apT env.P 127 = true := by kernel_rfl
@[simp] theorem leafT_127 : leafT env.P 127 = none := by kernel_rfl
@[simp] theorem fieldTys_127 : fieldTys env.P 127 = none := by kernel_rfl
@[simp] theorem isBool_127 : isBool env.P 127 = false := by kernel_rfl
@[simp] theorem plain_127 : plain env.P 20 127 = false := by kernel_rfl
@[simp] theorem isInt_127 : isInt env.P 127 = false := by kernel_rfl
@[simp] theorem intKind_127 : intKind env.P 127 = none := by kernel_rfl
@[simp] theorem isBys_127 : isByteSlice env.P 127 = false := by kernel_rfl
@[simp] theorem undS_127 : (env.P.underlying 127).isNone = false := by kernel_rfl
@[simp] theorem tsize_128 : tsize env.P 128 = (some 4) := by kernel_rfl
@[simp] theorem tagg_128 : tagg env.P 128 = (some true) := by kernel_rfl
@[simp] theorem telem_128 : telem env.P 128 = none := by kernel_rfl
@[simp] theorem tarr_128 : tarr env.P 128 = none := by kernel_rfl
@[simp] theorem isStr_128 : isStr env.P 128 = false := by kernel_rfl
@[simp] theorem tzero_128 : tzero env.P 128 = (some (.agg [(.v (.pointer none)), (.v (.pointer none)), (.v (.pointer none)), (.v (.string ⟨#[]⟩))])) := by kernel_rfl
@[simp] theorem tbytes_128 : tbytes env.P 128 = (some 40) := by kernel_rfl
@[simp] theorem apT_128 : apT env.P 128 = true := by kernel_rfl
@[simp] theorem leafT_128 : leafT env.P 128 = none := by kernel_rfl
@[simp] theorem fieldTys_128 : fieldTys env.P 128 = (some [17, 17, 17, 9]) := by kernel_rfl
@[simp] theorem isBool_128 : isBool env.P 128 = false := by kernel_rfl
@[simp] theorem plain_128 : plain env.P 20 128 = false := by kernel_rfl
@[simp] theorem isInt_128 : isInt env.P 128 = false := by kernel_rfl
@[simp] theorem intKind_128 : intKind env.P 128 = none := by kernel_rfl
@[simp] theorem isBys_128 : isByteSlice env.P 128 = false := by kernel_rfl
@[simp] theorem undS_128 : (env.P.underlying 128).isNone = false := by kernel_rfl
@[simp] theorem places_128 : placesOf env.P 128 = (some [(0, 1), (1, 1), (2, 1), (3, 1)]) := by kernel_rfl
@[simp] theorem tfield_0_128 : tfield env.P 128 0 = (some (0, 17)) := by kernel_rfl
@[simp] theorem fplace_0_128 : fieldPlaces env.P 128 0 = (some (0, 1)) := by kernel_rfl
@[simp] theorem tfield_1_128 : tfield env.P 128 1 = (some (1, 17)) := by kernel_rfl
@[simp] theorem fplace_1_128 : fieldPlaces env.P 128 1 = (some (1, 1)) := by kernel_rfl
@[simp] theorem tfield_2_128 : tfield env.P 128 2 = (some (2, 17)) := by kernel_rfl
@[simp] theorem fplace_2_128 : fieldPlaces env.P 128 2 = (some (2, 1)) := by kernel_rfl
@[simp] theorem tfield_3_128 : tfield env.P 128 3 = (some (3, 9)) := by kernel_rfl
@[simp] theorem fplace_3_128 : fieldPlaces env.P 128 3 = (some (3, 1)) := by kernel_rfl
@[simp] theorem tsize_129 : tsize env.P 129 = (some 4) := by kernel_rfl
@[simp] theorem tagg_129 : tagg env.P 129 = (some true) := by kernel_rfl
@[simp] theorem telem_129 : telem env.P 129 = none := by kernel_rfl
@[simp] theorem tarr_129 : tarr env.P 129 = none := by kernel_rfl
@[simp] theorem isStr_129 : isStr env.P 129 = false := by kernel_rfl
@[simp] theorem tzero_129 : tzero env.P 129 = (some (.agg [(.v (.pointer none)), (.v (.pointer none)), (.v (.pointer none)), (.v (.string ⟨#[]⟩))])) := by kernel_rfl
@[simp] theorem tbytes_129 : tbytes env.P 129 = (some 40) := by kernel_rfl
@[simp] theorem apT_129 : apT env.P 129 = true := by kernel_rfl
@[simp] theorem leafT_129 : leafT env.P 129 = none := by kernel_rfl
@[simp] theorem fieldTys_129 : fieldTys env.P 129 = (some [17, 17, 17, 9]) := by kernel_rfl
@[simp] theorem isBool_129 : isBool env.P 129 = false := by kernel_rfl
@[simp] theorem plain_129 : plain env.P 20 129 = false := by kernel_rfl
@[simp] theorem isInt_129 : isInt env.P 129 = false := by kernel_rfl
@[simp] theorem intKind_129 : intKind env.P 129 = none := by kernel_rfl
@[simp] theorem isBys_129 : isByteSlice env.P 129 = false := by kernel_rfl
@[simp] theorem undS_129 : (env.P.underlying 129).isNone = false := by kernel_rfl
@[simp] theorem places_129 : placesOf env.P 129 = (some [(0, 1), (1, 1), (2, 1), (3, 1)]) := by kernel_rfl
@[simp] theorem tfield_0_129 : tfield env.P 129 0 = (some (0, 17)) := by kernel_rfl
@[simp] theorem fplace_0_129 : fieldPlaces env.P 129 0 = (some (0, 1)) := by kernel_rfl
@[simp] theorem tfield_1_129 : tfield env.P 129 1 = (some (1, 17)) := by kernel_rfl
@[simp] theorem fplace_1_129 : fieldPlaces env.P 129 1 = (some (1, 1)) := by kernel_rfl
@[simp] theorem tfield_2_129 : tfield env.P 129 2 = (some (2, 17)) := by kernel_rfl
@[simp] theorem fplace_2_129 : fieldPlaces env.P 129 2 = (some (2, 1)) := by kernel_rfl
@[simp] theorem tfield_3_129 : tfield env.P 129 3 = (some (3, 9)) := by kernel_rfl
@[simp] theorem fplace_3_129 : fieldPlaces env.P 129 3 = (some (3, 1)) := by kernel_rfl
@[simp] theorem tsize_130 : tsize env.P 130 = (some 0) := by kernel_rfl
@[simp] theorem tagg_130 : tagg env.P 130 = (some true) := by kernel_rfl
@[simp] theorem telem_130 : telem env.P 130 = none := by kernel_rfl
@[simp] theorem tarr_130 : tarr env.P 130 = (some (0, 16)) := by kernel_rfl
@[simp] theorem isStr_130 : isStr env.P 130 = false := by kernel_rfl
@[simp] theorem tzero_130 : tzero env.P 130 = (some (.agg [])) := by kernel_rfl
@[simp] theorem tbytes_130 : tbytes env.P 130 = (some 0) := by kernel_rfl
@[simp] theorem apT_130 : apT env.P 130 = true := by kernel_rfl
@[simp] theorem leafT_130 : leafT env.P 130 = none := by kernel_rfl
@[simp] theorem fieldTys_130 : fieldTys env.P 130 = none := by kernel_rfl
@[simp] theorem isBool_130 : isBool env.P 130 = false := by kernel_rfl
@[simp] theorem plain_130 : plain env.P 20 130 = false := by kernel_rfl
@[simp] theorem isInt_130 : isInt env.P 130 = false := by kernel_rfl
@[simp] theorem intKind_130 : intKind env.P 130 = none := by kernel_rfl
@[simp] theorem isBys_130 : isByteSlice env.P 130 = false := by kernel_rfl
@[simp] theorem undS_130 : (env.P.underlying 130).isNone = false := by kernel_rfl
@[simp] theorem tsize_131 : tsize env.P 131 = (some 0) := by kernel_rfl
@[simp] theorem tagg_131 : tagg env.P 131 = (some true) := by kernel_rfl
@[simp] theorem telem_131 : telem env.P 131 = none := by kernel_rfl
@[simp] theorem tarr_131 : tarr env.P 131 = none := by kernel_rfl
@[simp] theorem isStr_131 : isStr env.P 131 = false := by kernel_rfl
@[simp] theorem tzero_131 : tzero env.P 131 = (some (.agg [])) := by kernel_rfl
@[simp] theorem tbytes_131 : tbytes env.P 131 = (some 0) := by kernel_rfl
@[simp] theorem apT_131 : apT env.P 131 = true := by kernel_rfl
@[simp] theorem leafT_131 : leafT env.P 131 = none := by kernel_rfl
@[simp] theorem fieldTys_131 : fieldTys env.P 131 = (some [130]) := by kernel_rfl
@[simp] theorem isBool_131 : isBool env.P 131 = false := by kernel_rfl
@[simp] theorem plain_131 : plain env.P 20 131 = false := by kernel_rfl
@[simp] theorem isInt_131 : isInt env.P 131 = false := by kernel_rfl
@[simp] theorem intKind_131 : intKind env.P 131 = none := by kernel_rfl
@[simp] theorem isBys_131 : isByteSlice env.P 131 = false := by kernel_rfl
@[simp] theorem undS_131 : (env.P.underlying 131).isNone = false := by kernel_rfl
@[simp] theorem places_131 : placesOf env.P 131 = (some [(0, 0)]) := by kernel_rfl
@[simp] theorem tfield_0_131 : tfield env.P 131 0 = (some (0, 130)) := by kernel_rfl
@[simp] theorem fplace_0_131 : fieldPlaces env.P 131 0 = (some (0, 0)) := by kernel_rfl
@[simp] theorem tsize_132 : tsize env.P 132 = (some 0) := by kernel_rfl
@[simp] theorem tagg_132 : tagg env.P 132 = (some true) := by kernel_rfl
@[simp] theorem telem_132 : telem env.P 132 = none := by kernel_rfl
@[simp] theorem tarr_132 : tarr env.P 132 = none := by kernel_rfl
@[simp] theorem isStr_132 : isStr env.P 132 = false := by kernel_rfl
@[simp] theorem tzero_132 : tzero env.P 132 = (some (.agg [])) := by kernel_rfl
@[simp] theorem tbytes_132 : tbytes env.P 132 = (some 0) := by kernel_rfl
@[simp] theorem apT_132 : apT env.P 132 = true := by kernel_rfl
@[simp] theorem leafT_132 : leafT env.P 132 = none := by kernel_rfl
@[simp] theorem fieldTys_132 : fieldTys env.P 132 = (some [130]) := by kernel_rfl
@[simp] theorem isBool_132 : isBool env.P 132 = false := by kernel_rfl
@[simp] theorem plain_132 : plain env.P 20 132 = false := by kernel_rfl
@[simp] theorem isInt_132 : isInt env.P 132 = false := by kernel_rfl
@[simp] theorem intKind_132 : intKind env.P 132 = none := by kernel_rfl
@[simp] theorem isBys_132 : isByteSlice env.P 132 = false := by kernel_rfl
@[simp] theorem undS_132 : (env.P.underlying 132).isNone = false := by kernel_rfl
@[simp] theorem places_132 : placesOf env.P 132 = (some [(0, 0)]) := by kernel_rfl
@[simp] theorem tfield_0_132 : tfield env.P 132 0 = (some (0, 130)) := by kernel_rfl
@[simp] theorem fplace_0_132 : fieldPlaces env.P 132 0 = (some (0, 0)) := by kernel_rfl
@[simp] theorem tsize_133 : tsize env.P 133 = (some 1) := by kernel_rfl
@[simp] theorem tagg_133 : tagg env.P 133 = (some false) := by kernel_rfl
@[simp] theorem telem_133 : telem env.P 133 = none := by kernel_rfl
@[simp] theorem tarr_133 : tarr env.P 133 = none := by kernel_rfl
@[simp] theorem isStr_133 : isStr env.P 133 = false := by kernel_rfl
@[simp] theorem tzero_133 : tzero env.P 133 = (some (.v .nilFunc)) := by kernel_rfl
@[simp] theorem tbytes_133 : tbytes env.P 133 = (some 8) := by kernel_rfl
@[simp] theorem apT_133 : apT env.P 133 = true := by kernel_rfl
@[simp] theorem leafT_133 : leafT env.P 133 = none := by kernel_rfl
@[simp] theorem fieldTys_133 : fieldTys env.P 133 = none := by kernel_rfl
@[simp] theorem isBool_133 : isBool env.P 133 = false := by kernel_rfl
@[simp] theorem plain_133 : plain env.P 20 133 = false := by kernel_rfl
@[simp] theorem isInt_133 : isInt env.P 133 = false := by kernel_rfl
@[simp] theorem intKind_133 : intKind env.P 133 = none := by kernel_rfl
@[simp] theorem isBys_133 : isByteSlice env.P 133 = false := by kernel_rfl
@[simp] theorem undS_133 : (env.P.underlying 133).isNone = false := by kernel_rfl
@[simp] theorem tsize_134 : tsize env.P 134 = (some 1) := by kernel_rfl
@[simp] theorem tagg_134 : tagg env.P 134 = (some false) := by kernel_rfl
@[simp] theorem telem_134 : telem env.P 134 = none := by kernel_rfl
@[simp] theorem tarr_134 : tarr env.P 134 = none := by kernel_rfl
@[simp] theorem isStr_134 : isStr env.P 134 = false := by kernel_rfl
@[simp] theorem tzero_134 : tzero env.P 134 = (some (a8 0)) := by kernel_rfl
@[simp] theorem tbytes_134 : tbytes env.P 134 = (some 1) := by kernel_rfl
@[simp] theorem apT_134 : apT env.P 134 = false := by kernel_rfl
@[simp] theorem leafT_134 : leafT env.P 134 = (some 1) := by kernel_rfl
@[simp] theorem fieldTys_134 : fieldTys env.P 134 = none := by kernel_rfl
@[simp] theorem isBool_134 : isBool env.P 134 = false := by kernel_rfl
@[simp] theorem plain_134 : plain env.P 20 134 = true := by kernel_rfl
@[simp] theorem isInt_134 : isInt env.P 134 = true := by kernel_rfl
@[simp] theorem intKind_134 : intKind env.P 134 = (some .u8) := by kernel_rfl
@[simp] theorem isBys_134 : isByteSlice env.P 134 = false := by kernel_rfl
@[simp] theorem undS_134 : (env.P.underlying 134).isNone = false := by kernel_rfl
@[simp] theorem tsize_135 : tsize env.P 135 = (some 1) := by kernel_rfl
@[simp] theorem tagg_135 : tagg env.P 135 = (some false) := by kernel_rfl
@[simp] theorem telem_135 : telem env.P 135 = none := by kernel_rfl
@[simp] theorem tarr_135 : tarr env.P 135 = none := by kernel_rfl
@[simp] theorem isStr_135 : isStr env.P 135 = false := by kernel_rfl
@[simp] theorem tzero_135 : tzero env.P 135 = (some (a8 0)) := by kernel_rfl
@[simp] theorem tbytes_135 : tbytes env.P 135 = (some 1) := by kernel_rfl
@[simp] theorem apT_135 : apT env.P 135 = false := by kernel_rfl
@[simp] theorem leafT_135 : leafT env.P 135 = (some 1) := by kernel_rfl
@[simp] theorem fieldTys_135 : fieldTys env.P 135 = none := by kernel_rfl
@[simp] theorem isBool_135 : isBool env.P 135 = false := by kernel_rfl
@[simp] theorem plain_135 : plain env.P 20 135 = true := by kernel_rfl
@[simp] theorem isInt_135 : isInt env.P 135 = true := by kernel_rfl
@[simp] theorem intKind_135 : intKind env.P 135 = (some .u8) := by kernel_rfl
@[simp] theorem isBys_135 : isByteSlice env.P 135 = false := by kernel_rfl
@[simp] theorem undS_135 : (env.P.underlying 135).isNone = false := by kernel_rfl
@[simp] theorem tsize_136 : tsize env.P 136 = (some 1) := by kernel_rfl
@[simp] theorem tagg_136 : tagg env.P 136 = (some false) := by kernel_rfl
@[simp] theorem telem_136 : telem env.P 136 = none := by kernel_rfl
@[simp] theorem tarr_136 : tarr env.P 136 = none := by kernel_rfl
@[simp] theorem isStr_136 : isStr env.P 136 = false := by kernel_rfl
@[simp] theorem tzero_136 : tzero env.P 136 = (some (.v .nilFunc)) := by kernel_rfl
@[simp] theorem tbytes_136 : tbytes env.P 136 = (some 8) := by kernel_rfl
@[simp] theorem apT_136 : apT env.P 136 = true := by kernel_rfl
@[simp] theorem leafT_136 : leafT env.P 136 = none := by kernel_rfl
@[simp] theorem fieldTys_136 : fieldTys env.P 136 = none := by kernel_rfl
@[simp] theorem isBool_136 : isBool env.P 136 = false := by kernel_rfl
@[simp] theorem plain_136 : plain env.P 20 136 = false := by kernel_rfl
@[simp] theorem isInt_136 : isInt env.P 136 = false := by kernel_rfl
@[simp] theorem intKind_136 : intKind env.P 136 = none := by kernel_rfl
@[simp] theorem isBys_136 : isByteSlice env.P 136 = false := by kernel_rfl
@[simp] theorem undS_136 : (env.P.underlying 136).isNone = false := by kernel_rfl
@[simp] theorem tsize_137 : tsize env.P 137 = (some 1) := by kernel_rfl
@[simp] theorem tagg_137 : tagg env.P 137 = (some false) := by kernel_rfl
@[simp] theorem telem_137 : telem env.P 137 = none := by kernel_rfl
@[simp] theorem tarr_137 : tarr env.P 137 = none := by kernel_rfl
@[simp] theorem isStr_137 : isStr env.P 137 = false := by kernel_rfl
@[simp] theorem tzero_137 : tzero env.P 137 = (some (.v (.pointer none))) := by kernel_rfl
@[simp] theorem tbytes_137 : tbytes env.P 137 = (some 8) := by kernel_rfl
@[simp] theorem apT_137 : apT env.P 137 = true := by kernel_rfl
@[simp] theorem leafT_137 : leafT env.P 137 = none := by kernel_rfl
@[simp] theorem fieldTys_137 : fieldTys env.P 137 = none := by kernel_rfl
@[simp] theorem isBool_137 : isBool env.P 137 = false := by kernel_rfl
@[simp] theorem plain_137 : plain env.P 20 137 = false := by kernel_rfl
@[simp] theorem isInt_137 : isInt env.P 137 = false := by kernel_rfl
@[simp] theorem intKind_137 : intKind env.P 137 = none := by kernel_rfl
@[simp] theorem isBys_137 : isByteSlice env.P 137 = false := by kernel_rfl
@[simp] theorem undS_137 : (env.P.underlying 137).isNone = false := by kernel_rfl
@[simp] theorem tsize_138 : tsize env.P 138 = (some 1) := by kernel_rfl
@[simp] theorem tagg_138 : tagg env.P 138 = (some false) := by kernel_rfl
@[simp] theorem telem_138 : telem env.P 138 = none := by kernel_rfl
@[simp] theorem tarr_138 : tarr env.P 138 = none := by kernel_rfl
@[simp] theorem isStr_138 : isStr env.P 138 = false := by kernel_rfl
@[simp] theorem tzero_138 : tzero env.P 138 = (some (.v (.int .i32 0))) := by kernel_rfl
@[simp] theorem tbytes_138 : tbytes env.P 138 = (some 4) := by kernel_rfl
@[simp] theorem apT_138 : apT env.P 138 = false := by kernel_rfl
@[simp] theorem leafT_138 : leafT env.P 138 = (some 1) := by kernel_rfl
@[simp] theorem fieldTys_138 : fieldTys env.P 138 = none := by kernel_rfl
@[simp] theorem isBool_138 : isBool env.P 138 = false := by kernel_rfl
@[simp] theorem plain_138 : plain env.P 20 138 = true := by kernel_rfl
@[simp] theorem isInt_138 : isInt env.P 138 = true := by kernel_rfl
@[simp] theorem intKind_138 : intKind env.P 138 = (some .i32) := by kernel_rfl
@[simp] theorem isBys_138 : isByteSlice env.P 138 = false := by kernel_rfl
@[simp] theorem undS_138 : (env.P.underlying 138).isNone = false := by kernel_rfl
@[simp] theorem tsize_139 : tsize env.P 139 = (some 1) := by kernel_rfl
@[simp] theorem tagg_139 : tagg env.P 139 = (some false) := by kernel_rfl
@[simp] theorem telem_139 : telem env.P 139 = none := by kernel_rfl
@[simp] theorem tarr_139 : tarr env.P 139 = none := by kernel_rfl
@[simp] theorem isStr_139 : isStr env.P 139 = false := by kernel_rfl
@[simp] theorem tzero_139 : tzero env.P 139 = (some (.v (.int .i32 0))) := by kernel_rfl
@[simp] theorem tbytes_139 : tbytes env.P 139 = (some 4) := by kernel_rfl
@[simp] theorem apT_139 : apT env.P 139 = false := by kernel_rfl
@[simp] theorem leafT_139 : leafT env.P 139 = (some 1) := by kernel_rfl
@[simp] theorem fieldTys_139 : fieldTys env.P 139 = none := by kernel_rfl
@[simp] theorem isBool_139 : isBool env.P 139 = false := by kernel_rfl
@[simp] theorem plain_139 : plain env.P 20 139 = true := by kernel_rfl
@[simp] theorem isInt_139 : isInt env.P 139 = true := by kernel_rfl
@[simp] theorem intKind_139 : intKind env.P 139 = (some .i32) := by kernel_rfl
@[simp] theorem isBys_139 : isByteSlice env.P 139 = false := by kernel_rfl
@[simp] theorem undS_139 : (env.P.underlying 139).isNone = false := by kernel_rfl
@[simp] theorem tsize_140 : tsize env.P 140 = (some 11) := by kernel_rfl
@[simp] theorem tagg_140 : tagg env.P 140 = (some true) := by kernel_rfl
@[simp] theorem telem_140 : telem env.P 140 = none := by kernel_rfl
@[simp] theorem tarr_140 : tarr env.P 140 = none := by kernel_rfl
@[simp] theorem isStr_140 : isStr env.P 140 = false := by kernel_rfl
@[simp] theorem tzero_140 : tzero env.P 140 = (some (.agg [(.v (.int .u64 0)), (.v (.int .u64 0)), (a32 0), (a8 0), (a8 0), (a8 0), (a8 0), (.v .nilFunc), (.v (.pointer none)), (.v (.int .i32 0)), (.v (.int .i32 0))])) := by kernel_rfl
@[simp] theorem tbytes_140 : tbytes env.P 140 = (some 48) := by kernel_rfl
@[simp] theorem apT_140 : apT env.P 140 = true := by kernel_rfl
@[simp] theorem leafT_140 : leafT env.P 140 = none := by kernel_rfl
@[simp] theorem fieldTys_140 : fieldTys env.P 140 = (some [12, 12, 22, 134, 5, 5, 135, 136, 137, 138, 139]) := by kernel_rfl
@[simp] theorem isBool_140 : isBool env.P 140 = false := by kernel_rfl
@[simp] theorem plain_140 : plain env.P 20 140 = false := by kernel_rfl
@[simp] theorem isInt_140 : isInt env.P 140 = false := by kernel_rfl
@[simp] theorem intKind_140 : intKind env.P 140 = none := by kernel_rfl
@[simp] theorem isBys_140 : isByteSlice env.P 140 = false := by kernel_rfl
@[simp] theorem undS_140 : (env.P.underlying 140).isNone = false := by kernel_rfl
@[simp] theorem places_140 : placesOf env.P 140 = (some [(0, 1), (1, 1), (2, 1), (3, 1), (4, 1), (5, 1), (6, 1), (7, 1), (8, 1), (9, 1), (10, 1)]) := by kernel_rfl
@[simp] theorem tfield_0_140 : tfield env.P 140 0 = (some (0, 12)) := by kernel_rfl
@[simp] theorem fplace_0_140 : fieldPlaces env.P 140 0 = (some (0, 1)) := by kernel_rfl
@[simp] theorem tfield_1_140 : tfield env.P 140 1 = (some (1, 12)) := by kernel_rfl
@[simp] theorem fplace_1_140 : fieldPlaces env.P 140 1 = (some (1, 1)) := by kernel_rfl
@[simp] theorem tfield_2_140 : tfield env.P 140 2 = (some (2, 22)) := by kernel_rfl
@[simp] theorem fplace_2_140 : fieldPlaces env.P 140 2 = (some (2, 1)) := by kernel_rfl
@[simp] theorem tfield_3_140 : tfield env.P 140 3 = (some (3, 134)) := by kernel_rfl
@[simp] theorem fplace_3_140 : fieldPlaces env.P 140 3 = (some (3, 1)) := by kernel_rfl
@[simp] theorem tfield_4_140 : tfield env.P 140 4 = (some (4, 5)) := by kernel_rfl
@[simp] theorem fplace_4_140 : fieldPlaces env.P 140 4 = (some (4, 1)) := by kernel_rfl
@[simp] theorem tfield_5_140 : tfield env.P 140 5 = (some (5, 5)) := by kernel_rfl
@[simp] theorem fplace_5_140 : fieldPlaces env.P 140 5 = (some (5, 1)) := by kernel_rfl
@[simp] theorem tfield_6_140 : tfield env.P 140 6 = (some (6, 135)) := by kernel_rfl
@[simp] theorem fplace_6_140 : fieldPlaces env.P 140 6 = (some (6, 1)) := by kernel_rfl
@[simp] theorem tfield_7_140 : tfield env.P 140 7 = (some (7, 136)) := by kernel_rfl
@[simp] theorem fplace_7_140 : fieldPlaces env.P 140 7 = (some (7, 1)) := by kernel_rfl
@[simp] theorem tfield_8_140 : tfield env.P 140 8 = (some (8, 137)) := by kernel_rfl
@[simp] theorem fplace_8_140 : fieldPlaces env.P 140 8 = (some (8, 1)) := by kernel_rfl
@[simp] theorem tfield_9_140 : tfield env.P 140 9 = (some (9, 138)) := by kernel_rfl
@[simp] theorem fplace_9_140 : fieldPlaces env.P 140 9 = (some (9, 1)) := by kernel_rfl
@[simp] theorem tfield_10_140 : tfield env.P 140 10 = (some (10, 139)) := by kernel_rfl
@[simp] theorem fplace_10_140 : fieldPlaces env.P 140 10 = (some (10, 1)) := by kernel_rfl
@[simp] theorem tsize_141 : tsize env.P 141 = (some 11) := by kernel_rfl
@[simp] theorem tagg_141 : tagg env.P 141 = (some true) := by kernel_rfl
@[simp] theorem telem_141 : telem env.P 141 = none := by kernel_rfl
@[simp] theorem tarr_141 : tarr env.P 141 = none := by kernel_rfl
@[simp] theorem isStr_141 : isStr env.P 141 = false := by kernel_rfl
@[simp] theorem tzero_141 : tzero env.P 141 = (some (.agg [(.v (.int .u64 0)), (.v (.int .u64 0)), (a32 0), (a8 0), (a8 0), (a8 0), (a8 0), (.v .nilFunc), (.v (.pointer none)), (.v (.int .i32 0)), (.v (.int .i32 0))])) := by kernel_rfl
@[simp] theorem tbytes_141 : tbytes env.P 141 = (some 48) := by kernel_rfl
@[simp] theorem apT_141 : apT env.P 141 = true := by kernel_rfl
@[simp] theorem leafT_141 : leafT env.P 141 = none := by kernel_rfl
@[simp] theorem fieldTys_141 : fieldTys env.P 141 = (some [12, 12, 22, 134, 5, 5, 135, 136, 137, 138, 139]) := by kernel_rfl
@[simp] theorem isBool_141 : isBool env.P 141 = false := by kernel_rfl
@[simp] theorem plain_141 : plain env.P 20 141 = false := by kernel_rfl
@[simp] theorem isInt_141 : isInt env.P 141 = false := by kernel_rfl
@[simp] theorem intKind_141 : intKind env.P 141 = none := by kernel_rfl
@[simp] theorem isBys_141 : isByteSlice env.P 141 = false := by kernel_rfl
@[simp] theorem undS_141 : (env.P.underlying 141).isNone = false := by kernel_rfl
@[simp] theorem places_141 : placesOf env.P 141 = (some [(0, 1), (1, 1), (2, 1), (3, 1), (4, 1), (5, 1), (6, 1), (7, 1), (8, 1), (9, 1), (10, 1)]) := by kernel_rfl
@[simp] theorem tfield_0_141 : tfield env.P 141 0 = (some (0, 12)) := by kernel_rfl
@[simp] theorem fplace_0_141 : fieldPlaces env.P 141 0 = (some (0, 1)) := by kernel_rfl
@[simp] theorem tfield_1_141 : tfield env.P 141 1 = (some (1, 12)) := by kernel_rfl
@[simp] theorem fplace_1_141 : fieldPlaces env.P 141 1 = (some (1, 1)) := by kernel_rfl
@[simp] theorem tfield_2_141 : tfield env.P 141 2 = (some (2, 22)) := by kernel_rfl
@[simp] theorem fplace_2_141 : fieldPlaces env.P 141 2 = (some (2, 1)) := by kernel_rfl
@[simp] theorem tfield_3_141 : tfield env.P 141 3 = (some (3, 134)) := by kernel_rfl
@[simp] theorem fplace_3_141 : fieldPlaces env.P 141 3 = (some (3, 1)) := by kernel_rfl
@[simp] theorem tfield_4_141 : tfield env.P 141 4 = (some (4, 5)) := by kernel_rfl
@[simp] theorem fplace_4_141 : fieldPlaces env.P 141 4 = (some (4, 1)) := by kernel_rfl
@[simp] theorem tfield_5_141 : tfield env.P 141 5 = (some (5, 5)) := by kernel_rfl
@[simp] theorem fplace_5_141 : fieldPlaces env.P 141 5 = (some (5, 1)) := by kernel_rfl
@[simp] theorem tfield_6_141 : tfield env.P 141 6 = (some (6, 135)) := by kernel_rfl
@[simp] theorem fplace_6_141 : fieldPlaces env.P 141 6 = (some (6, 1)) := by kernel_rfl
@[simp] theorem tfield_7_141 : tfield env.P 141 7 = (some (7, 136)) := by kernel_rfl
@[simp] theorem fplace_7_141 : fieldPlaces env.P 141 7 = (some (7, 1)) := by kernel_rfl
@[simp] theorem tfield_8_141 : tfield env.P 141 8 = (some (8, 137)) := by kernel_rfl
@[simp] theorem fplace_8_141 : fieldPlaces env.P 141 8 = (some (8, 1)) := by kernel_rfl
@[simp] theorem tfield_9_141 : tfield env.P 141 9 = (some (9, 138)) := by kernel_rfl
@[simp] theorem fplace_9_141 : fieldPlaces env.P 141 9 = (some (9, 1)) := by kernel_rfl
@[simp] theorem tfield_10_141 : tfield env.P 141 10 = (some (10, 139)) := by kernel_rfl
@[simp] theorem fplace_10_141 : fieldPlaces env.P 141 10 = (some (10, 1)) := by kernel_rfl
@[simp] theorem tsize_142 : tsize env.P 142 = (some 1) := by kernel_rfl
@[simp] theorem tagg_142 : tagg env.P 142 = (some false) := by kernel_rfl
@[simp] theorem telem_142 : telem env.P 142 = none := by kernel_rfl
@[simp] theorem tarr_142 : tarr env.P 142 = none := by kernel_rfl
@[simp] theorem isStr_142 : isStr env.P 142 = false := by kernel_rfl
@[simp] theorem tzero_142 : tzero env.P 142 = (some (.v (.pointer none))) := by kernel_rfl
@[simp] theorem tbytes_142 : tbytes env.P 142 = (some 8) := by kernel_rfl
@[simp] theorem apT_142 : apT env.P 142 = true := by kernel_rfl
@[simp] theorem leafT_142 : leafT env.P 142 = none := by kernel_rfl
@[simp] theorem fieldTys_142 : fieldTys env.P 142 = none := by kernel_rfl
@[simp] theorem isBool_142 : isBool env.P 142 = false := by kernel_rfl
@[simp] theorem plain_142 : plain env.P 20 142 = false := by kernel_rfl
@[simp] theorem isInt_142 : isInt env.P 142 = false := by kernel_rfl
@[simp] theorem intKind_142 : intKind env.P 142 = none := by kernel_rfl
@[simp] theorem isBys_142 : isByteSlice env.P 142 = false := by kernel_rfl
@[simp] theorem undS_142 : (env.P.underlying 142).isNone = false := by kernel_rfl
end Go.Proofs.Ytgooemdlilfkmaa
