/-
  The facts on the program's types, computed. No statement of a seat is proved here.
-/
import Derived.Test.YtfkpmldmmdkgoaaRows
import Derived.Test.YtfkpmldmmdkgoaaAbsEq
set_option linter.unusedVariables false
set_option maxRecDepth 1000000
namespace Go.Proofs.Ytfkpmldmmdkgoaa
open Go.Ab

def fns : List FuncId := [3, 4, 5, 6, 7, 8, 9, 10, 11, 12, 13, 14, 15]
noncomputable def env : Env := envOf Try.prog fns [] []
theorem fnsFit : fnsOk env fns = true := by kernel_rfl
@[simp] theorem tsize_0 : tsize env.P 0 = (some 1) := by kernel_rfl
@[simp] theorem tagg_0 : tagg env.P 0 = (some false) := by kernel_rfl
@[simp] theorem telem_0 : telem env.P 0 = none := by kernel_rfl
@[simp] theorem tarr_0 : tarr env.P 0 = none := by kernel_rfl
@[simp] theorem isStr_0 : isStr env.P 0 = false := by kernel_rfl
@[simp] theorem tzero_0 : tzero env.P 0 = (some (.v (.tuple #[]))) := by kernel_rfl
@[simp] theorem tbytes_0 : tbytes env.P 0 = (some 0) := by kernel_rfl
@[simp] theorem apT_0 : apT env.P 0 = true := by kernel_rfl
@[simp] theorem leafT_0 : leafT env.P 0 = none := by kernel_rfl
@[simp] theorem fieldTys_0 : fieldTys env.P 0 = none := by kernel_rfl
@[simp] theorem isBool_0 : isBool env.P 0 = false := by kernel_rfl
@[simp] theorem plain_0 : plain env.P 20 0 = false := by kernel_rfl
@[simp] theorem isInt_0 : isInt env.P 0 = false := by kernel_rfl
@[simp] theorem intKind_0 : intKind env.P 0 = none := by kernel_rfl
@[simp] theorem isBys_0 : isByteSlice env.P 0 = false := by kernel_rfl
@[simp] theorem undS_0 : (env.P.underlying 0).isNone = false := by kernel_rfl
@[simp] theorem tsize_1 : tsize env.P 1 = (some 1) := by kernel_rfl
@[simp] theorem tagg_1 : tagg env.P 1 = (some false) := by kernel_rfl
@[simp] theorem telem_1 : telem env.P 1 = none := by kernel_rfl
@[simp] theorem tarr_1 : tarr env.P 1 = none := by kernel_rfl
@[simp] theorem isStr_1 : isStr env.P 1 = false := by kernel_rfl
@[simp] theorem tzero_1 : tzero env.P 1 = (some (.v .nilFunc)) := by kernel_rfl
@[simp] theorem tbytes_1 : tbytes env.P 1 = (some 8) := by kernel_rfl
@[simp] theorem apT_1 : apT env.P 1 = true := by kernel_rfl
@[simp] theorem leafT_1 : leafT env.P 1 = none := by kernel_rfl
@[simp] theorem fieldTys_1 : fieldTys env.P 1 = none := by kernel_rfl
@[simp] theorem isBool_1 : isBool env.P 1 = false := by kernel_rfl
@[simp] theorem plain_1 : plain env.P 20 1 = false := by kernel_rfl
@[simp] theorem isInt_1 : isInt env.P 1 = false := by kernel_rfl
@[simp] theorem intKind_1 : intKind env.P 1 = none := by kernel_rfl
@[simp] theorem isBys_1 : isByteSlice env.P 1 = false := by kernel_rfl
@[simp] theorem undS_1 : (env.P.underlying 1).isNone = false := by kernel_rfl
@[simp] theorem tsize_2 : tsize env.P 2 = (some 1) := by kernel_rfl
@[simp] theorem tagg_2 : tagg env.P 2 = (some false) := by kernel_rfl
@[simp] theorem telem_2 : telem env.P 2 = none := by kernel_rfl
@[simp] theorem tarr_2 : tarr env.P 2 = none := by kernel_rfl
@[simp] theorem isStr_2 : isStr env.P 2 = false := by kernel_rfl
@[simp] theorem tzero_2 : tzero env.P 2 = (some (.v (.int .i64 0))) := by kernel_rfl
@[simp] theorem tbytes_2 : tbytes env.P 2 = (some 8) := by kernel_rfl
@[simp] theorem apT_2 : apT env.P 2 = false := by kernel_rfl
@[simp] theorem leafT_2 : leafT env.P 2 = (some 1) := by kernel_rfl
@[simp] theorem fieldTys_2 : fieldTys env.P 2 = none := by kernel_rfl
@[simp] theorem isBool_2 : isBool env.P 2 = false := by kernel_rfl
@[simp] theorem plain_2 : plain env.P 20 2 = true := by kernel_rfl
@[simp] theorem isInt_2 : isInt env.P 2 = true := by kernel_rfl
@[simp] theorem intKind_2 : intKind env.P 2 = (some .i64) := by kernel_rfl
@[simp] theorem isBys_2 : isByteSlice env.P 2 = false := by kernel_rfl
@[simp] theorem undS_2 : (env.P.underlying 2).isNone = false := by kernel_rfl
@[simp] theorem tsize_3 : tsize env.P 3 = (some 1) := by kernel_rfl
@[simp] theorem tagg_3 : tagg env.P 3 = (some false) := by kernel_rfl
@[simp] theorem telem_3 : telem env.P 3 = none := by kernel_rfl
@[simp] theorem tarr_3 : tarr env.P 3 = none := by kernel_rfl
@[simp] theorem isStr_3 : isStr env.P 3 = false := by kernel_rfl
@[simp] theorem tzero_3 : tzero env.P 3 = (some (.v (.int .i64 0))) := by kernel_rfl
@[simp] theorem tbytes_3 : tbytes env.P 3 = (some 8) := by kernel_rfl
@[simp] theorem apT_3 : apT env.P 3 = false := by kernel_rfl
@[simp] theorem leafT_3 : leafT env.P 3 = (some 1) := by kernel_rfl
@[simp] theorem fieldTys_3 : fieldTys env.P 3 = none := by kernel_rfl
@[simp] theorem isBool_3 : isBool env.P 3 = false := by kernel_rfl
@[simp] theorem plain_3 : plain env.P 20 3 = true := by kernel_rfl
@[simp] theorem isInt_3 : isInt env.P 3 = true := by kernel_rfl
@[simp] theorem intKind_3 : intKind env.P 3 = (some .i64) := by kernel_rfl
@[simp] theorem isBys_3 : isByteSlice env.P 3 = false := by kernel_rfl
@[simp] theorem undS_3 : (env.P.underlying 3).isNone = false := by kernel_rfl
@[simp] theorem tsize_4 : tsize env.P 4 = (some 1) := by kernel_rfl
@[simp] theorem tagg_4 : tagg env.P 4 = (some false) := by kernel_rfl
@[simp] theorem telem_4 : telem env.P 4 = none := by kernel_rfl
@[simp] theorem tarr_4 : tarr env.P 4 = none := by kernel_rfl
@[simp] theorem isStr_4 : isStr env.P 4 = false := by kernel_rfl
@[simp] theorem tzero_4 : tzero env.P 4 = (some (.v (.bool false))) := by kernel_rfl
@[simp] theorem tbytes_4 : tbytes env.P 4 = (some 1) := by kernel_rfl
@[simp] theorem apT_4 : apT env.P 4 = true := by kernel_rfl
@[simp] theorem leafT_4 : leafT env.P 4 = (some 0) := by kernel_rfl
@[simp] theorem fieldTys_4 : fieldTys env.P 4 = none := by kernel_rfl
@[simp] theorem isBool_4 : isBool env.P 4 = true := by kernel_rfl
@[simp] theorem plain_4 : plain env.P 20 4 = true := by kernel_rfl
@[simp] theorem isInt_4 : isInt env.P 4 = false := by kernel_rfl
@[simp] theorem intKind_4 : intKind env.P 4 = none := by kernel_rfl
@[simp] theorem isBys_4 : isByteSlice env.P 4 = false := by kernel_rfl
@[simp] theorem undS_4 : (env.P.underlying 4).isNone = false := by kernel_rfl
@[simp] theorem tsize_5 : tsize env.P 5 = (some 1) := by kernel_rfl
@[simp] theorem tagg_5 : tagg env.P 5 = (some false) := by kernel_rfl
@[simp] theorem telem_5 : telem env.P 5 = none := by kernel_rfl
@[simp] theorem tarr_5 : tarr env.P 5 = none := by kernel_rfl
@[simp] theorem isStr_5 : isStr env.P 5 = false := by kernel_rfl
@[simp] theorem tzero_5 : tzero env.P 5 = (some (a8 0)) := by kernel_rfl
@[simp] theorem tbytes_5 : tbytes env.P 5 = (some 1) := by kernel_rfl
@[simp] theorem apT_5 : apT env.P 5 = false := by kernel_rfl
@[simp] theorem leafT_5 : leafT env.P 5 = (some 1) := by kernel_rfl
@[simp] theorem fieldTys_5 : fieldTys env.P 5 = none := by kernel_rfl
@[simp] theorem isBool_5 : isBool env.P 5 = false := by kernel_rfl
@[simp] theorem plain_5 : plain env.P 20 5 = true := by kernel_rfl
@[simp] theorem isInt_5 : isInt env.P 5 = true := by kernel_rfl
@[simp] theorem intKind_5 : intKind env.P 5 = (some .u8) := by kernel_rfl
@[simp] theorem isBys_5 : isByteSlice env.P 5 = false := by kernel_rfl
@[simp] theorem undS_5 : (env.P.underlying 5).isNone = false := by kernel_rfl
@[simp] theorem tsize_6 : tsize env.P 6 = (some 1) := by kernel_rfl
@[simp] theorem tagg_6 : tagg env.P 6 = (some false) := by kernel_rfl
@[simp] theorem telem_6 : telem env.P 6 = none := by kernel_rfl
@[simp] theorem tarr_6 : tarr env.P 6 = none := by kernel_rfl
@[simp] theorem isStr_6 : isStr env.P 6 = false := by kernel_rfl
@[simp] theorem tzero_6 : tzero env.P 6 = (some (a8 0)) := by kernel_rfl
@[simp] theorem tbytes_6 : tbytes env.P 6 = (some 1) := by kernel_rfl
@[simp] theorem apT_6 : apT env.P 6 = false := by kernel_rfl
@[simp] theorem leafT_6 : leafT env.P 6 = (some 1) := by kernel_rfl
@[simp] theorem fieldTys_6 : fieldTys env.P 6 = none := by kernel_rfl
@[simp] theorem isBool_6 : isBool env.P 6 = false := by kernel_rfl
@[simp] theorem plain_6 : plain env.P 20 6 = true := by kernel_rfl
@[simp] theorem isInt_6 : isInt env.P 6 = true := by kernel_rfl
@[simp] theorem intKind_6 : intKind env.P 6 = (some .u8) := by kernel_rfl
@[simp] theorem isBys_6 : isByteSlice env.P 6 = false := by kernel_rfl
@[simp] theorem undS_6 : (env.P.underlying 6).isNone = false := by kernel_rfl
@[simp] theorem tsize_7 : tsize env.P 7 = (some 4) := by kernel_rfl
@[simp] theorem tagg_7 : tagg env.P 7 = (some true) := by kernel_rfl
@[simp] theorem telem_7 : telem env.P 7 = none := by kernel_rfl
@[simp] theorem tarr_7 : tarr env.P 7 = none := by kernel_rfl
@[simp] theorem isStr_7 : isStr env.P 7 = false := by kernel_rfl
@[simp] theorem tzero_7 : tzero env.P 7 = (some (.agg [(.v (.int .i64 0)), (.v (.int .i64 0)), (.v (.bool false)), (a8 0)])) := by kernel_rfl
@[simp] theorem tbytes_7 : tbytes env.P 7 = (some 24) := by kernel_rfl
@[simp] theorem apT_7 : apT env.P 7 = true := by kernel_rfl
@[simp] theorem leafT_7 : leafT env.P 7 = none := by kernel_rfl
@[simp] theorem eqTy_7 : eqTy env.P 7 = true := by kernel_rfl
@[simp] theorem fieldTys_7 : fieldTys env.P 7 = (some [2, 3, 4, 6]) := by kernel_rfl
@[simp] theorem isBool_7 : isBool env.P 7 = false := by kernel_rfl
@[simp] theorem plain_7 : plain env.P 20 7 = true := by kernel_rfl
@[simp] theorem isInt_7 : isInt env.P 7 = false := by kernel_rfl
@[simp] theorem intKind_7 : intKind env.P 7 = none := by kernel_rfl
@[simp] theorem isBys_7 : isByteSlice env.P 7 = false := by kernel_rfl
@[simp] theorem undS_7 : (env.P.underlying 7).isNone = false := by kernel_rfl
@[simp] theorem places_7 : placesOf env.P 7 = (some [(0, 1), (1, 1), (2, 1), (3, 1)]) := by kernel_rfl
@[simp] theorem tfield_0_7 : tfield env.P 7 0 = (some (0, 2)) := by kernel_rfl
@[simp] theorem fplace_0_7 : fieldPlaces env.P 7 0 = (some (0, 1)) := by kernel_rfl
@[simp] theorem tfield_1_7 : tfield env.P 7 1 = (some (1, 3)) := by kernel_rfl
@[simp] theorem fplace_1_7 : fieldPlaces env.P 7 1 = (some (1, 1)) := by kernel_rfl
@[simp] theorem tfield_2_7 : tfield env.P 7 2 = (some (2, 4)) := by kernel_rfl
@[simp] theorem fplace_2_7 : fieldPlaces env.P 7 2 = (some (2, 1)) := by kernel_rfl
@[simp] theorem tfield_3_7 : tfield env.P 7 3 = (some (3, 6)) := by kernel_rfl
@[simp] theorem fplace_3_7 : fieldPlaces env.P 7 3 = (some (3, 1)) := by kernel_rfl
@[simp] theorem tsize_8 : tsize env.P 8 = (some 4) := by kernel_rfl
@[simp] theorem tagg_8 : tagg env.P 8 = (some true) := by kernel_rfl
@[simp] theorem telem_8 : telem env.P 8 = none := by kernel_rfl
@[simp] theorem tarr_8 : tarr env.P 8 = none := by kernel_rfl
@[simp] theorem isStr_8 : isStr env.P 8 = false := by kernel_rfl
@[simp] theorem tzero_8 : tzero env.P 8 = (some (.agg [(.v (.int .i64 0)), (.v (.int .i64 0)), (.v (.bool false)), (a8 0)])) := by kernel_rfl
@[simp] theorem tbytes_8 : tbytes env.P 8 = (some 24) := by kernel_rfl
@[simp] theorem apT_8 : apT env.P 8 = true := by kernel_rfl
@[simp] theorem leafT_8 : leafT env.P 8 = none := by kernel_rfl
@[simp] theorem eqTy_8 : eqTy env.P 8 = true := by kernel_rfl
@[simp] theorem fieldTys_8 : fieldTys env.P 8 = (some [2, 3, 4, 6]) := by kernel_rfl
@[simp] theorem isBool_8 : isBool env.P 8 = false := by kernel_rfl
@[simp] theorem plain_8 : plain env.P 20 8 = true := by kernel_rfl
@[simp] theorem isInt_8 : isInt env.P 8 = false := by kernel_rfl
@[simp] theorem intKind_8 : intKind env.P 8 = none := by kernel_rfl
@[simp] theorem isBys_8 : isByteSlice env.P 8 = false := by kernel_rfl
@[simp] theorem undS_8 : (env.P.underlying 8).isNone = false := by kernel_rfl
@[simp] theorem places_8 : placesOf env.P 8 = (some [(0, 1), (1, 1), (2, 1), (3, 1)]) := by kernel_rfl
@[simp] theorem tfield_0_8 : tfield env.P 8 0 = (some (0, 2)) := by kernel_rfl
@[simp] theorem fplace_0_8 : fieldPlaces env.P 8 0 = (some (0, 1)) := by kernel_rfl
@[simp] theorem tfield_1_8 : tfield env.P 8 1 = (some (1, 3)) := by kernel_rfl
@[simp] theorem fplace_1_8 : fieldPlaces env.P 8 1 = (some (1, 1)) := by kernel_rfl
@[simp] theorem tfield_2_8 : tfield env.P 8 2 = (some (2, 4)) := by kernel_rfl
@[simp] theorem fplace_2_8 : fieldPlaces env.P 8 2 = (some (2, 1)) := by kernel_rfl
@[simp] theorem tfield_3_8 : tfield env.P 8 3 = (some (3, 6)) := by kernel_rfl
@[simp] theorem fplace_3_8 : fieldPlaces env.P 8 3 = (some (3, 1)) := by kernel_rfl
@[simp] theorem tsize_9 : tsize env.P 9 = (some 1) := by kernel_rfl
@[simp] theorem tagg_9 : tagg env.P 9 = (some false) := by kernel_rfl
@[simp] theorem telem_9 : telem env.P 9 = none := by kernel_rfl
@[simp] theorem tarr_9 : tarr env.P 9 = none := by kernel_rfl
@[simp] theorem isStr_9 : isStr env.P 9 = true := by kernel_rfl
@[simp] theorem tzero_9 : tzero env.P 9 = (some (.v (.string ⟨#[]⟩))) := by kernel_rfl
@[simp] theorem tbytes_9 : tbytes env.P 9 = (some 16) := by kernel_rfl
@[simp] theorem apT_9 : apT env.P 9 = true := by kernel_rfl
@[simp] theorem leafT_9 : leafT env.P 9 = (some 2) := by kernel_rfl
@[simp] theorem fieldTys_9 : fieldTys env.P 9 = none := by kernel_rfl
@[simp] theorem isBool_9 : isBool env.P 9 = false := by kernel_rfl
@[simp] theorem plain_9 : plain env.P 20 9 = true := by kernel_rfl
@[simp] theorem isInt_9 : isInt env.P 9 = false := by kernel_rfl
@[simp] theorem intKind_9 : intKind env.P 9 = none := by kernel_rfl
@[simp] theorem isBys_9 : isByteSlice env.P 9 = false := by kernel_rfl
@[simp] theorem undS_9 : (env.P.underlying 9).isNone = false := by kernel_rfl
@[simp] theorem tsize_10 : tsize env.P 10 = (some 1) := by kernel_rfl
@[simp] theorem tagg_10 : tagg env.P 10 = (some false) := by kernel_rfl
@[simp] theorem telem_10 : telem env.P 10 = none := by kernel_rfl
@[simp] theorem tarr_10 : tarr env.P 10 = none := by kernel_rfl
@[simp] theorem isStr_10 : isStr env.P 10 = true := by kernel_rfl
@[simp] theorem tzero_10 : tzero env.P 10 = (some (.v (.string ⟨#[]⟩))) := by kernel_rfl
@[simp] theorem tbytes_10 : tbytes env.P 10 = (some 16) := by kernel_rfl
@[simp] theorem apT_10 : apT env.P 10 = true := by kernel_rfl
@[simp] theorem leafT_10 : leafT env.P 10 = (some 2) := by kernel_rfl
@[simp] theorem fieldTys_10 : fieldTys env.P 10 = none := by kernel_rfl
@[simp] theorem isBool_10 : isBool env.P 10 = false := by kernel_rfl
@[simp] theorem plain_10 : plain env.P 20 10 = true := by kernel_rfl
@[simp] theorem isInt_10 : isInt env.P 10 = false := by kernel_rfl
@[simp] theorem intKind_10 : intKind env.P 10 = none := by kernel_rfl
@[simp] theorem isBys_10 : isByteSlice env.P 10 = false := by kernel_rfl
@[simp] theorem undS_10 : (env.P.underlying 10).isNone = false := by kernel_rfl
@[simp] theorem tsize_11 : tsize env.P 11 = (some 1) := by kernel_rfl
@[simp] theorem tagg_11 : tagg env.P 11 = (some false) := by kernel_rfl
@[simp] theorem telem_11 : telem env.P 11 = none := by kernel_rfl
@[simp] theorem tarr_11 : tarr env.P 11 = none := by kernel_rfl
@[simp] theorem isStr_11 : isStr env.P 11 = true := by kernel_rfl
@[simp] theorem tzero_11 : tzero env.P 11 = (some (.v (.string ⟨#[]⟩))) := by kernel_rfl
@[simp] theorem tbytes_11 : tbytes env.P 11 = (some 16) := by kernel_rfl
@[simp] theorem apT_11 : apT env.P 11 = true := by kernel_rfl
@[simp] theorem leafT_11 : leafT env.P 11 = (some 2) := by kernel_rfl
@[simp] theorem fieldTys_11 : fieldTys env.P 11 = none := by kernel_rfl
@[simp] theorem isBool_11 : isBool env.P 11 = false := by kernel_rfl
@[simp] theorem plain_11 : plain env.P 20 11 = true := by kernel_rfl
@[simp] theorem isInt_11 : isInt env.P 11 = false := by kernel_rfl
@[simp] theorem intKind_11 : intKind env.P 11 = none := by kernel_rfl
@[simp] theorem isBys_11 : isByteSlice env.P 11 = false := by kernel_rfl
@[simp] theorem undS_11 : (env.P.underlying 11).isNone = false := by kernel_rfl
@[simp] theorem tsize_12 : tsize env.P 12 = (some 1) := by kernel_rfl
@[simp] theorem tagg_12 : tagg env.P 12 = (some false) := by kernel_rfl
@[simp] theorem telem_12 : telem env.P 12 = none := by kernel_rfl
@[simp] theorem tarr_12 : tarr env.P 12 = none := by kernel_rfl
@[simp] theorem isStr_12 : isStr env.P 12 = false := by kernel_rfl
@[simp] theorem tzero_12 : tzero env.P 12 = (some (.v (.int .u64 0))) := by kernel_rfl
@[simp] theorem tbytes_12 : tbytes env.P 12 = (some 8) := by kernel_rfl
@[simp] theorem apT_12 : apT env.P 12 = false := by kernel_rfl
@[simp] theorem leafT_12 : leafT env.P 12 = (some 1) := by kernel_rfl
@[simp] theorem fieldTys_12 : fieldTys env.P 12 = none := by kernel_rfl
@[simp] theorem isBool_12 : isBool env.P 12 = false := by kernel_rfl
@[simp] theorem plain_12 : plain env.P 20 12 = true := by kernel_rfl
@[simp] theorem isInt_12 : isInt env.P 12 = true := by kernel_rfl
@[simp] theorem intKind_12 : intKind env.P 12 = (some .u64) := by kernel_rfl
@[simp] theorem isBys_12 : isByteSlice env.P 12 = false := by kernel_rfl
@[simp] theorem undS_12 : (env.P.underlying 12).isNone = false := by kernel_rfl
@[simp] theorem tsize_13 : tsize env.P 13 = (some 2) := by kernel_rfl
@[simp] theorem tagg_13 : tagg env.P 13 = (some true) := by kernel_rfl
@[simp] theorem telem_13 : telem env.P 13 = none := by kernel_rfl
@[simp] theorem tarr_13 : tarr env.P 13 = none := by kernel_rfl
@[simp] theorem isStr_13 : isStr env.P 13 = false := by kernel_rfl
@[simp] theorem tzero_13 : tzero env.P 13 = (some (.agg [(.v (.string ⟨#[]⟩)), (.v (.int .u64 0))])) := by kernel_rfl
@[simp] theorem tbytes_13 : tbytes env.P 13 = (some 24) := by kernel_rfl
@[simp] theorem apT_13 : apT env.P 13 = true := by kernel_rfl
@[simp] theorem leafT_13 : leafT env.P 13 = none := by kernel_rfl
@[simp] theorem fieldTys_13 : fieldTys env.P 13 = (some [9, 12]) := by kernel_rfl
@[simp] theorem isBool_13 : isBool env.P 13 = false := by kernel_rfl
@[simp] theorem plain_13 : plain env.P 20 13 = true := by kernel_rfl
@[simp] theorem isInt_13 : isInt env.P 13 = false := by kernel_rfl
@[simp] theorem intKind_13 : intKind env.P 13 = none := by kernel_rfl
@[simp] theorem isBys_13 : isByteSlice env.P 13 = false := by kernel_rfl
@[simp] theorem undS_13 : (env.P.underlying 13).isNone = false := by kernel_rfl
@[simp] theorem places_13 : placesOf env.P 13 = (some [(0, 1), (1, 1)]) := by kernel_rfl
@[simp] theorem tfield_0_13 : tfield env.P 13 0 = (some (0, 9)) := by kernel_rfl
@[simp] theorem fplace_0_13 : fieldPlaces env.P 13 0 = (some (0, 1)) := by kernel_rfl
@[simp] theorem tfield_1_13 : tfield env.P 13 1 = (some (1, 12)) := by kernel_rfl
@[simp] theorem fplace_1_13 : fieldPlaces env.P 13 1 = (some (1, 1)) := by kernel_rfl
@[simp] theorem tsize_14 : tsize env.P 14 = (some 2) := by kernel_rfl
@[simp] theorem tagg_14 : tagg env.P 14 = (some true) := by kernel_rfl
@[simp] theorem telem_14 : telem env.P 14 = none := by kernel_rfl
@[simp] theorem tarr_14 : tarr env.P 14 = none := by kernel_rfl
@[simp] theorem isStr_14 : isStr env.P 14 = false := by kernel_rfl
@[simp] theorem tzero_14 : tzero env.P 14 = (some (.agg [(.v (.string ⟨#[]⟩)), (.v (.int .u64 0))])) := by kernel_rfl
@[simp] theorem tbytes_14 : tbytes env.P 14 = (some 24) := by kernel_rfl
@[simp] theorem apT_14 : apT env.P 14 = true := by kernel_rfl
@[simp] theorem leafT_14 : leafT env.P 14 = none := by kernel_rfl
@[simp] theorem fieldTys_14 : fieldTys env.P 14 = (some [9, 12]) := by kernel_rfl
@[simp] theorem isBool_14 : isBool env.P 14 = false := by kernel_rfl
@[simp] theorem plain_14 : plain env.P 20 14 = true := by kernel_rfl
@[simp] theorem isInt_14 : isInt env.P 14 = false := by kernel_rfl
@[simp] theorem intKind_14 : intKind env.P 14 = none := by kernel_rfl
@[simp] theorem isBys_14 : isByteSlice env.P 14 = false := by kernel_rfl
@[simp] theorem undS_14 : (env.P.underlying 14).isNone = false := by kernel_rfl
@[simp] theorem places_14 : placesOf env.P 14 = (some [(0, 1), (1, 1)]) := by kernel_rfl
@[simp] theorem tfield_0_14 : tfield env.P 14 0 = (some (0, 9)) := by kernel_rfl
@[simp] theorem fplace_0_14 : fieldPlaces env.P 14 0 = (some (0, 1)) := by kernel_rfl
@[simp] theorem tfield_1_14 : tfield env.P 14 1 = (some (1, 12)) := by kernel_rfl
@[simp] theorem fplace_1_14 : fieldPlaces env.P 14 1 = (some (1, 1)) := by kernel_rfl
@[simp] theorem tsize_15 : tsize env.P 15 = (some 1) := by kernel_rfl
@[simp] theorem tagg_15 : tagg env.P 15 = (some false) := by kernel_rfl
@[simp] theorem telem_15 : telem env.P 15 = none := by kernel_rfl
@[simp] theorem tarr_15 : tarr env.P 15 = none := by kernel_rfl
@[simp] theorem isStr_15 : isStr env.P 15 = false := by kernel_rfl
@[simp] theorem tzero_15 : tzero env.P 15 = (some (.v (.pointer none))) := by kernel_rfl
@[simp] theorem tbytes_15 : tbytes env.P 15 = (some 8) := by kernel_rfl
@[simp] theorem apT_15 : apT env.P 15 = true := by kernel_rfl
@[simp] theorem leafT_15 : leafT env.P 15 = none := by kernel_rfl
@[simp] theorem fieldTys_15 : fieldTys env.P 15 = none := by kernel_rfl
@[simp] theorem isBool_15 : isBool env.P 15 = false := by kernel_rfl
@[simp] theorem plain_15 : plain env.P 20 15 = false := by kernel_rfl
@[simp] theorem isInt_15 : isInt env.P 15 = false := by kernel_rfl
@[simp] theorem intKind_15 : intKind env.P 15 = none := by kernel_rfl
@[simp] theorem isBys_15 : isByteSlice env.P 15 = false := by kernel_rfl
@[simp] theorem undS_15 : (env.P.underlying 15).isNone = false := by kernel_rfl
@[simp] theorem tsize_16 : tsize env.P 16 = (some 1) := by kernel_rfl
@[simp] theorem tagg_16 : tagg env.P 16 = (some false) := by kernel_rfl
@[simp] theorem telem_16 : telem env.P 16 = none := by kernel_rfl
@[simp] theorem tarr_16 : tarr env.P 16 = none := by kernel_rfl
@[simp] theorem isStr_16 : isStr env.P 16 = false := by kernel_rfl
@[simp] theorem tzero_16 : tzero env.P 16 = (some (.v (.pointer none))) := by kernel_rfl
@[simp] theorem tbytes_16 : tbytes env.P 16 = (some 8) := by kernel_rfl
@[simp] theorem apT_16 : apT env.P 16 = true := by kernel_rfl
@[simp] theorem leafT_16 : leafT env.P 16 = none := by kernel_rfl
@[simp] theorem fieldTys_16 : fieldTys env.P 16 = none := by kernel_rfl
@[simp] theorem isBool_16 : isBool env.P 16 = false := by kernel_rfl
@[simp] theorem plain_16 : plain env.P 20 16 = false := by kernel_rfl
@[simp] theorem isInt_16 : isInt env.P 16 = false := by kernel_rfl
@[simp] theorem intKind_16 : intKind env.P 16 = none := by kernel_rfl
@[simp] theorem isBys_16 : isByteSlice env.P 16 = false := by kernel_rfl
@[simp] theorem undS_16 : (env.P.underlying 16).isNone = false := by kernel_rfl
@[simp] theorem tsize_17 : tsize env.P 17 = (some 1) := by kernel_rfl
@[simp] theorem tagg_17 : tagg env.P 17 = (some false) := by kernel_rfl
@[simp] theorem telem_17 : telem env.P 17 = none := by kernel_rfl
@[simp] theorem tarr_17 : tarr env.P 17 = none := by kernel_rfl
@[simp] theorem isStr_17 : isStr env.P 17 = false := by kernel_rfl
@[simp] theorem tzero_17 : tzero env.P 17 = (some (.v (.pointer none))) := by kernel_rfl
@[simp] theorem tbytes_17 : tbytes env.P 17 = (some 8) := by kernel_rfl
@[simp] theorem apT_17 : apT env.P 17 = true := by kernel_rfl
@[simp] theorem leafT_17 : leafT env.P 17 = none := by kernel_rfl
@[simp] theorem fieldTys_17 : fieldTys env.P 17 = none := by kernel_rfl
@[simp] theorem isBool_17 : isBool env.P 17 = false := by kernel_rfl
@[simp] theorem plain_17 : plain env.P 20 17 = false := by kernel_rfl
@[simp] theorem isInt_17 : isInt env.P 17 = false := by kernel_rfl
@[simp] theorem intKind_17 : intKind env.P 17 = none := by kernel_rfl
@[simp] theorem isBys_17 : isByteSlice env.P 17 = false := by kernel_rfl
@[simp] theorem undS_17 : (env.P.underlying 17).isNone = false := by kernel_rfl
@[simp] theorem tsize_18 : tsize env.P 18 = (some 1) := by kernel_rfl
@[simp] theorem tagg_18 : tagg env.P 18 = (some true) := by kernel_rfl
@[simp] theorem telem_18 : telem env.P 18 = none := by kernel_rfl
@[simp] theorem tarr_18 : tarr env.P 18 = none := by kernel_rfl
@[simp] theorem isStr_18 : isStr env.P 18 = false := by kernel_rfl
@[simp] theorem tzero_18 : tzero env.P 18 = (some (.agg [(.v (.pointer none))])) := by kernel_rfl
@[simp] theorem tbytes_18 : tbytes env.P 18 = (some 8) := by kernel_rfl
@[simp] theorem apT_18 : apT env.P 18 = true := by kernel_rfl
@[simp] theorem leafT_18 : leafT env.P 18 = none := by kernel_rfl
@[simp] theorem fieldTys_18 : fieldTys env.P 18 = (some [17]) := by kernel_rfl
@[simp] theorem isBool_18 : isBool env.P 18 = false := by kernel_rfl
@[simp] theorem plain_18 : plain env.P 20 18 = false := by kernel_rfl
@[simp] theorem isInt_18 : isInt env.P 18 = false := by kernel_rfl
@[simp] theorem intKind_18 : intKind env.P 18 = none := by kernel_rfl
@[simp] theorem isBys_18 : isByteSlice env.P 18 = false := by kernel_rfl
@[simp] theorem undS_18 : (env.P.underlying 18).isNone = false := by kernel_rfl
@[simp] theorem places_18 : placesOf env.P 18 = (some [(0, 1)]) := by kernel_rfl
@[simp] theorem tfield_0_18 : tfield env.P 18 0 = (some (0, 17)) := by kernel_rfl
@[simp] theorem fplace_0_18 : fieldPlaces env.P 18 0 = (some (0, 1)) := by kernel_rfl
@[simp] theorem tsize_19 : tsize env.P 19 = (some 1) := by kernel_rfl
@[simp] theorem tagg_19 : tagg env.P 19 = (some true) := by kernel_rfl
@[simp] theorem telem_19 : telem env.P 19 = none := by kernel_rfl
@[simp] theorem tarr_19 : tarr env.P 19 = none := by kernel_rfl
@[simp] theorem isStr_19 : isStr env.P 19 = false := by kernel_rfl
@[simp] theorem tzero_19 : tzero env.P 19 = (some (.agg [(.v (.pointer none))])) := by kernel_rfl
@[simp] theorem tbytes_19 : tbytes env.P 19 = (some 8) := by kernel_rfl
@[simp] theorem apT_19 : apT env.P 19 = true := by kernel_rfl
@[simp] theorem leafT_19 : leafT env.P 19 = none := by kernel_rfl
@[simp] theorem fieldTys_19 : fieldTys env.P 19 = (some [17]) := by kernel_rfl
@[simp] theorem isBool_19 : isBool env.P 19 = false := by kernel_rfl
@[simp] theorem plain_19 : plain env.P 20 19 = false := by kernel_rfl
@[simp] theorem isInt_19 : isInt env.P 19 = false := by kernel_rfl
@[simp] theorem intKind_19 : intKind env.P 19 = none := by kernel_rfl
@[simp] theorem isBys_19 : isByteSlice env.P 19 = false := by kernel_rfl
@[simp] theorem undS_19 : (env.P.underlying 19).isNone = false := by kernel_rfl
@[simp] theorem places_19 : placesOf env.P 19 = (some [(0, 1)]) := by kernel_rfl
@[simp] theorem tfield_0_19 : tfield env.P 19 0 = (some (0, 17)) := by kernel_rfl
@[simp] theorem fplace_0_19 : fieldPlaces env.P 19 0 = (some (0, 1)) := by kernel_rfl
@[simp] theorem tsize_20 : tsize env.P 20 = (some 1) := by kernel_rfl
@[simp] theorem tagg_20 : tagg env.P 20 = (some false) := by kernel_rfl
@[simp] theorem telem_20 : telem env.P 20 = none := by kernel_rfl
@[simp] theorem tarr_20 : tarr env.P 20 = none := by kernel_rfl
@[simp] theorem isStr_20 : isStr env.P 20 = false := by kernel_rfl
@[simp] theorem tzero_20 : tzero env.P 20 = (some (.v .nilIface)) := by kernel_rfl
@[simp] theorem tbytes_20 : tbytes env.P 20 = (some 16) := by kernel_rfl
@[simp] theorem apT_20 : apT env.P 20 = true := by kernel_rfl
@[simp] theorem leafT_20 : leafT env.P 20 = none := by kernel_rfl
@[simp] theorem fieldTys_20 : fieldTys env.P 20 = none := by kernel_rfl
@[simp] theorem isBool_20 : isBool env.P 20 = false := by kernel_rfl
@[simp] theorem plain_20 : plain env.P 20 20 = false := by kernel_rfl
@[simp] theorem isInt_20 : isInt env.P 20 = false := by kernel_rfl
@[simp] theorem intKind_20 : intKind env.P 20 = none := by kernel_rfl
@[simp] theorem isBys_20 : isByteSlice env.P 20 = false := by kernel_rfl
@[simp] theorem undS_20 : (env.P.underlying 20).isNone = false := by kernel_rfl
@[simp] theorem tsize_21 : tsize env.P 21 = (some 1) := by kernel_rfl
@[simp] theorem tagg_21 : tagg env.P 21 = (some false) := by kernel_rfl
@[simp] theorem telem_21 : telem env.P 21 = none := by kernel_rfl
@[simp] theorem tarr_21 : tarr env.P 21 = none := by kernel_rfl
@[simp] theorem isStr_21 : isStr env.P 21 = false := by kernel_rfl
@[simp] theorem tzero_21 : tzero env.P 21 = (some (.v (.int .i32 0))) := by kernel_rfl
@[simp] theorem tbytes_21 : tbytes env.P 21 = (some 4) := by kernel_rfl
@[simp] theorem apT_21 : apT env.P 21 = false := by kernel_rfl
@[simp] theorem leafT_21 : leafT env.P 21 = (some 1) := by kernel_rfl
@[simp] theorem fieldTys_21 : fieldTys env.P 21 = none := by kernel_rfl
@[simp] theorem isBool_21 : isBool env.P 21 = false := by kernel_rfl
@[simp] theorem plain_21 : plain env.P 20 21 = true := by kernel_rfl
@[simp] theorem isInt_21 : isInt env.P 21 = true := by kernel_rfl
@[simp] theorem intKind_21 : intKind env.P 21 = (some .i32) := by kernel_rfl
@[simp] theorem isBys_21 : isByteSlice env.P 21 = false := by kernel_rfl
@[simp] theorem undS_21 : (env.P.underlying 21).isNone = false := by kernel_rfl
@[simp] theorem tsize_22 : tsize env.P 22 = (some 1) := by kernel_rfl
@[simp] theorem tagg_22 : tagg env.P 22 = (some false) := by kernel_rfl
@[simp] theorem telem_22 : telem env.P 22 = (some 5) := by kernel_rfl
@[simp] theorem tarr_22 : tarr env.P 22 = none := by kernel_rfl
@[simp] theorem isStr_22 : isStr env.P 22 = false := by kernel_rfl
@[simp] theorem tzero_22 : tzero env.P 22 = (some (.v (.slice none 0 0))) := by kernel_rfl
@[simp] theorem tbytes_22 : tbytes env.P 22 = (some 24) := by kernel_rfl
@[simp] theorem apT_22 : apT env.P 22 = true := by kernel_rfl
@[simp] theorem leafT_22 : leafT env.P 22 = none := by kernel_rfl
@[simp] theorem fieldTys_22 : fieldTys env.P 22 = none := by kernel_rfl
@[simp] theorem isBool_22 : isBool env.P 22 = false := by kernel_rfl
@[simp] theorem plain_22 : plain env.P 20 22 = true := by kernel_rfl
@[simp] theorem elT_22 : elT env.P 22 1 1 = true := by kernel_rfl
@[simp] theorem isInt_22 : isInt env.P 22 = false := by kernel_rfl
@[simp] theorem intKind_22 : intKind env.P 22 = none := by kernel_rfl
@[simp] theorem isBys_22 : isByteSlice env.P 22 = true := by kernel_rfl
@[simp] theorem undS_22 : (env.P.underlying 22).isNone = false := by kernel_rfl
@[simp] theorem tsize_23 : tsize env.P 23 = (some 3) := by kernel_rfl
@[simp] theorem tagg_23 : tagg env.P 23 = (some true) := by kernel_rfl
@[simp] theorem telem_23 : telem env.P 23 = none := by kernel_rfl
@[simp] theorem tarr_23 : tarr env.P 23 = (some (3, 5)) := by kernel_rfl
@[simp] theorem isStr_23 : isStr env.P 23 = false := by kernel_rfl
@[simp] theorem tzero_23 : tzero env.P 23 = (some (.agg [(a8 0), (a8 0), (a8 0)])) := by kernel_rfl
@[simp] theorem tbytes_23 : tbytes env.P 23 = (some 3) := by kernel_rfl
@[simp] theorem apT_23 : apT env.P 23 = true := by kernel_rfl
@[simp] theorem leafT_23 : leafT env.P 23 = none := by kernel_rfl
@[simp] theorem eqTy_23 : eqTy env.P 23 = true := by kernel_rfl
@[simp] theorem fieldTys_23 : fieldTys env.P 23 = none := by kernel_rfl
@[simp] theorem isBool_23 : isBool env.P 23 = false := by kernel_rfl
@[simp] theorem plain_23 : plain env.P 20 23 = true := by kernel_rfl
@[simp] theorem isInt_23 : isInt env.P 23 = false := by kernel_rfl
@[simp] theorem intKind_23 : intKind env.P 23 = none := by kernel_rfl
@[simp] theorem isBys_23 : isByteSlice env.P 23 = false := by kernel_rfl
@[simp] theorem undS_23 : (env.P.underlying 23).isNone = false := by kernel_rfl
@[simp] theorem tsize_24 : tsize env.P 24 = (some 1) := by kernel_rfl
@[simp] theorem tagg_24 : tagg env.P 24 = (some false) := by kernel_rfl
@[simp] theorem telem_24 : telem env.P 24 = none := by kernel_rfl
@[simp] theorem tarr_24 : tarr env.P 24 = none := by kernel_rfl
@[simp] theorem isStr_24 : isStr env.P 24 = false := by kernel_rfl
@[simp] theorem tzero_24 : tzero env.P 24 = (some (.v .nilFunc)) := by kernel_rfl
@[simp] theorem tbytes_24 : tbytes env.P 24 = (some 8) := by kernel_rfl
@[simp] theorem apT_24 : apT env.P 24 = true := by kernel_rfl
@[simp] theorem leafT_24 : leafT env.P 24 = none := by kernel_rfl
@[simp] theorem fieldTys_24 : fieldTys env.P 24 = none := by kernel_rfl
@[simp] theorem isBool_24 : isBool env.P 24 = false := by kernel_rfl
@[simp] theorem plain_24 : plain env.P 20 24 = false := by kernel_rfl
@[simp] theorem isInt_24 : isInt env.P 24 = false := by kernel_rfl
@[simp] theorem intKind_24 : intKind env.P 24 = none := by kernel_rfl
@[simp] theorem isBys_24 : isByteSlice env.P 24 = false := by kernel_rfl
@[simp] theorem undS_24 : (env.P.underlying 24).isNone = false := by kernel_rfl
@[simp] theorem tsize_25 : tsize env.P 25 = (some 1) := by kernel_rfl
@[simp] theorem tagg_25 : tagg env.P 25 = (some false) := by kernel_rfl
@[simp] theorem telem_25 : telem env.P 25 = none := by kernel_rfl
@[simp] theorem tarr_25 : tarr env.P 25 = none := by kernel_rfl
@[simp] theorem isStr_25 : isStr env.P 25 = false := by kernel_rfl
@[simp] theorem tzero_25 : tzero env.P 25 = (some (a32 0)) := by kernel_rfl
@[simp] theorem tbytes_25 : tbytes env.P 25 = (some 4) := by kernel_rfl
@[simp] theorem apT_25 : apT env.P 25 = false := by kernel_rfl
@[simp] theorem leafT_25 : leafT env.P 25 = (some 1) := by kernel_rfl
@[simp] theorem fieldTys_25 : fieldTys env.P 25 = none := by kernel_rfl
@[simp] theorem isBool_25 : isBool env.P 25 = false := by kernel_rfl
@[simp] theorem plain_25 : plain env.P 20 25 = true := by kernel_rfl
@[simp] theorem isInt_25 : isInt env.P 25 = true := by kernel_rfl
@[simp] theorem intKind_25 : intKind env.P 25 = (some .u32) := by kernel_rfl
@[simp] theorem isBys_25 : isByteSlice env.P 25 = false := by kernel_rfl
@[simp] theorem undS_25 : (env.P.underlying 25).isNone = false := by kernel_rfl
@[simp] theorem tsize_26 : tsize env.P 26 = (some 1) := by kernel_rfl
@[simp] theorem tagg_26 : tagg env.P 26 = (some false) := by kernel_rfl
@[simp] theorem telem_26 : telem env.P 26 = none := by kernel_rfl
@[simp] theorem tarr_26 : tarr env.P 26 = none := by kernel_rfl
@[simp] theorem isStr_26 : isStr env.P 26 = false := by kernel_rfl
@[simp] theorem tzero_26 : tzero env.P 26 = (some (.v .nilFunc)) := by kernel_rfl
@[simp] theorem tbytes_26 : tbytes env.P 26 = (some 8) := by kernel_rfl
@[simp] theorem apT_26 : apT env.P 26 = true := by kernel_rfl
@[simp] theorem leafT_26 : leafT env.P 26 = none := by kernel_rfl
@[simp] theorem fieldTys_26 : fieldTys env.P 26 = none := by kernel_rfl
@[simp] theorem isBool_26 : isBool env.P 26 = false := by kernel_rfl
@[simp] theorem plain_26 : plain env.P 20 26 = false := by kernel_rfl
@[simp] theorem isInt_26 : isInt env.P 26 = false := by kernel_rfl
@[simp] theorem intKind_26 : intKind env.P 26 = none := by kernel_rfl
@[simp] theorem isBys_26 : isByteSlice env.P 26 = false := by kernel_rfl
@[simp] theorem undS_26 : (env.P.underlying 26).isNone = false := by kernel_rfl
@[simp] theorem tsize_27 : tsize env.P 27 = (some 1) := by kernel_rfl
@[simp] theorem tagg_27 : tagg env.P 27 = (some false) := by kernel_rfl
@[simp] theorem telem_27 : telem env.P 27 = none := by kernel_rfl
@[simp] theorem tarr_27 : tarr env.P 27 = none := by kernel_rfl
@[simp] theorem isStr_27 : isStr env.P 27 = false := by kernel_rfl
@[simp] theorem tzero_27 : tzero env.P 27 = (some (.v .nilFunc)) := by kernel_rfl
@[simp] theorem tbytes_27 : tbytes env.P 27 = (some 8) := by kernel_rfl
@[simp] theorem apT_27 : apT env.P 27 = true := by kernel_rfl
@[simp] theorem leafT_27 : leafT env.P 27 = none := by kernel_rfl
@[simp] theorem fieldTys_27 : fieldTys env.P 27 = none := by kernel_rfl
@[simp] theorem isBool_27 : isBool env.P 27 = false := by kernel_rfl
@[simp] theorem plain_27 : plain env.P 20 27 = false := by kernel_rfl
@[simp] theorem isInt_27 : isInt env.P 27 = false := by kernel_rfl
@[simp] theorem intKind_27 : intKind env.P 27 = none := by kernel_rfl
@[simp] theorem isBys_27 : isByteSlice env.P 27 = false := by kernel_rfl
@[simp] theorem undS_27 : (env.P.underlying 27).isNone = false := by kernel_rfl
@[simp] theorem tsize_28 : tsize env.P 28 = (some 1) := by kernel_rfl
@[simp] theorem tagg_28 : tagg env.P 28 = (some false) := by kernel_rfl
@[simp] theorem telem_28 : telem env.P 28 = none := by kernel_rfl
@[simp] theorem tarr_28 : tarr env.P 28 = none := by kernel_rfl
@[simp] theorem isStr_28 : isStr env.P 28 = false := by kernel_rfl
@[simp] theorem tzero_28 : tzero env.P 28 = (some (.v .nilFunc)) := by kernel_rfl
@[simp] theorem tbytes_28 : tbytes env.P 28 = (some 8) := by kernel_rfl
@[simp] theorem apT_28 : apT env.P 28 = true := by kernel_rfl
@[simp] theorem leafT_28 : leafT env.P 28 = none := by kernel_rfl
@[simp] theorem fieldTys_28 : fieldTys env.P 28 = none := by kernel_rfl
@[simp] theorem isBool_28 : isBool env.P 28 = false := by kernel_rfl
@[simp] theorem plain_28 : plain env.P 20 28 = false := by kernel_rfl
@[simp] theorem isInt_28 : isInt env.P 28 = false := by kernel_rfl
@[simp] theorem intKind_28 : intKind env.P 28 = none := by kernel_rfl
@[simp] theorem isBys_28 : isByteSlice env.P 28 = false := by kernel_rfl
@[simp] theorem undS_28 : (env.P.underlying 28).isNone = false := by kernel_rfl
@[simp] theorem tsize_29 : tsize env.P 29 = (some 1) := by kernel_rfl
@[simp] theorem tagg_29 : tagg env.P 29 = (some false) := by kernel_rfl
@[simp] theorem telem_29 : telem env.P 29 = none := by kernel_rfl
@[simp] theorem tarr_29 : tarr env.P 29 = none := by kernel_rfl
@[simp] theorem isStr_29 : isStr env.P 29 = false := by kernel_rfl
@[simp] theorem tzero_29 : tzero env.P 29 = (some (.v .nilFunc)) := by kernel_rfl
@[simp] theorem tbytes_29 : tbytes env.P 29 = (some 8) := by kernel_rfl
@[simp] theorem apT_29 : apT env.P 29 = true := by kernel_rfl
@[simp] theorem leafT_29 : leafT env.P 29 = none := by kernel_rfl
@[simp] theorem fieldTys_29 : fieldTys env.P 29 = none := by kernel_rfl
@[simp] theorem isBool_29 : isBool env.P 29 = false := by kernel_rfl
@[simp] theorem plain_29 : plain env.P 20 29 = false := by kernel_rfl
@[simp] theorem isInt_29 : isInt env.P 29 = false := by kernel_rfl
@[simp] theorem intKind_29 : intKind env.P 29 = none := by kernel_rfl
@[simp] theorem isBys_29 : isByteSlice env.P 29 = false := by kernel_rfl
@[simp] theorem undS_29 : (env.P.underlying 29).isNone = false := by kernel_rfl
@[simp] theorem tsize_30 : tsize env.P 30 = (some 1) := by kernel_rfl
@[simp] theorem tagg_30 : tagg env.P 30 = (some false) := by kernel_rfl
@[simp] theorem telem_30 : telem env.P 30 = none := by kernel_rfl
@[simp] theorem tarr_30 : tarr env.P 30 = none := by kernel_rfl
@[simp] theorem isStr_30 : isStr env.P 30 = false := by kernel_rfl
@[simp] theorem tzero_30 : tzero env.P 30 = (some (.v .nilFunc)) := by kernel_rfl
@[simp] theorem tbytes_30 : tbytes env.P 30 = (some 8) := by kernel_rfl
@[simp] theorem apT_30 : apT env.P 30 = true := by kernel_rfl
@[simp] theorem leafT_30 : leafT env.P 30 = none := by kernel_rfl
@[simp] theorem fieldTys_30 : fieldTys env.P 30 = none := by kernel_rfl
@[simp] theorem isBool_30 : isBool env.P 30 = false := by kernel_rfl
@[simp] theorem plain_30 : plain env.P 20 30 = false := by kernel_rfl
@[simp] theorem isInt_30 : isInt env.P 30 = false := by kernel_rfl
@[simp] theorem intKind_30 : intKind env.P 30 = none := by kernel_rfl
@[simp] theorem isBys_30 : isByteSlice env.P 30 = false := by kernel_rfl
@[simp] theorem undS_30 : (env.P.underlying 30).isNone = false := by kernel_rfl
@[simp] theorem tsize_31 : tsize env.P 31 = (some 1) := by kernel_rfl
@[simp] theorem tagg_31 : tagg env.P 31 = (some false) := by kernel_rfl
@[simp] theorem telem_31 : telem env.P 31 = none := by kernel_rfl
@[simp] theorem tarr_31 : tarr env.P 31 = none := by kernel_rfl
@[simp] theorem isStr_31 : isStr env.P 31 = false := by kernel_rfl
@[simp] theorem tzero_31 : tzero env.P 31 = (some (.v .nilFunc)) := by kernel_rfl
@[simp] theorem tbytes_31 : tbytes env.P 31 = (some 8) := by kernel_rfl
@[simp] theorem apT_31 : apT env.P 31 = true := by kernel_rfl
@[simp] theorem leafT_31 : leafT env.P 31 = none := by kernel_rfl
@[simp] theorem fieldTys_31 : fieldTys env.P 31 = none := by kernel_rfl
@[simp] theorem isBool_31 : isBool env.P 31 = false := by kernel_rfl
@[simp] theorem plain_31 : plain env.P 20 31 = false := by kernel_rfl
@[simp] theorem isInt_31 : isInt env.P 31 = false := by kernel_rfl
@[simp] theorem intKind_31 : intKind env.P 31 = none := by kernel_rfl
@[simp] theorem isBys_31 : isByteSlice env.P 31 = false := by kernel_rfl
@[simp] theorem undS_31 : (env.P.underlying 31).isNone = false := by kernel_rfl
@[simp] theorem tsize_32 : tsize env.P 32 = (some 1) := by kernel_rfl
@[simp] theorem tagg_32 : tagg env.P 32 = (some false) := by kernel_rfl
@[simp] theorem telem_32 : telem env.P 32 = none := by kernel_rfl
@[simp] theorem tarr_32 : tarr env.P 32 = none := by kernel_rfl
@[simp] theorem isStr_32 : isStr env.P 32 = false := by kernel_rfl
@[simp] theorem tzero_32 : tzero env.P 32 = (some (.v (.int .u64 0))) := by kernel_rfl
@[simp] theorem tbytes_32 : tbytes env.P 32 = (some 8) := by kernel_rfl
@[simp] theorem apT_32 : apT env.P 32 = false := by kernel_rfl
@[simp] theorem leafT_32 : leafT env.P 32 = (some 1) := by kernel_rfl
@[simp] theorem fieldTys_32 : fieldTys env.P 32 = none := by kernel_rfl
@[simp] theorem isBool_32 : isBool env.P 32 = false := by kernel_rfl
@[simp] theorem plain_32 : plain env.P 20 32 = true := by kernel_rfl
@[simp] theorem isInt_32 : isInt env.P 32 = true := by kernel_rfl
@[simp] theorem intKind_32 : intKind env.P 32 = (some .u64) := by kernel_rfl
@[simp] theorem isBys_32 : isByteSlice env.P 32 = false := by kernel_rfl
@[simp] theorem undS_32 : (env.P.underlying 32).isNone = false := by kernel_rfl
@[simp] theorem tsize_33 : tsize env.P 33 = (some 1) := by kernel_rfl
@[simp] theorem tagg_33 : tagg env.P 33 = (some false) := by kernel_rfl
@[simp] theorem telem_33 : telem env.P 33 = none := by kernel_rfl
@[simp] theorem tarr_33 : tarr env.P 33 = none := by kernel_rfl
@[simp] theorem isStr_33 : isStr env.P 33 = false := by kernel_rfl
@[simp] theorem tzero_33 : tzero env.P 33 = (some (.v .nilFunc)) := by kernel_rfl
@[simp] theorem tbytes_33 : tbytes env.P 33 = (some 8) := by kernel_rfl
@[simp] theorem apT_33 : apT env.P 33 = true := by kernel_rfl
@[simp] theorem leafT_33 : leafT env.P 33 = none := by kernel_rfl
@[simp] theorem fieldTys_33 : fieldTys env.P 33 = none := by kernel_rfl
@[simp] theorem isBool_33 : isBool env.P 33 = false := by kernel_rfl
@[simp] theorem plain_33 : plain env.P 20 33 = false := by kernel_rfl
@[simp] theorem isInt_33 : isInt env.P 33 = false := by kernel_rfl
@[simp] theorem intKind_33 : intKind env.P 33 = none := by kernel_rfl
@[simp] theorem isBys_33 : isByteSlice env.P 33 = false := by kernel_rfl
@[simp] theorem undS_33 : (env.P.underlying 33).isNone = false := by kernel_rfl
@[simp] theorem tsize_34 : tsize env.P 34 = (some 1) := by kernel_rfl
@[simp] theorem tagg_34 : tagg env.P 34 = (some false) := by kernel_rfl
@[simp] theorem telem_34 : telem env.P 34 = none := by kernel_rfl
@[simp] theorem tarr_34 : tarr env.P 34 = none := by kernel_rfl
@[simp] theorem isStr_34 : isStr env.P 34 = false := by kernel_rfl
@[simp] theorem tzero_34 : tzero env.P 34 = (some (.v .nilFunc)) := by kernel_rfl
@[simp] theorem tbytes_34 : tbytes env.P 34 = (some 8) := by kernel_rfl
@[simp] theorem apT_34 : apT env.P 34 = true := by kernel_rfl
@[simp] theorem leafT_34 : leafT env.P 34 = none := by kernel_rfl
@[simp] theorem fieldTys_34 : fieldTys env.P 34 = none := by kernel_rfl
@[simp] theorem isBool_34 : isBool env.P 34 = false := by kernel_rfl
@[simp] theorem plain_34 : plain env.P 20 34 = false := by kernel_rfl
@[simp] theorem isInt_34 : isInt env.P 34 = false := by kernel_rfl
@[simp] theorem intKind_34 : intKind env.P 34 = none := by kernel_rfl
@[simp] theorem isBys_34 : isByteSlice env.P 34 = false := by kernel_rfl
@[simp] theorem undS_34 : (env.P.underlying 34).isNone = false := by kernel_rfl
@[simp] theorem tsize_35 : tsize env.P 35 = (some 4) := by kernel_rfl
@[simp] theorem tagg_35 : tagg env.P 35 = (some true) := by kernel_rfl
@[simp] theorem telem_35 : telem env.P 35 = none := by kernel_rfl
@[simp] theorem tarr_35 : tarr env.P 35 = none := by kernel_rfl
@[simp] theorem isStr_35 : isStr env.P 35 = false := by kernel_rfl
@[simp] theorem tzero_35 : tzero env.P 35 = (some (.agg [(.v (.pointer none)), (.v (.pointer none)), (.v (.pointer none)), (.v (.string ⟨#[]⟩))])) := by kernel_rfl
@[simp] theorem tbytes_35 : tbytes env.P 35 = (some 40) := by kernel_rfl
@[simp] theorem apT_35 : apT env.P 35 = true := by kernel_rfl
@[simp] theorem leafT_35 : leafT env.P 35 = none := by kernel_rfl
@[simp] theorem fieldTys_35 : fieldTys env.P 35 = (some [17, 17, 17, 9]) := by kernel_rfl
@[simp] theorem isBool_35 : isBool env.P 35 = false := by kernel_rfl
@[simp] theorem plain_35 : plain env.P 20 35 = false := by kernel_rfl
@[simp] theorem isInt_35 : isInt env.P 35 = false := by kernel_rfl
@[simp] theorem intKind_35 : intKind env.P 35 = none := by kernel_rfl
@[simp] theorem isBys_35 : isByteSlice env.P 35 = false := by kernel_rfl
@[simp] theorem undS_35 : (env.P.underlying 35).isNone = false := by kernel_rfl
@[simp] theorem places_35 : placesOf env.P 35 = (some [(0, 1), (1, 1), (2, 1), (3, 1)]) := by kernel_rfl
@[simp] theorem tfield_0_35 : tfield env.P 35 0 = (some (0, 17)) := by kernel_rfl
@[simp] theorem fplace_0_35 : fieldPlaces env.P 35 0 = (some (0, 1)) := by kernel_rfl
@[simp] theorem tfield_1_35 : tfield env.P 35 1 = (some (1, 17)) := by kernel_rfl
@[simp] theorem fplace_1_35 : fieldPlaces env.P 35 1 = (some (1, 1)) := by kernel_rfl
@[simp] theorem tfield_2_35 : tfield env.P 35 2 = (some (2, 17)) := by kernel_rfl
@[simp] theorem fplace_2_35 : fieldPlaces env.P 35 2 = (some (2, 1)) := by kernel_rfl
@[simp] theorem tfield_3_35 : tfield env.P 35 3 = (some (3, 9)) := by kernel_rfl
@[simp] theorem fplace_3_35 : fieldPlaces env.P 35 3 = (some (3, 1)) := by kernel_rfl
@[simp] theorem tsize_36 : tsize env.P 36 = (some 4) := by kernel_rfl
@[simp] theorem tagg_36 : tagg env.P 36 = (some true) := by kernel_rfl
@[simp] theorem telem_36 : telem env.P 36 = none := by kernel_rfl
@[simp] theorem tarr_36 : tarr env.P 36 = none := by kernel_rfl
@[simp] theorem isStr_36 : isStr env.P 36 = false := by kernel_rfl
@[simp] theorem tzero_36 : tzero env.P 36 = (some (.agg [(.v (.pointer none)), (.v (.pointer none)), (.v (.pointer none)), (.v (.string ⟨#[]⟩))])) := by kernel_rfl
@[simp] theorem tbytes_36 : tbytes env.P 36 = (some 40) := by kernel_rfl
@[simp] theorem apT_36 : apT env.P 36 = true := by kernel_rfl
@[simp] theorem leafT_36 : leafT env.P 36 = none := by kernel_rfl
@[simp] theorem fieldTys_36 : fieldTys env.P 36 = (some [17, 17, 17, 9]) := by kernel_rfl
@[simp] theorem isBool_36 : isBool env.P 36 = false := by kernel_rfl
@[simp] theorem plain_36 : plain env.P 20 36 = false := by kernel_rfl
@[simp] theorem isInt_36 : isInt env.P 36 = false := by kernel_rfl
@[simp] theorem intKind_36 : intKind env.P 36 = none := by kernel_rfl
@[simp] theorem isBys_36 : isByteSlice env.P 36 = false := by kernel_rfl
@[simp] theorem undS_36 : (env.P.underlying 36).isNone = false := by kernel_rfl
@[simp] theorem places_36 : placesOf env.P 36 = (some [(0, 1), (1, 1), (2, 1), (3, 1)]) := by kernel_rfl
@[simp] theorem tfield_0_36 : tfield env.P 36 0 = (some (0, 17)) := by kernel_rfl
@[simp] theorem fplace_0_36 : fieldPlaces env.P 36 0 = (some (0, 1)) := by kernel_rfl
@[simp] theorem tfield_1_36 : tfield env.P 36 1 = (some (1, 17)) := by kernel_rfl
@[simp] theorem fplace_1_36 : fieldPlaces env.P 36 1 = (some (1, 1)) := by kernel_rfl
@[simp] theorem tfield_2_36 : tfield env.P 36 2 = (some (2, 17)) := by kernel_rfl
@[simp] theorem fplace_2_36 : fieldPlaces env.P 36 2 = (some (2, 1)) := by kernel_rfl
@[simp] theorem tfield_3_36 : tfield env.P 36 3 = (some (3, 9)) := by kernel_rfl
@[simp] theorem fplace_3_36 : fieldPlaces env.P 36 3 = (some (3, 1)) := by kernel_rfl
@[simp] theorem tsize_37 : tsize env.P 37 = (some 0) := by kernel_rfl
@[simp] theorem tagg_37 : tagg env.P 37 = (some true) := by kernel_rfl
@[simp] theorem telem_37 : telem env.P 37 = none := by kernel_rfl
@[simp] theorem tarr_37 : tarr env.P 37 = (some (0, 16)) := by kernel_rfl
@[simp] theorem isStr_37 : isStr env.P 37 = false := by kernel_rfl
@[simp] theorem tzero_37 : tzero env.P 37 = (some (.agg [])) := by kernel_rfl
@[simp] theorem tbytes_37 : tbytes env.P 37 = (some 0) := by kernel_rfl
@[simp] theorem apT_37 : apT env.P 37 = true := by kernel_rfl
@[simp] theorem leafT_37 : leafT env.P 37 = none := by kernel_rfl
@[simp] theorem fieldTys_37 : fieldTys env.P 37 = none := by kernel_rfl
@[simp] theorem isBool_37 : isBool env.P 37 = false := by kernel_rfl
@[simp] theorem plain_37 : plain env.P 20 37 = false := by kernel_rfl
@[simp] theorem isInt_37 : isInt env.P 37 = false := by kernel_rfl
@[simp] theorem intKind_37 : intKind env.P 37 = none := by kernel_rfl
@[simp] theorem isBys_37 : isByteSlice env.P 37 = false := by kernel_rfl
@[simp] theorem undS_37 : (env.P.underlying 37).isNone = false := by kernel_rfl
@[simp] theorem tsize_38 : tsize env.P 38 = (some 0) := by kernel_rfl
@[simp] theorem tagg_38 : tagg env.P 38 = (some true) := by kernel_rfl
@[simp] theorem telem_38 : telem env.P 38 = none := by kernel_rfl
@[simp] theorem tarr_38 : tarr env.P 38 = none := by kernel_rfl
@[simp] theorem isStr_38 : isStr env.P 38 = false := by kernel_rfl
@[simp] theorem tzero_38 : tzero env.P 38 = (some (.agg [])) := by kernel_rfl
@[simp] theorem tbytes_38 : tbytes env.P 38 = (some 0) := by kernel_rfl
@[simp] theorem apT_38 : apT env.P 38 = true := by kernel_rfl
@[simp] theorem leafT_38 : leafT env.P 38 = none := by kernel_rfl
@[simp] theorem fieldTys_38 : fieldTys env.P 38 = (some [37]) := by kernel_rfl
@[simp] theorem isBool_38 : isBool env.P 38 = false := by kernel_rfl
@[simp] theorem plain_38 : plain env.P 20 38 = false := by kernel_rfl
@[simp] theorem isInt_38 : isInt env.P 38 = false := by kernel_rfl
@[simp] theorem intKind_38 : intKind env.P 38 = none := by kernel_rfl
@[simp] theorem isBys_38 : isByteSlice env.P 38 = false := by kernel_rfl
@[simp] theorem undS_38 : (env.P.underlying 38).isNone = false := by kernel_rfl
@[simp] theorem places_38 : placesOf env.P 38 = (some [(0, 0)]) := by kernel_rfl
@[simp] theorem tfield_0_38 : tfield env.P 38 0 = (some (0, 37)) := by kernel_rfl
@[simp] theorem fplace_0_38 : fieldPlaces env.P 38 0 = (some (0, 0)) := by kernel_rfl
@[simp] theorem tsize_39 : tsize env.P 39 = (some 0) := by kernel_rfl
@[simp] theorem tagg_39 : tagg env.P 39 = (some true) := by kernel_rfl
@[simp] theorem telem_39 : telem env.P 39 = none := by kernel_rfl
@[simp] theorem tarr_39 : tarr env.P 39 = none := by kernel_rfl
@[simp] theorem isStr_39 : isStr env.P 39 = false := by kernel_rfl
@[simp] theorem tzero_39 : tzero env.P 39 = (some (.agg [])) := by kernel_rfl
@[simp] theorem tbytes_39 : tbytes env.P 39 = (some 0) := by kernel_rfl
@[simp] theorem apT_39 : apT env.P 39 = true := by kernel_rfl
@[simp] theorem leafT_39 : leafT env.P 39 = none := by kernel_rfl
@[simp] theorem fieldTys_39 : fieldTys env.P 39 = (some [37]) := by kernel_rfl
@[simp] theorem isBool_39 : isBool env.P 39 = false := by kernel_rfl
@[simp] theorem plain_39 : plain env.P 20 39 = false := by kernel_rfl
@[simp] theorem isInt_39 : isInt env.P 39 = false := by kernel_rfl
@[simp] theorem intKind_39 : intKind env.P 39 = none := by kernel_rfl
@[simp] theorem isBys_39 : isByteSlice env.P 39 = false := by kernel_rfl
@[simp] theorem undS_39 : (env.P.underlying 39).isNone = false := by kernel_rfl
@[simp] theorem places_39 : placesOf env.P 39 = (some [(0, 0)]) := by kernel_rfl
@[simp] theorem tfield_0_39 : tfield env.P 39 0 = (some (0, 37)) := by kernel_rfl
@[simp] theorem fplace_0_39 : fieldPlaces env.P 39 0 = (some (0, 0)) := by kernel_rfl
@[simp] theorem tsize_40 : tsize env.P 40 = (some 1) := by kernel_rfl
@[simp] theorem tagg_40 : tagg env.P 40 = (some false) := by kernel_rfl
@[simp] theorem telem_40 : telem env.P 40 = none := by kernel_rfl
@[simp] theorem tarr_40 : tarr env.P 40 = none := by kernel_rfl
@[simp] theorem isStr_40 : isStr env.P 40 = false := by kernel_rfl
@[simp] theorem tzero_40 : tzero env.P 40 = (some (.v .nilFunc)) := by kernel_rfl
@[simp] theorem tbytes_40 : tbytes env.P 40 = (some 8) := by kernel_rfl
@[simp] theorem apT_40 : apT env.P 40 = true := by kernel_rfl
@[simp] theorem leafT_40 : leafT env.P 40 = none := by kernel_rfl
@[simp] theorem fieldTys_40 : fieldTys env.P 40 = none := by kernel_rfl
@[simp] theorem isBool_40 : isBool env.P 40 = false := by kernel_rfl
@[simp] theorem plain_40 : plain env.P 20 40 = false := by kernel_rfl
@[simp] theorem isInt_40 : isInt env.P 40 = false := by kernel_rfl
@[simp] theorem intKind_40 : intKind env.P 40 = none := by kernel_rfl
@[simp] theorem isBys_40 : isByteSlice env.P 40 = false := by kernel_rfl
@[simp] theorem undS_40 : (env.P.underlying 40).isNone = false := by kernel_rfl
@[simp] theorem tsize_41 : tsize env.P 41 = (some 1) := by kernel_rfl
@[simp] theorem tagg_41 : tagg env.P 41 = (some false) := by kernel_rfl
@[simp] theorem telem_41 : telem env.P 41 = none := by kernel_rfl
@[simp] theorem tarr_41 : tarr env.P 41 = none := by kernel_rfl
@[simp] theorem isStr_41 : isStr env.P 41 = false := by kernel_rfl
@[simp] theorem tzero_41 : tzero env.P 41 = (some (a8 0)) := by kernel_rfl
@[simp] theorem tbytes_41 : tbytes env.P 41 = (some 1) := by kernel_rfl
@[simp] theorem apT_41 : apT env.P 41 = false := by kernel_rfl
@[simp] theorem leafT_41 : leafT env.P 41 = (some 1) := by kernel_rfl
@[simp] theorem fieldTys_41 : fieldTys env.P 41 = none := by kernel_rfl
@[simp] theorem isBool_41 : isBool env.P 41 = false := by kernel_rfl
@[simp] theorem plain_41 : plain env.P 20 41 = true := by kernel_rfl
@[simp] theorem isInt_41 : isInt env.P 41 = true := by kernel_rfl
@[simp] theorem intKind_41 : intKind env.P 41 = (some .u8) := by kernel_rfl
@[simp] theorem isBys_41 : isByteSlice env.P 41 = false := by kernel_rfl
@[simp] theorem undS_41 : (env.P.underlying 41).isNone = false := by kernel_rfl
@[simp] theorem tsize_42 : tsize env.P 42 = (some 1) := by kernel_rfl
@[simp] theorem tagg_42 : tagg env.P 42 = (some false) := by kernel_rfl
@[simp] theorem telem_42 : telem env.P 42 = none := by kernel_rfl
@[simp] theorem tarr_42 : tarr env.P 42 = none := by kernel_rfl
@[simp] theorem isStr_42 : isStr env.P 42 = false := by kernel_rfl
@[simp] theorem tzero_42 : tzero env.P 42 = (some (a8 0)) := by kernel_rfl
@[simp] theorem tbytes_42 : tbytes env.P 42 = (some 1) := by kernel_rfl
@[simp] theorem apT_42 : apT env.P 42 = false := by kernel_rfl
@[simp] theorem leafT_42 : leafT env.P 42 = (some 1) := by kernel_rfl
@[simp] theorem fieldTys_42 : fieldTys env.P 42 = none := by kernel_rfl
@[simp] theorem isBool_42 : isBool env.P 42 = false := by kernel_rfl
@[simp] theorem plain_42 : plain env.P 20 42 = true := by kernel_rfl
@[simp] theorem isInt_42 : isInt env.P 42 = true := by kernel_rfl
@[simp] theorem intKind_42 : intKind env.P 42 = (some .u8) := by kernel_rfl
@[simp] theorem isBys_42 : isByteSlice env.P 42 = false := by kernel_rfl
@[simp] theorem undS_42 : (env.P.underlying 42).isNone = false := by kernel_rfl
@[simp] theorem tsize_43 : tsize env.P 43 = (some 1) := by kernel_rfl
@[simp] theorem tagg_43 : tagg env.P 43 = (some false) := by kernel_rfl
@[simp] theorem telem_43 : telem env.P 43 = none := by kernel_rfl
@[simp] theorem tarr_43 : tarr env.P 43 = none := by kernel_rfl
@[simp] theorem isStr_43 : isStr env.P 43 = false := by kernel_rfl
@[simp] theorem tzero_43 : tzero env.P 43 = (some (.v .nilFunc)) := by kernel_rfl
@[simp] theorem tbytes_43 : tbytes env.P 43 = (some 8) := by kernel_rfl
@[simp] theorem apT_43 : apT env.P 43 = true := by kernel_rfl
@[simp] theorem leafT_43 : leafT env.P 43 = none := by kernel_rfl
@[simp] theorem fieldTys_43 : fieldTys env.P 43 = none := by kernel_rfl
@[simp] theorem isBool_43 : isBool env.P 43 = false := by kernel_rfl
@[simp] theorem plain_43 : plain env.P 20 43 = false := by kernel_rfl
@[simp] theorem isInt_43 : isInt env.P 43 = false := by kernel_rfl
@[simp] theorem intKind_43 : intKind env.P 43 = none := by kernel_rfl
@[simp] theorem isBys_43 : isByteSlice env.P 43 = false := by kernel_rfl
@[simp] theorem undS_43 : (env.P.underlying 43).isNone = false := by kernel_rfl
@[simp] theorem tsize_44 : tsize env.P 44 = (some 1) := by kernel_rfl
@[simp] theorem tagg_44 : tagg env.P 44 = (some false) := by kernel_rfl
@[simp] theorem telem_44 : telem env.P 44 = none := by kernel_rfl
@[simp] theorem tarr_44 : tarr env.P 44 = none := by kernel_rfl
@[simp] theorem isStr_44 : isStr env.P 44 = false := by kernel_rfl
@[simp] theorem tzero_44 : tzero env.P 44 = (some (.v (.pointer none))) := by kernel_rfl
@[simp] theorem tbytes_44 : tbytes env.P 44 = (some 8) := by kernel_rfl
@[simp] theorem apT_44 : apT env.P 44 = true := by kernel_rfl
@[simp] theorem leafT_44 : leafT env.P 44 = none := by kernel_rfl
@[simp] theorem fieldTys_44 : fieldTys env.P 44 = none := by kernel_rfl
@[simp] theorem isBool_44 : isBool env.P 44 = false := by kernel_rfl
@[simp] theorem plain_44 : plain env.P 20 44 = false := by kernel_rfl
@[simp] theorem isInt_44 : isInt env.P 44 = false := by kernel_rfl
@[simp] theorem intKind_44 : intKind env.P 44 = none := by kernel_rfl
@[simp] theorem isBys_44 : isByteSlice env.P 44 = false := by kernel_rfl
@[simp] theorem undS_44 : (env.P.underlying 44).isNone = false := by kernel_rfl
@[simp] theorem tsize_45 : tsize env.P 45 = (some 1) := by kernel_rfl
@[simp] theorem tagg_45 : tagg env.P 45 = (some false) := by kernel_rfl
@[simp] theorem telem_45 : telem env.P 45 = none := by kernel_rfl
@[simp] theorem tarr_45 : tarr env.P 45 = none := by kernel_rfl
@[simp] theorem isStr_45 : isStr env.P 45 = false := by kernel_rfl
@[simp] theorem tzero_45 : tzero env.P 45 = (some (.v (.int .i32 0))) := by kernel_rfl
@[simp] theorem tbytes_45 : tbytes env.P 45 = (some 4) := by kernel_rfl
@[simp] theorem apT_45 : apT env.P 45 = false := by kernel_rfl
@[simp] theorem leafT_45 : leafT env.P 45 = (some 1) := by kernel_rfl
@[simp] theorem fieldTys_45 : fieldTys env.P 45 = none := by kernel_rfl
@[simp] theorem isBool_45 : isBool env.P 45 = false := by kernel_rfl
@[simp] theorem plain_45 : plain env.P 20 45 = true := by kernel_rfl
@[simp] theorem isInt_45 : isInt env.P 45 = true := by kernel_rfl
@[simp] theorem intKind_45 : intKind env.P 45 = (some .i32) := by kernel_rfl
@[simp] theorem isBys_45 : isByteSlice env.P 45 = false := by kernel_rfl
@[simp] theorem undS_45 : (env.P.underlying 45).isNone = false := by kernel_rfl
@[simp] theorem tsize_46 : tsize env.P 46 = (some 1) := by kernel_rfl
@[simp] theorem tagg_46 : tagg env.P 46 = (some false) := by kernel_rfl
@[simp] theorem telem_46 : telem env.P 46 = none := by kernel_rfl
@[simp] theorem tarr_46 : tarr env.P 46 = none := by kernel_rfl
@[simp] theorem isStr_46 : isStr env.P 46 = false := by kernel_rfl
@[simp] theorem tzero_46 : tzero env.P 46 = (some (.v (.int .i32 0))) := by kernel_rfl
@[simp] theorem tbytes_46 : tbytes env.P 46 = (some 4) := by kernel_rfl
@[simp] theorem apT_46 : apT env.P 46 = false := by kernel_rfl
@[simp] theorem leafT_46 : leafT env.P 46 = (some 1) := by kernel_rfl
@[simp] theorem fieldTys_46 : fieldTys env.P 46 = none := by kernel_rfl
@[simp] theorem isBool_46 : isBool env.P 46 = false := by kernel_rfl
@[simp] theorem plain_46 : plain env.P 20 46 = true := by kernel_rfl
@[simp] theorem isInt_46 : isInt env.P 46 = true := by kernel_rfl
@[simp] theorem intKind_46 : intKind env.P 46 = (some .i32) := by kernel_rfl
@[simp] theorem isBys_46 : isByteSlice env.P 46 = false := by kernel_rfl
@[simp] theorem undS_46 : (env.P.underlying 46).isNone = false := by kernel_rfl
@[simp] theorem tsize_47 : tsize env.P 47 = (some 11) := by kernel_rfl
@[simp] theorem tagg_47 : tagg env.P 47 = (some true) := by kernel_rfl
@[simp] theorem telem_47 : telem env.P 47 = none := by kernel_rfl
@[simp] theorem tarr_47 : tarr env.P 47 = none := by kernel_rfl
@[simp] theorem isStr_47 : isStr env.P 47 = false := by kernel_rfl
@[simp] theorem tzero_47 : tzero env.P 47 = (some (.agg [(.v (.int .u64 0)), (.v (.int .u64 0)), (a32 0), (a8 0), (a8 0), (a8 0), (a8 0), (.v .nilFunc), (.v (.pointer none)), (.v (.int .i32 0)), (.v (.int .i32 0))])) := by kernel_rfl
@[simp] theorem tbytes_47 : tbytes env.P 47 = (some 48) := by kernel_rfl
@[simp] theorem apT_47 : apT env.P 47 = true := by kernel_rfl
@[simp] theorem leafT_47 : leafT env.P 47 = none := by kernel_rfl
@[simp] theorem fieldTys_47 : fieldTys env.P 47 = (some [12, 12, 25, 41, 5, 5, 42, 43, 44, 45, 46]) := by kernel_rfl
@[simp] theorem isBool_47 : isBool env.P 47 = false := by kernel_rfl
@[simp] theorem plain_47 : plain env.P 20 47 = false := by kernel_rfl
@[simp] theorem isInt_47 : isInt env.P 47 = false := by kernel_rfl
@[simp] theorem intKind_47 : intKind env.P 47 = none := by kernel_rfl
@[simp] theorem isBys_47 : isByteSlice env.P 47 = false := by kernel_rfl
@[simp] theorem undS_47 : (env.P.underlying 47).isNone = false := by kernel_rfl
@[simp] theorem places_47 : placesOf env.P 47 = (some [(0, 1), (1, 1), (2, 1), (3, 1), (4, 1), (5, 1), (6, 1), (7, 1), (8, 1), (9, 1), (10, 1)]) := by kernel_rfl
@[simp] theorem tfield_0_47 : tfield env.P 47 0 = (some (0, 12)) := by kernel_rfl
@[simp] theorem fplace_0_47 : fieldPlaces env.P 47 0 = (some (0, 1)) := by kernel_rfl
@[simp] theorem tfield_1_47 : tfield env.P 47 1 = (some (1, 12)) := by kernel_rfl
@[simp] theorem fplace_1_47 : fieldPlaces env.P 47 1 = (some (1, 1)) := by kernel_rfl
@[simp] theorem tfield_2_47 : tfield env.P 47 2 = (some (2, 25)) := by kernel_rfl
@[simp] theorem fplace_2_47 : fieldPlaces env.P 47 2 = (some (2, 1)) := by kernel_rfl
@[simp] theorem tfield_3_47 : tfield env.P 47 3 = (some (3, 41)) := by kernel_rfl
@[simp] theorem fplace_3_47 : fieldPlaces env.P 47 3 = (some (3, 1)) := by kernel_rfl
@[simp] theorem tfield_4_47 : tfield env.P 47 4 = (some (4, 5)) := by kernel_rfl
@[simp] theorem fplace_4_47 : fieldPlaces env.P 47 4 = (some (4, 1)) := by kernel_rfl
@[simp] theorem tfield_5_47 : tfield env.P 47 5 = (some (5, 5)) := by kernel_rfl
@[simp] theorem fplace_5_47 : fieldPlaces env.P 47 5 = (some (5, 1)) := by kernel_rfl
@[simp] theorem tfield_6_47 : tfield env.P 47 6 = (some (6, 42)) := by kernel_rfl
@[simp] theorem fplace_6_47 : fieldPlaces env.P 47 6 = (some (6, 1)) := by kernel_rfl
@[simp] theorem tfield_7_47 : tfield env.P 47 7 = (some (7, 43)) := by kernel_rfl
@[simp] theorem fplace_7_47 : fieldPlaces env.P 47 7 = (some (7, 1)) := by kernel_rfl
@[simp] theorem tfield_8_47 : tfield env.P 47 8 = (some (8, 44)) := by kernel_rfl
@[simp] theorem fplace_8_47 : fieldPlaces env.P 47 8 = (some (8, 1)) := by kernel_rfl
@[simp] theorem tfield_9_47 : tfield env.P 47 9 = (some (9, 45)) := by kernel_rfl
@[simp] theorem fplace_9_47 : fieldPlaces env.P 47 9 = (some (9, 1)) := by kernel_rfl
@[simp] theorem tfield_10_47 : tfield env.P 47 10 = (some (10, 46)) := by kernel_rfl
@[simp] theorem fplace_10_47 : fieldPlaces env.P 47 10 = (some (10, 1)) := by kernel_rfl
@[simp] theorem tsize_48 : tsize env.P 48 = (some 11) := by kernel_rfl
@[simp] theorem tagg_48 : tagg env.P 48 = (some true) := by kernel_rfl
@[simp] theorem telem_48 : telem env.P 48 = none := by kernel_rfl
@[simp] theorem tarr_48 : tarr env.P 48 = none := by kernel_rfl
@[simp] theorem isStr_48 : isStr env.P 48 = false := by kernel_rfl
@[simp] theorem tzero_48 : tzero env.P 48 = (some (.agg [(.v (.int .u64 0)), (.v (.int .u64 0)), (a32 0), (a8 0), (a8 0), (a8 0), (a8 0), (.v .nilFunc), (.v (.pointer none)), (.v (.int .i32 0)), (.v (.int .i32 0))])) := by kernel_rfl
@[simp] theorem tbytes_48 : tbytes env.P 48 = (some 48) := by kernel_rfl
@[simp] theorem apT_48 : apT env.P 48 = true := by kernel_rfl
@[simp] theorem leafT_48 : leafT env.P 48 = none := by kernel_rfl
@[simp] theorem fieldTys_48 : fieldTys env.P 48 = (some [12, 12, 25, 41, 5, 5, 42, 43, 44, 45, 46]) := by kernel_rfl
@[simp] theorem isBool_48 : isBool env.P 48 = false := by kernel_rfl
@[simp] theorem plain_48 : plain env.P 20 48 = false := by kernel_rfl
@[simp] theorem isInt_48 : isInt env.P 48 = false := by kernel_rfl
@[simp] theorem intKind_48 : intKind env.P 48 = none := by kernel_rfl
@[simp] theorem isBys_48 : isByteSlice env.P 48 = false := by kernel_rfl
@[simp] theorem undS_48 : (env.P.underlying 48).isNone = false := by kernel_rfl
@[simp] theorem places_48 : placesOf env.P 48 = (some [(0, 1), (1, 1), (2, 1), (3, 1), (4, 1), (5, 1), (6, 1), (7, 1), (8, 1), (9, 1), (10, 1)]) := by kernel_rfl
@[simp] theorem tfield_0_48 : tfield env.P 48 0 = (some (0, 12)) := by kernel_rfl
@[simp] theorem fplace_0_48 : fieldPlaces env.P 48 0 = (some (0, 1)) := by kernel_rfl
@[simp] theorem tfield_1_48 : tfield env.P 48 1 = (some (1, 12)) := by kernel_rfl
@[simp] theorem fplace_1_48 : fieldPlaces env.P 48 1 = (some (1, 1)) := by kernel_rfl
@[simp] theorem tfield_2_48 : tfield env.P 48 2 = (some (2, 25)) := by kernel_rfl
@[simp] theorem fplace_2_48 : fieldPlaces env.P 48 2 = (some (2, 1)) := by kernel_rfl
@[simp] theorem tfield_3_48 : tfield env.P 48 3 = (some (3, 41)) := by kernel_rfl
@[simp] theorem fplace_3_48 : fieldPlaces env.P 48 3 = (some (3, 1)) := by kernel_rfl
@[simp] theorem tfield_4_48 : tfield env.P 48 4 = (some (4, 5)) := by kernel_rfl
@[simp] theorem fplace_4_48 : fieldPlaces env.P 48 4 = (some (4, 1)) := by kernel_rfl
@[simp] theorem tfield_5_48 : tfield env.P 48 5 = (some (5, 5)) := by kernel_rfl
@[simp] theorem fplace_5_48 : fieldPlaces env.P 48 5 = (some (5, 1)) := by kernel_rfl
@[simp] theorem tfield_6_48 : tfield env.P 48 6 = (some (6, 42)) := by kernel_rfl
@[simp] theorem fplace_6_48 : fieldPlaces env.P 48 6 = (some (6, 1)) := by kernel_rfl
@[simp] theorem tfield_7_48 : tfield env.P 48 7 = (some (7, 43)) := by kernel_rfl
@[simp] theorem fplace_7_48 : fieldPlaces env.P 48 7 = (some (7, 1)) := by kernel_rfl
@[simp] theorem tfield_8_48 : tfield env.P 48 8 = (some (8, 44)) := by kernel_rfl
@[simp] theorem fplace_8_48 : fieldPlaces env.P 48 8 = (some (8, 1)) := by kernel_rfl
@[simp] theorem tfield_9_48 : tfield env.P 48 9 = (some (9, 45)) := by kernel_rfl
@[simp] theorem fplace_9_48 : fieldPlaces env.P 48 9 = (some (9, 1)) := by kernel_rfl
@[simp] theorem tfield_10_48 : tfield env.P 48 10 = (some (10, 46)) := by kernel_rfl
@[simp] theorem fplace_10_48 : fieldPlaces env.P 48 10 = (some (10, 1)) := by kernel_rfl
@[simp] theorem tsize_49 : tsize env.P 49 = (some 1) := by kernel_rfl
@[simp] theorem tagg_49 : tagg env.P 49 = (some false) := by kernel_rfl
@[simp] theorem telem_49 : telem env.P 49 = none := by kernel_rfl
@[simp] theorem tarr_49 : tarr env.P 49 = none := by kernel_rfl
@[simp] theorem isStr_49 : isStr env.P 49 = false := by kernel_rfl
@[simp] theorem tzero_49 : tzero env.P 49 = (some (.v (.pointer none))) := by kernel_rfl
@[simp] theorem tbytes_49 : tbytes env.P 49 = (some 8) := by kernel_rfl
@[simp] theorem apT_49 : apT env.P 49 = true := by kernel_rfl
@[simp] theorem leafT_49 : leafT env.P 49 = none := by kernel_rfl
@[simp] theorem fieldTys_49 : fieldTys env.P 49 = none := by kernel_rfl
@[simp] theorem isBool_49 : isBool env.P 49 = false := by kernel_rfl
@[simp] theorem plain_49 : plain env.P 20 49 = false := by kernel_rfl
@[simp] theorem isInt_49 : isInt env.P 49 = false := by kernel_rfl
@[simp] theorem intKind_49 : intKind env.P 49 = none := by kernel_rfl
@[simp] theorem isBys_49 : isByteSlice env.P 49 = false := by kernel_rfl
@[simp] theorem undS_49 : (env.P.underlying 49).isNone = false := by kernel_rfl
end Go.Proofs.Ytfkpmldmmdkgoaa
