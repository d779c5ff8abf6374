/-
  The facts on the program's types, computed. No statement of a seat is proved here.
-/
import Derived.Test.YtjampffmlnplcaaRows
import Derived.Test.YtjampffmlnplcaaAbsRules
set_option linter.unusedVariables false
set_option maxRecDepth 1000000
namespace Go.Proofs.Ytjampffmlnplcaa
open Go.Ab

def fns : List FuncId := [3, 4, 6, 7, 9, 10, 15, 16, 17, 18, 19, 20, 21, 22, 23, 24, 25, 26, 27, 28, 29, 30, 31, 32, 33, 34, 35, 36, 37, 38, 39, 40, 41, 42, 43, 44, 45, 46, 47, 48, 49, 50, 51, 52, 53, 72, 73, 74, 75, 76, 77, 78, 79, 80, 81, 82, 83, 84, 85, 86, 87, 88, 89, 90, 91, 92, 93, 94, 95, 96, 97, 98, 112, 113, 114, 115, 116, 117, 118, 119, 120, 121, 122, 123, 124, 125, 126, 127, 128, 129, 130, 131, 132, 139, 140, 141, 142, 143, 144, 145, 146, 147, 148, 149, 150, 151, 152, 153]
def keep : List FuncId := [16, 17, 23, 31, 72, 75, 81]
def thr : List FuncId := [33, 150]
noncomputable def env : Env := envOf Try.prog fns keep thr (strictOf []) (tabApart [(15, 6, 6, [(5, 4)]), (28, 6, 6, [(5, 4)]), (22, 6, 6, [(5, 4)]), (25, 13, 6, [(7, 4), (30, 4)]), (13, 7, 7, [(5, 4)]), (25, 7, 7, [(5, 4)]), (40, 12, 7, [(5, 4), (42, 4), (43, 4), (45, 4), (42, 5), (43, 5), (45, 5)]), (24, 15, 7, [(30, 4), (31, 4), (33, 4), (30, 5), (31, 5), (33, 5)])])
theorem fnsFit : fnsOk env fns = true := by kernel_rfl
@[simp] theorem no_thr {f : FuncId} (h : thr.contains f = false) : (env.mode f == 2) = false := by
  show ((if keep.contains f then 1 else if thr.contains f then 2 else 0) == 2) = false
  rw [h]
  split <;> rfl
theorem mode0 {f : FuncId} (h : keep.contains f = false) : (env.mode f == 1) = false := by
  show ((if keep.contains f then 1 else if thr.contains f then 2 else 0) == 1) = false
  rw [h]
  cases thr.contains f <;> rfl
@[simp] theorem handed0 {f : FuncId} (h : keep.contains f = false) (x : AV) (H : Heap) (y : AV) : handed env f x H y ↔ view H.get depth x = some y := handed_of (mode0 h) x H y
theorem mode1 {f : FuncId} (h : keep.contains f = true) : (env.mode f == 1) = true := by
  show ((if keep.contains f then 1 else if thr.contains f then 2 else 0) == 1) = true
  rw [h]; rfl
@[simp] theorem handed1 {f : FuncId} (h : keep.contains f = true) (x : AV) (H : Heap) (y : AV) : handed env f x H y ↔ (viewRefs H.get depth x).Nodup ∧ exportA H.get depth x = some y := handed_keep (mode1 h) x H y
@[simp] theorem tsize_0 : tsize env.P 0 = (some 1) := by kernel_rfl
@[simp] theorem tagg_0 : tagg env.P 0 = (some false) := by kernel_rfl
@[simp] theorem telem_0 : telem env.P 0 = none := by kernel_rfl
@[simp] theorem tarr_0 : tarr env.P 0 = none := by kernel_rfl
@[simp] theorem isStr_0 : isStr env.P 0 = false := by kernel_rfl
@[simp] theorem tzero_0 : tzero env.P 0 = (some (.v (.tuple #[]))) := by kernel_rfl
@[simp] theorem tbytes_0 : tbytes env.P 0 = (some 0) := by kernel_rfl
@[simp] theorem apT_0 : apT env.P 0 = true := by kernel_rfl
@[simp] theorem leafT_0 : leafT env.P 0 = none := by kernel_rfl
@[simp] theorem fieldTys_0 : fieldTys env.P 0 = none := by kernel_rfl
@[simp] theorem isBool_0 : isBool env.P 0 = false := by kernel_rfl
@[simp] theorem plain_0 : plain env.P 20 0 = false := by kernel_rfl
@[simp] theorem isInt_0 : isInt env.P 0 = false := by kernel_rfl
@[simp] theorem intKind_0 : intKind env.P 0 = none := by kernel_rfl
@[simp] theorem isBys_0 : isByteSlice env.P 0 = false := by kernel_rfl
@[simp] theorem undS_0 : (env.P.underlying 0).isNone = false := by kernel_rfl
@[simp] theorem tsize_3 : tsize env.P 3 = (some 1) := by kernel_rfl
@[simp] theorem tagg_3 : tagg env.P 3 = (some false) := by kernel_rfl
@[simp] theorem telem_3 : telem env.P 3 = none := by kernel_rfl
@[simp] theorem tarr_3 : tarr env.P 3 = none := by kernel_rfl
@[simp] theorem isStr_3 : isStr env.P 3 = false := by kernel_rfl
@[simp] theorem tzero_3 : tzero env.P 3 = (some (.v (.int .i64 0))) := by kernel_rfl
@[simp] theorem tbytes_3 : tbytes env.P 3 = (some 8) := by kernel_rfl
@[simp] theorem apT_3 : apT env.P 3 = false := by kernel_rfl
@[simp] theorem leafT_3 : leafT env.P 3 = (some 1) := by kernel_rfl
@[simp] theorem fieldTys_3 : fieldTys env.P 3 = none := by kernel_rfl
@[simp] theorem isBool_3 : isBool env.P 3 = false := by kernel_rfl
@[simp] theorem plain_3 : plain env.P 20 3 = true := by kernel_rfl
@[simp] theorem isInt_3 : isInt env.P 3 = true := by kernel_rfl
@[simp] theorem intKind_3 : intKind env.P 3 = (some .i64) := by kernel_rfl
@[simp] theorem isBys_3 : isByteSlice env.P 3 = false := by kernel_rfl
@[simp] theorem undS_3 : (env.P.underlying 3).isNone = false := by kernel_rfl
@[simp] theorem tsize_4 : tsize env.P 4 = (some 1) := by kernel_rfl
@[simp] theorem tagg_4 : tagg env.P 4 = (some false) := by kernel_rfl
@[simp] theorem telem_4 : telem env.P 4 = none := by kernel_rfl
@[simp] theorem tarr_4 : tarr env.P 4 = none := by kernel_rfl
@[simp] theorem isStr_4 : isStr env.P 4 = false := by kernel_rfl
@[simp] theorem tzero_4 : tzero env.P 4 = (some (.v (.bool false))) := by kernel_rfl
@[simp] theorem tbytes_4 : tbytes env.P 4 = (some 1) := by kernel_rfl
@[simp] theorem apT_4 : apT env.P 4 = true := by kernel_rfl
@[simp] theorem leafT_4 : leafT env.P 4 = (some 0) := by kernel_rfl
@[simp] theorem fieldTys_4 : fieldTys env.P 4 = none := by kernel_rfl
@[simp] theorem isBool_4 : isBool env.P 4 = true := by kernel_rfl
@[simp] theorem plain_4 : plain env.P 20 4 = true := by kernel_rfl
@[simp] theorem isInt_4 : isInt env.P 4 = false := by kernel_rfl
@[simp] theorem intKind_4 : intKind env.P 4 = none := by kernel_rfl
@[simp] theorem isBys_4 : isByteSlice env.P 4 = false := by kernel_rfl
@[simp] theorem undS_4 : (env.P.underlying 4).isNone = false := by kernel_rfl
@[simp] theorem tsize_5 : tsize env.P 5 = (some 1) := by kernel_rfl
@[simp] theorem tagg_5 : tagg env.P 5 = (some false) := by kernel_rfl
@[simp] theorem telem_5 : telem env.P 5 = none := by kernel_rfl
@[simp] theorem tarr_5 : tarr env.P 5 = none := by kernel_rfl
@[simp] theorem isStr_5 : isStr env.P 5 = false := by kernel_rfl
@[simp] theorem tzero_5 : tzero env.P 5 = (some (a8 0)) := by kernel_rfl
@[simp] theorem tbytes_5 : tbytes env.P 5 = (some 1) := by kernel_rfl
@[simp] theorem apT_5 : apT env.P 5 = false := by kernel_rfl
@[simp] theorem leafT_5 : leafT env.P 5 = (some 1) := by kernel_rfl
@[simp] theorem fieldTys_5 : fieldTys env.P 5 = none := by kernel_rfl
@[simp] theorem isBool_5 : isBool env.P 5 = false := by kernel_rfl
@[simp] theorem plain_5 : plain env.P 20 5 = true := by kernel_rfl
@[simp] theorem isInt_5 : isInt env.P 5 = true := by kernel_rfl
@[simp] theorem intKind_5 : intKind env.P 5 = (some .u8) := by kernel_rfl
@[simp] theorem isBys_5 : isByteSlice env.P 5 = false := by kernel_rfl
@[simp] theorem undS_5 : (env.P.underlying 5).isNone = false := by kernel_rfl
@[simp] theorem tsize_21 : tsize env.P 21 = (some 1) := by kernel_rfl
@[simp] theorem tagg_21 : tagg env.P 21 = (some false) := by kernel_rfl
@[simp] theorem telem_21 : telem env.P 21 = none := by kernel_rfl
@[simp] theorem tarr_21 : tarr env.P 21 = none := by kernel_rfl
@[simp] theorem isStr_21 : isStr env.P 21 = false := by kernel_rfl
@[simp] theorem tzero_21 : tzero env.P 21 = (some (.v (.int .i32 0))) := by kernel_rfl
@[simp] theorem tbytes_21 : tbytes env.P 21 = (some 4) := by kernel_rfl
@[simp] theorem apT_21 : apT env.P 21 = false := by kernel_rfl
@[simp] theorem leafT_21 : leafT env.P 21 = (some 1) := by kernel_rfl
@[simp] theorem fieldTys_21 : fieldTys env.P 21 = none := by kernel_rfl
@[simp] theorem isBool_21 : isBool env.P 21 = false := by kernel_rfl
@[simp] theorem plain_21 : plain env.P 20 21 = true := by kernel_rfl
@[simp] theorem isInt_21 : isInt env.P 21 = true := by kernel_rfl
@[simp] theorem intKind_21 : intKind env.P 21 = (some .i32) := by kernel_rfl
@[simp] theorem isBys_21 : isByteSlice env.P 21 = false := by kernel_rfl
@[simp] theorem undS_21 : (env.P.underlying 21).isNone = false := by kernel_rfl
@[simp] theorem tsize_22 : tsize env.P 22 = (some 1) := by kernel_rfl
@[simp] theorem tagg_22 : tagg env.P 22 = (some false) := by kernel_rfl
@[simp] theorem telem_22 : telem env.P 22 = none := by kernel_rfl
@[simp] theorem tarr_22 : tarr env.P 22 = none := by kernel_rfl
@[simp] theorem isStr_22 : isStr env.P 22 = false := by kernel_rfl
@[simp] theorem tzero_22 : tzero env.P 22 = (some (a32 0)) := by kernel_rfl
@[simp] theorem tbytes_22 : tbytes env.P 22 = (some 4) := by kernel_rfl
@[simp] theorem apT_22 : apT env.P 22 = false := by kernel_rfl
@[simp] theorem leafT_22 : leafT env.P 22 = (some 1) := by kernel_rfl
@[simp] theorem fieldTys_22 : fieldTys env.P 22 = none := by kernel_rfl
@[simp] theorem isBool_22 : isBool env.P 22 = false := by kernel_rfl
@[simp] theorem plain_22 : plain env.P 20 22 = true := by kernel_rfl
@[simp] theorem isInt_22 : isInt env.P 22 = true := by kernel_rfl
@[simp] theorem intKind_22 : intKind env.P 22 = (some .u32) := by kernel_rfl
@[simp] theorem isBys_22 : isByteSlice env.P 22 = false := by kernel_rfl
@[simp] theorem undS_22 : (env.P.underlying 22).isNone = false := by kernel_rfl
@[simp] theorem tsize_24 : tsize env.P 24 = (some 2) := by kernel_rfl
@[simp] theorem tagg_24 : tagg env.P 24 = (some true) := by kernel_rfl
@[simp] theorem telem_24 : telem env.P 24 = none := by kernel_rfl
@[simp] theorem tarr_24 : tarr env.P 24 = none := by kernel_rfl
@[simp] theorem isStr_24 : isStr env.P 24 = false := by kernel_rfl
@[simp] theorem tzero_24 : tzero env.P 24 = (some (.agg [(a8 0), (a32 0)])) := by kernel_rfl
@[simp] theorem tbytes_24 : tbytes env.P 24 = (some 8) := by kernel_rfl
@[simp] theorem apT_24 : apT env.P 24 = true := by kernel_rfl
@[simp] theorem leafT_24 : leafT env.P 24 = none := by kernel_rfl
@[simp] theorem eqTy_24 : eqTy env.P 24 = true := by kernel_rfl
@[simp] theorem fieldTys_24 : fieldTys env.P 24 = (some [5, 22]) := by kernel_rfl
@[simp] theorem isBool_24 : isBool env.P 24 = false := by kernel_rfl
@[simp] theorem plain_24 : plain env.P 20 24 = true := by kernel_rfl
@[simp] theorem isInt_24 : isInt env.P 24 = false := by kernel_rfl
@[simp] theorem intKind_24 : intKind env.P 24 = none := by kernel_rfl
@[simp] theorem isBys_24 : isByteSlice env.P 24 = false := by kernel_rfl
@[simp] theorem undS_24 : (env.P.underlying 24).isNone = false := by kernel_rfl
@[simp] theorem places_24 : placesOf env.P 24 = (some [(0, 1), (1, 1)]) := by kernel_rfl
@[simp] theorem tfield_0_24 : tfield env.P 24 0 = (some (0, 5)) := by kernel_rfl
@[simp] theorem fplace_0_24 : fieldPlaces env.P 24 0 = (some (0, 1)) := by kernel_rfl
@[simp] theorem tfield_1_24 : tfield env.P 24 1 = (some (1, 22)) := by kernel_rfl
@[simp] theorem fplace_1_24 : fieldPlaces env.P 24 1 = (some (1, 1)) := by kernel_rfl
@[simp] theorem tsize_26 : tsize env.P 26 = (some 3) := by kernel_rfl
@[simp] theorem tagg_26 : tagg env.P 26 = (some true) := by kernel_rfl
@[simp] theorem telem_26 : telem env.P 26 = none := by kernel_rfl
@[simp] theorem tarr_26 : tarr env.P 26 = none := by kernel_rfl
@[simp] theorem isStr_26 : isStr env.P 26 = false := by kernel_rfl
@[simp] theorem tzero_26 : tzero env.P 26 = (some (.agg [(a8 0), (a32 0), (a8 0)])) := by kernel_rfl
@[simp] theorem tbytes_26 : tbytes env.P 26 = (some 12) := by kernel_rfl
@[simp] theorem apT_26 : apT env.P 26 = true := by kernel_rfl
@[simp] theorem leafT_26 : leafT env.P 26 = none := by kernel_rfl
@[simp] theorem eqTy_26 : eqTy env.P 26 = true := by kernel_rfl
@[simp] theorem fieldTys_26 : fieldTys env.P 26 = (some [24, 5]) := by kernel_rfl
@[simp] theorem isBool_26 : isBool env.P 26 = false := by kernel_rfl
@[simp] theorem plain_26 : plain env.P 20 26 = true := by kernel_rfl
@[simp] theorem isInt_26 : isInt env.P 26 = false := by kernel_rfl
@[simp] theorem intKind_26 : intKind env.P 26 = none := by kernel_rfl
@[simp] theorem isBys_26 : isByteSlice env.P 26 = false := by kernel_rfl
@[simp] theorem undS_26 : (env.P.underlying 26).isNone = false := by kernel_rfl
@[simp] theorem places_26 : placesOf env.P 26 = (some [(0, 2), (2, 1)]) := by kernel_rfl
@[simp] theorem tfield_0_26 : tfield env.P 26 0 = (some (0, 24)) := by kernel_rfl
@[simp] theorem fplace_0_26 : fieldPlaces env.P 26 0 = (some (0, 2)) := by kernel_rfl
@[simp] theorem tfield_1_26 : tfield env.P 26 1 = (some (2, 5)) := by kernel_rfl
@[simp] theorem fplace_1_26 : fieldPlaces env.P 26 1 = (some (2, 1)) := by kernel_rfl
@[simp] theorem tsize_28 : tsize env.P 28 = (some 4) := by kernel_rfl
@[simp] theorem tagg_28 : tagg env.P 28 = (some true) := by kernel_rfl
@[simp] theorem telem_28 : telem env.P 28 = none := by kernel_rfl
@[simp] theorem tarr_28 : tarr env.P 28 = none := by kernel_rfl
@[simp] theorem isStr_28 : isStr env.P 28 = false := by kernel_rfl
@[simp] theorem tzero_28 : tzero env.P 28 = (some (.agg [(a8 0), (a32 0), (a8 0), (.v (.int .i64 0))])) := by kernel_rfl
@[simp] theorem tbytes_28 : tbytes env.P 28 = (some 24) := by kernel_rfl
@[simp] theorem apT_28 : apT env.P 28 = true := by kernel_rfl
@[simp] theorem leafT_28 : leafT env.P 28 = none := by kernel_rfl
@[simp] theorem eqTy_28 : eqTy env.P 28 = true := by kernel_rfl
@[simp] theorem fieldTys_28 : fieldTys env.P 28 = (some [26, 3]) := by kernel_rfl
@[simp] theorem isBool_28 : isBool env.P 28 = false := by kernel_rfl
@[simp] theorem plain_28 : plain env.P 20 28 = true := by kernel_rfl
@[simp] theorem isInt_28 : isInt env.P 28 = false := by kernel_rfl
@[simp] theorem intKind_28 : intKind env.P 28 = none := by kernel_rfl
@[simp] theorem isBys_28 : isByteSlice env.P 28 = false := by kernel_rfl
@[simp] theorem undS_28 : (env.P.underlying 28).isNone = false := by kernel_rfl
@[simp] theorem places_28 : placesOf env.P 28 = (some [(0, 3), (3, 1)]) := by kernel_rfl
@[simp] theorem tfield_0_28 : tfield env.P 28 0 = (some (0, 26)) := by kernel_rfl
@[simp] theorem fplace_0_28 : fieldPlaces env.P 28 0 = (some (0, 3)) := by kernel_rfl
@[simp] theorem tfield_1_28 : tfield env.P 28 1 = (some (3, 3)) := by kernel_rfl
@[simp] theorem fplace_1_28 : fieldPlaces env.P 28 1 = (some (3, 1)) := by kernel_rfl
@[simp] theorem tsize_30 : tsize env.P 30 = (some 5) := by kernel_rfl
@[simp] theorem tagg_30 : tagg env.P 30 = (some true) := by kernel_rfl
@[simp] theorem telem_30 : telem env.P 30 = none := by kernel_rfl
@[simp] theorem tarr_30 : tarr env.P 30 = none := by kernel_rfl
@[simp] theorem isStr_30 : isStr env.P 30 = false := by kernel_rfl
@[simp] theorem tzero_30 : tzero env.P 30 = (some (.agg [(a8 0), (a32 0), (a8 0), (.v (.int .i64 0)), (.v (.int .i64 0))])) := by kernel_rfl
@[simp] theorem tbytes_30 : tbytes env.P 30 = (some 32) := by kernel_rfl
@[simp] theorem apT_30 : apT env.P 30 = true := by kernel_rfl
@[simp] theorem leafT_30 : leafT env.P 30 = none := by kernel_rfl
@[simp] theorem eqTy_30 : eqTy env.P 30 = true := by kernel_rfl
@[simp] theorem fieldTys_30 : fieldTys env.P 30 = (some [28, 3]) := by kernel_rfl
@[simp] theorem isBool_30 : isBool env.P 30 = false := by kernel_rfl
@[simp] theorem plain_30 : plain env.P 20 30 = true := by kernel_rfl
@[simp] theorem isInt_30 : isInt env.P 30 = false := by kernel_rfl
@[simp] theorem intKind_30 : intKind env.P 30 = none := by kernel_rfl
@[simp] theorem isBys_30 : isByteSlice env.P 30 = false := by kernel_rfl
@[simp] theorem undS_30 : (env.P.underlying 30).isNone = false := by kernel_rfl
@[simp] theorem places_30 : placesOf env.P 30 = (some [(0, 4), (4, 1)]) := by kernel_rfl
@[simp] theorem tfield_0_30 : tfield env.P 30 0 = (some (0, 28)) := by kernel_rfl
@[simp] theorem fplace_0_30 : fieldPlaces env.P 30 0 = (some (0, 4)) := by kernel_rfl
@[simp] theorem tfield_1_30 : tfield env.P 30 1 = (some (4, 3)) := by kernel_rfl
@[simp] theorem fplace_1_30 : fieldPlaces env.P 30 1 = (some (4, 1)) := by kernel_rfl
@[simp] theorem tsize_31 : tsize env.P 31 = (some 1) := by kernel_rfl
@[simp] theorem tagg_31 : tagg env.P 31 = (some false) := by kernel_rfl
@[simp] theorem telem_31 : telem env.P 31 = (some 21) := by kernel_rfl
@[simp] theorem tarr_31 : tarr env.P 31 = none := by kernel_rfl
@[simp] theorem isStr_31 : isStr env.P 31 = false := by kernel_rfl
@[simp] theorem tzero_31 : tzero env.P 31 = (some (.v (.slice none 0 0))) := by kernel_rfl
@[simp] theorem tbytes_31 : tbytes env.P 31 = (some 24) := by kernel_rfl
@[simp] theorem apT_31 : apT env.P 31 = true := by kernel_rfl
@[simp] theorem leafT_31 : leafT env.P 31 = none := by kernel_rfl
@[simp] theorem fieldTys_31 : fieldTys env.P 31 = none := by kernel_rfl
@[simp] theorem isBool_31 : isBool env.P 31 = false := by kernel_rfl
@[simp] theorem plain_31 : plain env.P 20 31 = true := by kernel_rfl
@[simp] theorem elT_31 : elT env.P 31 1 4 = true := by kernel_rfl
@[simp] theorem elOk_31 : elOk env.P 31 = true := by kernel_rfl
@[simp] theorem elZ_31 : elZ env.P 31 = 1 := by kernel_rfl
@[simp] theorem elBy_31 : elBy env.P 31 = 4 := by kernel_rfl
@[simp] theorem elZero_31 : elZero env.P 31 = (.v (.int .i32 0)) := by kernel_rfl
@[simp] theorem isInt_31 : isInt env.P 31 = false := by kernel_rfl
@[simp] theorem intKind_31 : intKind env.P 31 = none := by kernel_rfl
@[simp] theorem isBys_31 : isByteSlice env.P 31 = false := by kernel_rfl
@[simp] theorem undS_31 : (env.P.underlying 31).isNone = false := by kernel_rfl
@[simp] theorem tsize_33 : tsize env.P 33 = (some 10) := by kernel_rfl
@[simp] theorem tagg_33 : tagg env.P 33 = (some true) := by kernel_rfl
@[simp] theorem telem_33 : telem env.P 33 = none := by kernel_rfl
@[simp] theorem tarr_33 : tarr env.P 33 = none := by kernel_rfl
@[simp] theorem isStr_33 : isStr env.P 33 = false := by kernel_rfl
@[simp] theorem tzero_33 : tzero env.P 33 = (some (.agg [(a8 0), (a32 0), (a8 0), (.v (.int .i64 0)), (.v (.int .i64 0)), (a8 0), (a32 0), (a8 0), (.v (.int .i64 0)), (.v (.slice none 0 0))])) := by kernel_rfl
@[simp] theorem tbytes_33 : tbytes env.P 33 = (some 80) := by kernel_rfl
@[simp] theorem apT_33 : apT env.P 33 = true := by kernel_rfl
@[simp] theorem leafT_33 : leafT env.P 33 = none := by kernel_rfl
@[simp] theorem fieldTys_33 : fieldTys env.P 33 = (some [30, 28, 31]) := by kernel_rfl
@[simp] theorem isBool_33 : isBool env.P 33 = false := by kernel_rfl
@[simp] theorem plain_33 : plain env.P 20 33 = true := by kernel_rfl
@[simp] theorem isInt_33 : isInt env.P 33 = false := by kernel_rfl
@[simp] theorem intKind_33 : intKind env.P 33 = none := by kernel_rfl
@[simp] theorem isBys_33 : isByteSlice env.P 33 = false := by kernel_rfl
@[simp] theorem undS_33 : (env.P.underlying 33).isNone = false := by kernel_rfl
@[simp] theorem places_33 : placesOf env.P 33 = (some [(0, 5), (5, 4), (9, 1)]) := by kernel_rfl
@[simp] theorem tfield_0_33 : tfield env.P 33 0 = (some (0, 30)) := by kernel_rfl
@[simp] theorem fplace_0_33 : fieldPlaces env.P 33 0 = (some (0, 5)) := by kernel_rfl
@[simp] theorem tfield_1_33 : tfield env.P 33 1 = (some (5, 28)) := by kernel_rfl
@[simp] theorem fplace_1_33 : fieldPlaces env.P 33 1 = (some (5, 4)) := by kernel_rfl
@[simp] theorem tfield_2_33 : tfield env.P 33 2 = (some (9, 31)) := by kernel_rfl
@[simp] theorem fplace_2_33 : fieldPlaces env.P 33 2 = (some (9, 1)) := by kernel_rfl
@[simp] theorem tsize_35 : tsize env.P 35 = (some 1) := by kernel_rfl
@[simp] theorem tagg_35 : tagg env.P 35 = (some false) := by kernel_rfl
@[simp] theorem telem_35 : telem env.P 35 = none := by kernel_rfl
@[simp] theorem tarr_35 : tarr env.P 35 = none := by kernel_rfl
@[simp] theorem isStr_35 : isStr env.P 35 = false := by kernel_rfl
@[simp] theorem tzero_35 : tzero env.P 35 = (some (.v (.int .i64 0))) := by kernel_rfl
@[simp] theorem tbytes_35 : tbytes env.P 35 = (some 8) := by kernel_rfl
@[simp] theorem apT_35 : apT env.P 35 = false := by kernel_rfl
@[simp] theorem leafT_35 : leafT env.P 35 = (some 1) := by kernel_rfl
@[simp] theorem fieldTys_35 : fieldTys env.P 35 = none := by kernel_rfl
@[simp] theorem isBool_35 : isBool env.P 35 = false := by kernel_rfl
@[simp] theorem plain_35 : plain env.P 20 35 = true := by kernel_rfl
@[simp] theorem isInt_35 : isInt env.P 35 = true := by kernel_rfl
@[simp] theorem intKind_35 : intKind env.P 35 = (some .i64) := by kernel_rfl
@[simp] theorem isBys_35 : isByteSlice env.P 35 = false := by kernel_rfl
@[simp] theorem undS_35 : (env.P.underlying 35).isNone = false := by kernel_rfl
@[simp] theorem tsize_36 : tsize env.P 36 = (some 1) := by kernel_rfl
@[simp] theorem tagg_36 : tagg env.P 36 = (some false) := by kernel_rfl
@[simp] theorem telem_36 : telem env.P 36 = none := by kernel_rfl
@[simp] theorem tarr_36 : tarr env.P 36 = none := by kernel_rfl
@[simp] theorem isStr_36 : isStr env.P 36 = false := by kernel_rfl
@[simp] theorem tbytes_36 : tbytes env.P 36 = (some 0) := by kernel_rfl
@[simp] theorem apT_36 : apT env.P 36 = true := by kernel_rfl
@[simp] theorem leafT_36 : leafT env.P 36 = none := by kernel_rfl
@[simp] theorem fieldTys_36 : fieldTys env.P 36 = none := by kernel_rfl
@[simp] theorem isBool_36 : isBool env.P 36 = false := by kernel_rfl
@[simp] theorem plain_36 : plain env.P 20 36 = false := by kernel_rfl
@[simp] theorem isInt_36 : isInt env.P 36 = false := by kernel_rfl
@[simp] theorem intKind_36 : intKind env.P 36 = none := by kernel_rfl
@[simp] theorem isBys_36 : isByteSlice env.P 36 = false := by kernel_rfl
@[simp] theorem undS_36 : (env.P.underlying 36).isNone = false := by kernel_rfl
@[simp] theorem tsize_38 : tsize env.P 38 = (some 1) := by kernel_rfl
@[simp] theorem tagg_38 : tagg env.P 38 = (some false) := by kernel_rfl
@[simp] theorem telem_38 : telem env.P 38 = none := by kernel_rfl
@[simp] theorem tarr_38 : tarr env.P 38 = none := by kernel_rfl
@[simp] theorem isStr_38 : isStr env.P 38 = false := by kernel_rfl
@[simp] theorem tbytes_38 : tbytes env.P 38 = (some 0) := by kernel_rfl
@[simp] theorem apT_38 : apT env.P 38 = true := by kernel_rfl
@[simp] theorem leafT_38 : leafT env.P 38 = none := by kernel_rfl
@[simp] theorem fieldTys_38 : fieldTys env.P 38 = none := by kernel_rfl
@[simp] theorem isBool_38 : isBool env.P 38 = false := by kernel_rfl
@[simp] theorem plain_38 : plain env.P 20 38 = false := by kernel_rfl
@[simp] theorem isInt_38 : isInt env.P 38 = false := by kernel_rfl
@[simp] theorem intKind_38 : intKind env.P 38 = none := by kernel_rfl
@[simp] theorem isBys_38 : isByteSlice env.P 38 = false := by kernel_rfl
@[simp] theorem undS_38 : (env.P.underlying 38).isNone = false := by kernel_rfl
@[simp] theorem tsize_42 : tsize env.P 42 = (some 1) := by kernel_rfl
@[simp] theorem tagg_42 : tagg env.P 42 = (some false) := by kernel_rfl
@[simp] theorem telem_42 : telem env.P 42 = none := by kernel_rfl
@[simp] theorem tarr_42 : tarr env.P 42 = none := by kernel_rfl
@[simp] theorem isStr_42 : isStr env.P 42 = false := by kernel_rfl
@[simp] theorem tbytes_42 : tbytes env.P 42 = (some 0) := by kernel_rfl
@[simp] theorem apT_42 : apT env.P 42 = true := by kernel_rfl
@[simp] theorem leafT_42 : leafT env.P 42 = none := by kernel_rfl
@[simp] theorem fieldTys_42 : fieldTys env.P 42 = none := by kernel_rfl
@[simp] theorem isBool_42 : isBool env.P 42 = false := by kernel_rfl
@[simp] theorem plain_42 : plain env.P 20 42 = false := by kernel_rfl
@[simp] theorem isInt_42 : isInt env.P 42 = false := by kernel_rfl
@[simp] theorem intKind_42 : intKind env.P 42 = none := by kernel_rfl
@[simp] theorem isBys_42 : isByteSlice env.P 42 = false := by kernel_rfl
@[simp] theorem undS_42 : (env.P.underlying 42).isNone = false := by kernel_rfl
@[simp] theorem tsize_49 : tsize env.P 49 = (some 17) := by kernel_rfl
@[simp] theorem tagg_49 : tagg env.P 49 = (some true) := by kernel_rfl
@[simp] theorem telem_49 : telem env.P 49 = none := by kernel_rfl
@[simp] theorem tarr_49 : tarr env.P 49 = none := by kernel_rfl
@[simp] theorem isStr_49 : isStr env.P 49 = false := by kernel_rfl
@[simp] theorem tzero_49 : tzero env.P 49 = (some (.agg [(a8 0), (a8 0), (a32 0), (a8 0), (.v (.int .i64 0)), (a8 0), (a32 0), (a8 0), (.v (.int .i64 0)), (.v (.int .i64 0)), (a8 0), (a32 0), (a8 0), (.v (.int .i64 0)), (a8 0), (a32 0), (.v (.slice none 0 0))])) := by kernel_rfl
@[simp] theorem tbytes_49 : tbytes env.P 49 = (some 112) := by kernel_rfl
@[simp] theorem apT_49 : apT env.P 49 = true := by kernel_rfl
@[simp] theorem leafT_49 : leafT env.P 49 = none := by kernel_rfl
@[simp] theorem fieldTys_49 : fieldTys env.P 49 = (some [5, 26, 3, 30, 28, 24, 31]) := by kernel_rfl
@[simp] theorem isBool_49 : isBool env.P 49 = false := by kernel_rfl
@[simp] theorem plain_49 : plain env.P 20 49 = true := by kernel_rfl
@[simp] theorem isInt_49 : isInt env.P 49 = false := by kernel_rfl
@[simp] theorem intKind_49 : intKind env.P 49 = none := by kernel_rfl
@[simp] theorem isBys_49 : isByteSlice env.P 49 = false := by kernel_rfl
@[simp] theorem undS_49 : (env.P.underlying 49).isNone = false := by kernel_rfl
@[simp] theorem places_49 : placesOf env.P 49 = (some [(0, 1), (1, 3), (4, 1), (5, 5), (10, 4), (14, 2), (16, 1)]) := by kernel_rfl
@[simp] theorem tfield_0_49 : tfield env.P 49 0 = (some (0, 5)) := by kernel_rfl
@[simp] theorem fplace_0_49 : fieldPlaces env.P 49 0 = (some (0, 1)) := by kernel_rfl
@[simp] theorem tfield_1_49 : tfield env.P 49 1 = (some (1, 26)) := by kernel_rfl
@[simp] theorem fplace_1_49 : fieldPlaces env.P 49 1 = (some (1, 3)) := by kernel_rfl
@[simp] theorem tfield_2_49 : tfield env.P 49 2 = (some (4, 3)) := by kernel_rfl
@[simp] theorem fplace_2_49 : fieldPlaces env.P 49 2 = (some (4, 1)) := by kernel_rfl
@[simp] theorem tfield_3_49 : tfield env.P 49 3 = (some (5, 30)) := by kernel_rfl
@[simp] theorem fplace_3_49 : fieldPlaces env.P 49 3 = (some (5, 5)) := by kernel_rfl
@[simp] theorem tfield_4_49 : tfield env.P 49 4 = (some (10, 28)) := by kernel_rfl
@[simp] theorem fplace_4_49 : fieldPlaces env.P 49 4 = (some (10, 4)) := by kernel_rfl
@[simp] theorem tfield_5_49 : tfield env.P 49 5 = (some (14, 24)) := by kernel_rfl
@[simp] theorem fplace_5_49 : fieldPlaces env.P 49 5 = (some (14, 2)) := by kernel_rfl
@[simp] theorem tfield_6_49 : tfield env.P 49 6 = (some (16, 31)) := by kernel_rfl
@[simp] theorem fplace_6_49 : fieldPlaces env.P 49 6 = (some (16, 1)) := by kernel_rfl
@[simp] theorem tsize_52 : tsize env.P 52 = (some 1) := by kernel_rfl
@[simp] theorem tagg_52 : tagg env.P 52 = (some false) := by kernel_rfl
@[simp] theorem telem_52 : telem env.P 52 = none := by kernel_rfl
@[simp] theorem tarr_52 : tarr env.P 52 = none := by kernel_rfl
@[simp] theorem isStr_52 : isStr env.P 52 = false := by kernel_rfl
@[simp] theorem tbytes_52 : tbytes env.P 52 = (some 0) := by kernel_rfl
@[simp] theorem apT_52 : apT env.P 52 = true := by kernel_rfl
@[simp] theorem leafT_52 : leafT env.P 52 = none := by kernel_rfl
@[simp] theorem fieldTys_52 : fieldTys env.P 52 = none := by kernel_rfl
@[simp] theorem isBool_52 : isBool env.P 52 = false := by kernel_rfl
@[simp] theorem plain_52 : plain env.P 20 52 = false := by kernel_rfl
@[simp] theorem isInt_52 : isInt env.P 52 = false := by kernel_rfl
@[simp] theorem intKind_52 : intKind env.P 52 = none := by kernel_rfl
@[simp] theorem isBys_52 : isByteSlice env.P 52 = false := by kernel_rfl
@[simp] theorem undS_52 : (env.P.underlying 52).isNone = false := by kernel_rfl
@[simp] theorem tsize_54 : tsize env.P 54 = (some 1) := by kernel_rfl
@[simp] theorem tagg_54 : tagg env.P 54 = (some false) := by kernel_rfl
@[simp] theorem telem_54 : telem env.P 54 = none := by kernel_rfl
@[simp] theorem tarr_54 : tarr env.P 54 = none := by kernel_rfl
@[simp] theorem isStr_54 : isStr env.P 54 = false := by kernel_rfl
@[simp] theorem tbytes_54 : tbytes env.P 54 = (some 0) := by kernel_rfl
@[simp] theorem apT_54 : apT env.P 54 = true := by kernel_rfl
@[simp] theorem leafT_54 : leafT env.P 54 = none := by kernel_rfl
@[simp] theorem fieldTys_54 : fieldTys env.P 54 = none := by kernel_rfl
@[simp] theorem isBool_54 : isBool env.P 54 = false := by kernel_rfl
@[simp] theorem plain_54 : plain env.P 20 54 = false := by kernel_rfl
@[simp] theorem isInt_54 : isInt env.P 54 = false := by kernel_rfl
@[simp] theorem intKind_54 : intKind env.P 54 = none := by kernel_rfl
@[simp] theorem isBys_54 : isByteSlice env.P 54 = false := by kernel_rfl
@[simp] theorem undS_54 : (env.P.underlying 54).isNone = false := by kernel_rfl
@[simp] theorem tsize_57 : tsize env.P 57 = (some 1) := by kernel_rfl
@[simp] theorem tagg_57 : tagg env.P 57 = (some false) := by kernel_rfl
@[simp] theorem telem_57 : telem env.P 57 = none := by kernel_rfl
@[simp] theorem tarr_57 : tarr env.P 57 = none := by kernel_rfl
@[simp] theorem isStr_57 : isStr env.P 57 = false := by kernel_rfl
@[simp] theorem tbytes_57 : tbytes env.P 57 = (some 0) := by kernel_rfl
@[simp] theorem apT_57 : apT env.P 57 = true := by kernel_rfl
@[simp] theorem leafT_57 : leafT env.P 57 = none := by kernel_rfl
@[simp] theorem fieldTys_57 : fieldTys env.P 57 = none := by kernel_rfl
@[simp] theorem isBool_57 : isBool env.P 57 = false := by kernel_rfl
@[simp] theorem plain_57 : plain env.P 20 57 = false := by kernel_rfl
@[simp] theorem isInt_57 : isInt env.P 57 = false := by kernel_rfl
@[simp] theorem intKind_57 : intKind env.P 57 = none := by kernel_rfl
@[simp] theorem isBys_57 : isByteSlice env.P 57 = false := by kernel_rfl
@[simp] theorem undS_57 : (env.P.underlying 57).isNone = false := by kernel_rfl
@[simp] theorem tsize_63 : tsize env.P 63 = (some 1) := by kernel_rfl
@[simp] theorem tagg_63 : tagg env.P 63 = (some false) := by kernel_rfl
@[simp] theorem telem_63 : telem env.P 63 = (some 49) := by kernel_rfl
@[simp] theorem tarr_63 : tarr env.P 63 = none := by kernel_rfl
@[simp] theorem isStr_63 : isStr env.P 63 = false := by kernel_rfl
@[simp] theorem tzero_63 : tzero env.P 63 = (some (.v (.slice none 0 0))) := by kernel_rfl
@[simp] theorem tbytes_63 : tbytes env.P 63 = (some 24) := by kernel_rfl
@[simp] theorem apT_63 : apT env.P 63 = true := by kernel_rfl
@[simp] theorem leafT_63 : leafT env.P 63 = none := by kernel_rfl
@[simp] theorem fieldTys_63 : fieldTys env.P 63 = none := by kernel_rfl
@[simp] theorem isBool_63 : isBool env.P 63 = false := by kernel_rfl
@[simp] theorem plain_63 : plain env.P 20 63 = true := by kernel_rfl
@[simp] theorem elT_63 : elT env.P 63 17 112 = true := by kernel_rfl
@[simp] theorem elOk_63 : elOk env.P 63 = true := by kernel_rfl
@[simp] theorem elZ_63 : elZ env.P 63 = 17 := by kernel_rfl
@[simp] theorem elBy_63 : elBy env.P 63 = 112 := by kernel_rfl
@[simp] theorem elZero_63 : elZero env.P 63 = (.agg [(a8 0), (a8 0), (a32 0), (a8 0), (.v (.int .i64 0)), (a8 0), (a32 0), (a8 0), (.v (.int .i64 0)), (.v (.int .i64 0)), (a8 0), (a32 0), (a8 0), (.v (.int .i64 0)), (a8 0), (a32 0), (.v (.slice none 0 0))]) := by kernel_rfl
@[simp] theorem isInt_63 : isInt env.P 63 = false := by kernel_rfl
@[simp] theorem intKind_63 : intKind env.P 63 = none := by kernel_rfl
@[simp] theorem isBys_63 : isByteSlice env.P 63 = false := by kernel_rfl
@[simp] theorem undS_63 : (env.P.underlying 63).isNone = false := by kernel_rfl
@[simp] theorem tsize_65 : tsize env.P 65 = (some 1) := by kernel_rfl
@[simp] theorem tagg_65 : tagg env.P 65 = (some false) := by kernel_rfl
@[simp] theorem telem_65 : telem env.P 65 = none := by kernel_rfl
@[simp] theorem tarr_65 : tarr env.P 65 = none := by kernel_rfl
@[simp] theorem isStr_65 : isStr env.P 65 = false := by kernel_rfl
@[simp] theorem tzero_65 : tzero env.P 65 = (some (.tup [(.v (.bool false)), (.v (.int .i64 0))])) := by kernel_rfl
@[simp] theorem tbytes_65 : tbytes env.P 65 = (some 0) := by kernel_rfl
@[simp] theorem apT_65 : apT env.P 65 = true := by kernel_rfl
@[simp] theorem leafT_65 : leafT env.P 65 = none := by kernel_rfl
@[simp] theorem fieldTys_65 : fieldTys env.P 65 = none := by kernel_rfl
@[simp] theorem isBool_65 : isBool env.P 65 = false := by kernel_rfl
@[simp] theorem plain_65 : plain env.P 20 65 = false := by kernel_rfl
@[simp] theorem isInt_65 : isInt env.P 65 = false := by kernel_rfl
@[simp] theorem intKind_65 : intKind env.P 65 = none := by kernel_rfl
@[simp] theorem isBys_65 : isByteSlice env.P 65 = false := by kernel_rfl
@[simp] theorem undS_65 : (env.P.underlying 65).isNone = false := by kernel_rfl
@[simp] theorem tsize_68 : tsize env.P 68 = (some 1) := by kernel_rfl
@[simp] theorem tagg_68 : tagg env.P 68 = (some false) := by kernel_rfl
@[simp] theorem telem_68 : telem env.P 68 = none := by kernel_rfl
@[simp] theorem tarr_68 : tarr env.P 68 = none := by kernel_rfl
@[simp] theorem isStr_68 : isStr env.P 68 = false := by kernel_rfl
@[simp] theorem tzero_68 : tzero env.P 68 = (some (.tup [(.v (.int .i64 0)), (.v (.bool false))])) := by kernel_rfl
@[simp] theorem tbytes_68 : tbytes env.P 68 = (some 0) := by kernel_rfl
@[simp] theorem apT_68 : apT env.P 68 = true := by kernel_rfl
@[simp] theorem leafT_68 : leafT env.P 68 = none := by kernel_rfl
@[simp] theorem fieldTys_68 : fieldTys env.P 68 = none := by kernel_rfl
@[simp] theorem isBool_68 : isBool env.P 68 = false := by kernel_rfl
@[simp] theorem plain_68 : plain env.P 20 68 = false := by kernel_rfl
@[simp] theorem isInt_68 : isInt env.P 68 = false := by kernel_rfl
@[simp] theorem intKind_68 : intKind env.P 68 = none := by kernel_rfl
@[simp] theorem isBys_68 : isByteSlice env.P 68 = false := by kernel_rfl
@[simp] theorem undS_68 : (env.P.underlying 68).isNone = false := by kernel_rfl
@[simp] theorem tsize_72 : tsize env.P 72 = (some 1) := by kernel_rfl
@[simp] theorem tagg_72 : tagg env.P 72 = (some false) := by kernel_rfl
@[simp] theorem telem_72 : telem env.P 72 = (some 24) := by kernel_rfl
@[simp] theorem tarr_72 : tarr env.P 72 = none := by kernel_rfl
@[simp] theorem isStr_72 : isStr env.P 72 = false := by kernel_rfl
@[simp] theorem tzero_72 : tzero env.P 72 = (some (.v (.slice none 0 0))) := by kernel_rfl
@[simp] theorem tbytes_72 : tbytes env.P 72 = (some 24) := by kernel_rfl
@[simp] theorem apT_72 : apT env.P 72 = true := by kernel_rfl
@[simp] theorem leafT_72 : leafT env.P 72 = none := by kernel_rfl
@[simp] theorem fieldTys_72 : fieldTys env.P 72 = none := by kernel_rfl
@[simp] theorem isBool_72 : isBool env.P 72 = false := by kernel_rfl
@[simp] theorem plain_72 : plain env.P 20 72 = true := by kernel_rfl
@[simp] theorem elT_72 : elT env.P 72 2 8 = true := by kernel_rfl
@[simp] theorem elOk_72 : elOk env.P 72 = true := by kernel_rfl
@[simp] theorem elZ_72 : elZ env.P 72 = 2 := by kernel_rfl
@[simp] theorem elBy_72 : elBy env.P 72 = 8 := by kernel_rfl
@[simp] theorem elZero_72 : elZero env.P 72 = (.agg [(a8 0), (a32 0)]) := by kernel_rfl
@[simp] theorem isInt_72 : isInt env.P 72 = false := by kernel_rfl
@[simp] theorem intKind_72 : intKind env.P 72 = none := by kernel_rfl
@[simp] theorem isBys_72 : isByteSlice env.P 72 = false := by kernel_rfl
@[simp] theorem undS_72 : (env.P.underlying 72).isNone = false := by kernel_rfl
@[simp] theorem tsize_73 : tsize env.P 73 = (some 1) := by kernel_rfl
@[simp] theorem tagg_73 : tagg env.P 73 = (some false) := by kernel_rfl
@[simp] theorem telem_73 : telem env.P 73 = none := by kernel_rfl
@[simp] theorem tarr_73 : tarr env.P 73 = none := by kernel_rfl
@[simp] theorem isStr_73 : isStr env.P 73 = false := by kernel_rfl
@[simp] theorem tzero_73 : tzero env.P 73 = (some (.tup [(.v (.slice none 0 0)), (.v (.int .i64 0))])) := by kernel_rfl
@[simp] theorem tbytes_73 : tbytes env.P 73 = (some 0) := by kernel_rfl
@[simp] theorem apT_73 : apT env.P 73 = true := by kernel_rfl
@[simp] theorem leafT_73 : leafT env.P 73 = none := by kernel_rfl
@[simp] theorem fieldTys_73 : fieldTys env.P 73 = none := by kernel_rfl
@[simp] theorem isBool_73 : isBool env.P 73 = false := by kernel_rfl
@[simp] theorem plain_73 : plain env.P 20 73 = false := by kernel_rfl
@[simp] theorem isInt_73 : isInt env.P 73 = false := by kernel_rfl
@[simp] theorem intKind_73 : intKind env.P 73 = none := by kernel_rfl
@[simp] theorem isBys_73 : isByteSlice env.P 73 = false := by kernel_rfl
@[simp] theorem undS_73 : (env.P.underlying 73).isNone = false := by kernel_rfl
@[simp] theorem tsize_82 : tsize env.P 82 = (some 1) := by kernel_rfl
@[simp] theorem tagg_82 : tagg env.P 82 = (some false) := by kernel_rfl
@[simp] theorem telem_82 : telem env.P 82 = none := by kernel_rfl
@[simp] theorem tarr_82 : tarr env.P 82 = none := by kernel_rfl
@[simp] theorem isStr_82 : isStr env.P 82 = false := by kernel_rfl
@[simp] theorem tzero_82 : tzero env.P 82 = (some (.tup [(.v (.slice none 0 0)), (.v (.int .i64 0))])) := by kernel_rfl
@[simp] theorem tbytes_82 : tbytes env.P 82 = (some 0) := by kernel_rfl
@[simp] theorem apT_82 : apT env.P 82 = true := by kernel_rfl
@[simp] theorem leafT_82 : leafT env.P 82 = none := by kernel_rfl
@[simp] theorem fieldTys_82 : fieldTys env.P 82 = none := by kernel_rfl
@[simp] theorem isBool_82 : isBool env.P 82 = false := by kernel_rfl
@[simp] theorem plain_82 : plain env.P 20 82 = false := by kernel_rfl
@[simp] theorem isInt_82 : isInt env.P 82 = false := by kernel_rfl
@[simp] theorem intKind_82 : intKind env.P 82 = none := by kernel_rfl
@[simp] theorem isBys_82 : isByteSlice env.P 82 = false := by kernel_rfl
@[simp] theorem undS_82 : (env.P.underlying 82).isNone = false := by kernel_rfl
@[simp] theorem tsize_84 : tsize env.P 84 = (some 1) := by kernel_rfl
@[simp] theorem tagg_84 : tagg env.P 84 = (some false) := by kernel_rfl
@[simp] theorem telem_84 : telem env.P 84 = none := by kernel_rfl
@[simp] theorem tarr_84 : tarr env.P 84 = none := by kernel_rfl
@[simp] theorem isStr_84 : isStr env.P 84 = false := by kernel_rfl
@[simp] theorem tzero_84 : tzero env.P 84 = (some (.tup [(.v (.bool false)), (.v (.int .i64 0))])) := by kernel_rfl
@[simp] theorem tbytes_84 : tbytes env.P 84 = (some 0) := by kernel_rfl
@[simp] theorem apT_84 : apT env.P 84 = true := by kernel_rfl
@[simp] theorem leafT_84 : leafT env.P 84 = none := by kernel_rfl
@[simp] theorem fieldTys_84 : fieldTys env.P 84 = none := by kernel_rfl
@[simp] theorem isBool_84 : isBool env.P 84 = false := by kernel_rfl
@[simp] theorem plain_84 : plain env.P 20 84 = false := by kernel_rfl
@[simp] theorem isInt_84 : isInt env.P 84 = false := by kernel_rfl
@[simp] theorem intKind_84 : intKind env.P 84 = none := by kernel_rfl
@[simp] theorem isBys_84 : isByteSlice env.P 84 = false := by kernel_rfl
@[simp] theorem undS_84 : (env.P.underlying 84).isNone = false := by kernel_rfl
@[simp] theorem tsize_118 : tsize env.P 118 = (some 1) := by kernel_rfl
@[simp] theorem tagg_118 : tagg env.P 118 = (some false) := by kernel_rfl
@[simp] theorem telem_118 : telem env.P 118 = none := by kernel_rfl
@[simp] theorem tarr_118 : tarr env.P 118 = none := by kernel_rfl
@[simp] theorem isStr_118 : isStr env.P 118 = false := by kernel_rfl
@[simp] theorem tbytes_118 : tbytes env.P 118 = (some 0) := by kernel_rfl
@[simp] theorem apT_118 : apT env.P 118 = true := by kernel_rfl
@[simp] theorem leafT_118 : leafT env.P 118 = none := by kernel_rfl
@[simp] theorem fieldTys_118 : fieldTys env.P 118 = none := by kernel_rfl
@[simp] theorem isBool_118 : isBool env.P 118 = false := by kernel_rfl
@[simp] theorem plain_118 : plain env.P 20 118 = false := by kernel_rfl
@[simp] theorem isInt_118 : isInt env.P 118 = false := by kernel_rfl
@[simp] theorem intKind_118 : intKind env.P 118 = none := by kernel_rfl
@[simp] theorem isBys_118 : isByteSlice env.P 118 = false := by kernel_rfl
@[simp] theorem undS_118 : (env.P.underlying 118).isNone = false := by kernel_rfl
@[simp] theorem tsize_120 : tsize env.P 120 = (some 1) := by kernel_rfl
@[simp] theorem tagg_120 : tagg env.P 120 = (some false) := by kernel_rfl
@[simp] theorem telem_120 : telem env.P 120 = none := by kernel_rfl
@[simp] theorem tarr_120 : tarr env.P 120 = none := by kernel_rfl
@[simp] theorem isStr_120 : isStr env.P 120 = false := by kernel_rfl
@[simp] theorem tbytes_120 : tbytes env.P 120 = (some 0) := by kernel_rfl
@[simp] theorem apT_120 : apT env.P 120 = true := by kernel_rfl
@[simp] theorem leafT_120 : leafT env.P 120 = none := by kernel_rfl
@[simp] theorem fieldTys_120 : fieldTys env.P 120 = none := by kernel_rfl
@[simp] theorem isBool_120 : isBool env.P 120 = false := by kernel_rfl
@[simp] theorem plain_120 : plain env.P 20 120 = false := by kernel_rfl
@[simp] theorem isInt_120 : isInt env.P 120 = false := by kernel_rfl
@[simp] theorem intKind_120 : intKind env.P 120 = none := by kernel_rfl
@[simp] theorem isBys_120 : isByteSlice env.P 120 = false := by kernel_rfl
@[simp] theorem undS_120 : (env.P.underlying 120).isNone = false := by kernel_rfl
@[simp] theorem tsize_123 : tsize env.P 123 = (some 10) := by kernel_rfl
@[simp] theorem tagg_123 : tagg env.P 123 = (some true) := by kernel_rfl
@[simp] theorem telem_123 : telem env.P 123 = none := by kernel_rfl
@[simp] theorem tarr_123 : tarr env.P 123 = none := by kernel_rfl
@[simp] theorem isStr_123 : isStr env.P 123 = false := by kernel_rfl
@[simp] theorem tzero_123 : tzero env.P 123 = (some (.agg [(a8 0), (a32 0), (a8 0), (.v (.int .i64 0)), (.v (.int .i64 0)), (a8 0), (a32 0), (a8 0), (.v (.int .i64 0)), (.v (.slice none 0 0))])) := by kernel_rfl
@[simp] theorem tbytes_123 : tbytes env.P 123 = (some 80) := by kernel_rfl
@[simp] theorem apT_123 : apT env.P 123 = true := by kernel_rfl
@[simp] theorem leafT_123 : leafT env.P 123 = none := by kernel_rfl
@[simp] theorem fieldTys_123 : fieldTys env.P 123 = (some [30, 28, 31]) := by kernel_rfl
@[simp] theorem isBool_123 : isBool env.P 123 = false := by kernel_rfl
@[simp] theorem plain_123 : plain env.P 20 123 = true := by kernel_rfl
@[simp] theorem isInt_123 : isInt env.P 123 = false := by kernel_rfl
@[simp] theorem intKind_123 : intKind env.P 123 = none := by kernel_rfl
@[simp] theorem isBys_123 : isByteSlice env.P 123 = false := by kernel_rfl
@[simp] theorem undS_123 : (env.P.underlying 123).isNone = false := by kernel_rfl
@[simp] theorem places_123 : placesOf env.P 123 = (some [(0, 5), (5, 4), (9, 1)]) := by kernel_rfl
@[simp] theorem tfield_0_123 : tfield env.P 123 0 = (some (0, 30)) := by kernel_rfl
@[simp] theorem fplace_0_123 : fieldPlaces env.P 123 0 = (some (0, 5)) := by kernel_rfl
@[simp] theorem tfield_1_123 : tfield env.P 123 1 = (some (5, 28)) := by kernel_rfl
@[simp] theorem fplace_1_123 : fieldPlaces env.P 123 1 = (some (5, 4)) := by kernel_rfl
@[simp] theorem tfield_2_123 : tfield env.P 123 2 = (some (9, 31)) := by kernel_rfl
@[simp] theorem fplace_2_123 : fieldPlaces env.P 123 2 = (some (9, 1)) := by kernel_rfl
@[simp] theorem tsize_130 : tsize env.P 130 = (some 1) := by kernel_rfl
@[simp] theorem tagg_130 : tagg env.P 130 = (some false) := by kernel_rfl
@[simp] theorem telem_130 : telem env.P 130 = none := by kernel_rfl
@[simp] theorem tarr_130 : tarr env.P 130 = none := by kernel_rfl
@[simp] theorem isStr_130 : isStr env.P 130 = false := by kernel_rfl
@[simp] theorem tzero_130 : tzero env.P 130 = (some (.v .nilFunc)) := by kernel_rfl
@[simp] theorem tbytes_130 : tbytes env.P 130 = (some 8) := by kernel_rfl
@[simp] theorem apT_130 : apT env.P 130 = true := by kernel_rfl
@[simp] theorem leafT_130 : leafT env.P 130 = none := by kernel_rfl
@[simp] theorem fieldTys_130 : fieldTys env.P 130 = none := by kernel_rfl
@[simp] theorem isBool_130 : isBool env.P 130 = false := by kernel_rfl
@[simp] theorem plain_130 : plain env.P 20 130 = false := by kernel_rfl
@[simp] theorem isInt_130 : isInt env.P 130 = false := by kernel_rfl
@[simp] theorem intKind_130 : intKind env.P 130 = none := by kernel_rfl
@[simp] theorem isBys_130 : isByteSlice env.P 130 = false := by kernel_rfl
@[simp] theorem undS_130 : (env.P.underlying 130).isNone = false := by kernel_rfl
@[simp] theorem tsize_135 : tsize env.P 135 = (some 1) := by kernel_rfl
@[simp] theorem tagg_135 : tagg env.P 135 = (some false) := by kernel_rfl
@[simp] theorem telem_135 : telem env.P 135 = none := by kernel_rfl
@[simp] theorem tarr_135 : tarr env.P 135 = none := by kernel_rfl
@[simp] theorem isStr_135 : isStr env.P 135 = false := by kernel_rfl
@[simp] theorem tzero_135 : tzero env.P 135 = (some (.v .nilFunc)) := by kernel_rfl
@[simp] theorem tbytes_135 : tbytes env.P 135 = (some 8) := by kernel_rfl
@[simp] theorem apT_135 : apT env.P 135 = true := by kernel_rfl
@[simp] theorem leafT_135 : leafT env.P 135 = none := by kernel_rfl
@[simp] theorem fieldTys_135 : fieldTys env.P 135 = none := by kernel_rfl
@[simp] theorem isBool_135 : isBool env.P 135 = false := by kernel_rfl
@[simp] theorem plain_135 : plain env.P 20 135 = false := by kernel_rfl
@[simp] theorem isInt_135 : isInt env.P 135 = false := by kernel_rfl
@[simp] theorem intKind_135 : intKind env.P 135 = none := by kernel_rfl
@[simp] theorem isBys_135 : isByteSlice env.P 135 = false := by kernel_rfl
@[simp] theorem undS_135 : (env.P.underlying 135).isNone = false := by kernel_rfl
@[simp] theorem tsize_156 : tsize env.P 156 = (some 1) := by kernel_rfl
@[simp] theorem tagg_156 : tagg env.P 156 = (some false) := by kernel_rfl
@[simp] theorem telem_156 : telem env.P 156 = (some 33) := by kernel_rfl
@[simp] theorem tarr_156 : tarr env.P 156 = none := by kernel_rfl
@[simp] theorem isStr_156 : isStr env.P 156 = false := by kernel_rfl
@[simp] theorem tzero_156 : tzero env.P 156 = (some (.v (.slice none 0 0))) := by kernel_rfl
@[simp] theorem tbytes_156 : tbytes env.P 156 = (some 24) := by kernel_rfl
@[simp] theorem apT_156 : apT env.P 156 = true := by kernel_rfl
@[simp] theorem leafT_156 : leafT env.P 156 = none := by kernel_rfl
@[simp] theorem fieldTys_156 : fieldTys env.P 156 = none := by kernel_rfl
@[simp] theorem isBool_156 : isBool env.P 156 = false := by kernel_rfl
@[simp] theorem plain_156 : plain env.P 20 156 = true := by kernel_rfl
@[simp] theorem elT_156 : elT env.P 156 10 80 = true := by kernel_rfl
@[simp] theorem elOk_156 : elOk env.P 156 = true := by kernel_rfl
@[simp] theorem elZ_156 : elZ env.P 156 = 10 := by kernel_rfl
@[simp] theorem elBy_156 : elBy env.P 156 = 80 := by kernel_rfl
@[simp] theorem elZero_156 : elZero env.P 156 = (.agg [(a8 0), (a32 0), (a8 0), (.v (.int .i64 0)), (.v (.int .i64 0)), (a8 0), (a32 0), (a8 0), (.v (.int .i64 0)), (.v (.slice none 0 0))]) := by kernel_rfl
@[simp] theorem isInt_156 : isInt env.P 156 = false := by kernel_rfl
@[simp] theorem intKind_156 : intKind env.P 156 = none := by kernel_rfl
@[simp] theorem isBys_156 : isByteSlice env.P 156 = false := by kernel_rfl
@[simp] theorem undS_156 : (env.P.underlying 156).isNone = false := by kernel_rfl
@[simp] theorem tsize_159 : tsize env.P 159 = (some 1) := by kernel_rfl
@[simp] theorem tagg_159 : tagg env.P 159 = (some false) := by kernel_rfl
@[simp] theorem telem_159 : telem env.P 159 = none := by kernel_rfl
@[simp] theorem tarr_159 : tarr env.P 159 = none := by kernel_rfl
@[simp] theorem isStr_159 : isStr env.P 159 = false := by kernel_rfl
@[simp] theorem tzero_159 : tzero env.P 159 = (some (.v .nilFunc)) := by kernel_rfl
@[simp] theorem tbytes_159 : tbytes env.P 159 = (some 8) := by kernel_rfl
@[simp] theorem apT_159 : apT env.P 159 = true := by kernel_rfl
@[simp] theorem leafT_159 : leafT env.P 159 = none := by kernel_rfl
@[simp] theorem fieldTys_159 : fieldTys env.P 159 = none := by kernel_rfl
@[simp] theorem isBool_159 : isBool env.P 159 = false := by kernel_rfl
@[simp] theorem plain_159 : plain env.P 20 159 = false := by kernel_rfl
@[simp] theorem isInt_159 : isInt env.P 159 = false := by kernel_rfl
@[simp] theorem intKind_159 : intKind env.P 159 = none := by kernel_rfl
@[simp] theorem isBys_159 : isByteSlice env.P 159 = false := by kernel_rfl
@[simp] theorem undS_159 : (env.P.underlying 159).isNone = false := by kernel_rfl
@[simp] theorem tsize_161 : tsize env.P 161 = (some 1) := by kernel_rfl
@[simp] theorem tagg_161 : tagg env.P 161 = (some false) := by kernel_rfl
@[simp] theorem telem_161 : telem env.P 161 = none := by kernel_rfl
@[simp] theorem tarr_161 : tarr env.P 161 = none := by kernel_rfl
@[simp] theorem isStr_161 : isStr env.P 161 = false := by kernel_rfl
@[simp] theorem tzero_161 : tzero env.P 161 = (some (.v .nilFunc)) := by kernel_rfl
@[simp] theorem tbytes_161 : tbytes env.P 161 = (some 8) := by kernel_rfl
@[simp] theorem apT_161 : apT env.P 161 = true := by kernel_rfl
@[simp] theorem leafT_161 : leafT env.P 161 = none := by kernel_rfl
@[simp] theorem fieldTys_161 : fieldTys env.P 161 = none := by kernel_rfl
@[simp] theorem isBool_161 : isBool env.P 161 = false := by kernel_rfl
@[simp] theorem plain_161 : plain env.P 20 161 = false := by kernel_rfl
@[simp] theorem isInt_161 : isInt env.P 161 = false := by kernel_rfl
@[simp] theorem intKind_161 : intKind env.P 161 = none := by kernel_rfl
@[simp] theorem isBys_161 : isByteSlice env.P 161 = false := by kernel_rfl
@[simp] theorem undS_161 : (env.P.underlying 161).isNone = false := by kernel_rfl
@[simp] theorem tsize_163 : tsize env.P 163 = (some 2) := by kernel_rfl
@[simp] theorem tagg_163 : tagg env.P 163 = (some true) := by kernel_rfl
@[simp] theorem telem_163 : telem env.P 163 = none := by kernel_rfl
@[simp] theorem tarr_163 : tarr env.P 163 = none := by kernel_rfl
@[simp] theorem isStr_163 : isStr env.P 163 = false := by kernel_rfl
@[simp] theorem tzero_163 : tzero env.P 163 = (some (.agg [(.v .nilFunc), (.v .nilFunc)])) := by kernel_rfl
@[simp] theorem tbytes_163 : tbytes env.P 163 = (some 16) := by kernel_rfl
@[simp] theorem apT_163 : apT env.P 163 = true := by kernel_rfl
@[simp] theorem leafT_163 : leafT env.P 163 = none := by kernel_rfl
@[simp] theorem fieldTys_163 : fieldTys env.P 163 = (some [130, 161]) := by kernel_rfl
@[simp] theorem isBool_163 : isBool env.P 163 = false := by kernel_rfl
@[simp] theorem plain_163 : plain env.P 20 163 = false := by kernel_rfl
@[simp] theorem isInt_163 : isInt env.P 163 = false := by kernel_rfl
@[simp] theorem intKind_163 : intKind env.P 163 = none := by kernel_rfl
@[simp] theorem isBys_163 : isByteSlice env.P 163 = false := by kernel_rfl
@[simp] theorem undS_163 : (env.P.underlying 163).isNone = false := by kernel_rfl
@[simp] theorem places_163 : placesOf env.P 163 = (some [(0, 1), (1, 1)]) := by kernel_rfl
@[simp] theorem tfield_0_163 : tfield env.P 163 0 = (some (0, 130)) := by kernel_rfl
@[simp] theorem fplace_0_163 : fieldPlaces env.P 163 0 = (some (0, 1)) := by kernel_rfl
@[simp] theorem tfield_1_163 : tfield env.P 163 1 = (some (1, 161)) := by kernel_rfl
@[simp] theorem fplace_1_163 : fieldPlaces env.P 163 1 = (some (1, 1)) := by kernel_rfl
@[simp] theorem tsize_164 : tsize env.P 164 = (some 8) := by kernel_rfl
@[simp] theorem tagg_164 : tagg env.P 164 = (some true) := by kernel_rfl
@[simp] theorem telem_164 : telem env.P 164 = none := by kernel_rfl
@[simp] theorem tarr_164 : tarr env.P 164 = (some (4, 163)) := by kernel_rfl
@[simp] theorem isStr_164 : isStr env.P 164 = false := by kernel_rfl
@[simp] theorem tzero_164 : tzero env.P 164 = (some (.agg [(.v .nilFunc), (.v .nilFunc), (.v .nilFunc), (.v .nilFunc), (.v .nilFunc), (.v .nilFunc), (.v .nilFunc), (.v .nilFunc)])) := by kernel_rfl
@[simp] theorem tbytes_164 : tbytes env.P 164 = (some 64) := by kernel_rfl
@[simp] theorem apT_164 : apT env.P 164 = true := by kernel_rfl
@[simp] theorem leafT_164 : leafT env.P 164 = none := by kernel_rfl
@[simp] theorem fieldTys_164 : fieldTys env.P 164 = none := by kernel_rfl
@[simp] theorem isBool_164 : isBool env.P 164 = false := by kernel_rfl
@[simp] theorem plain_164 : plain env.P 20 164 = false := by kernel_rfl
@[simp] theorem isInt_164 : isInt env.P 164 = false := by kernel_rfl
@[simp] theorem intKind_164 : intKind env.P 164 = none := by kernel_rfl
@[simp] theorem isBys_164 : isByteSlice env.P 164 = false := by kernel_rfl
@[simp] theorem undS_164 : (env.P.underlying 164).isNone = false := by kernel_rfl
@[simp] theorem tsize_172 : tsize env.P 172 = (some 1) := by kernel_rfl
@[simp] theorem tagg_172 : tagg env.P 172 = (some false) := by kernel_rfl
@[simp] theorem telem_172 : telem env.P 172 = none := by kernel_rfl
@[simp] theorem tarr_172 : tarr env.P 172 = none := by kernel_rfl
@[simp] theorem isStr_172 : isStr env.P 172 = false := by kernel_rfl
@[simp] theorem tzero_172 : tzero env.P 172 = (some (.v .nilFunc)) := by kernel_rfl
@[simp] theorem tbytes_172 : tbytes env.P 172 = (some 8) := by kernel_rfl
@[simp] theorem apT_172 : apT env.P 172 = true := by kernel_rfl
@[simp] theorem leafT_172 : leafT env.P 172 = none := by kernel_rfl
@[simp] theorem fieldTys_172 : fieldTys env.P 172 = none := by kernel_rfl
@[simp] theorem isBool_172 : isBool env.P 172 = false := by kernel_rfl
@[simp] theorem plain_172 : plain env.P 20 172 = false := by kernel_rfl
@[simp] theorem isInt_172 : isInt env.P 172 = false := by kernel_rfl
@[simp] theorem intKind_172 : intKind env.P 172 = none := by kernel_rfl
@[simp] theorem isBys_172 : isByteSlice env.P 172 = false := by kernel_rfl
@[simp] theorem undS_172 : (env.P.underlying 172).isNone = false := by kernel_rfl
@[simp] theorem tsize_173 : tsize env.P 173 = (some 1) := by kernel_rfl
@[simp] theorem tagg_173 : tagg env.P 173 = (some false) := by kernel_rfl
@[simp] theorem telem_173 : telem env.P 173 = none := by kernel_rfl
@[simp] theorem tarr_173 : tarr env.P 173 = none := by kernel_rfl
@[simp] theorem isStr_173 : isStr env.P 173 = false := by kernel_rfl
@[simp] theorem tzero_173 : tzero env.P 173 = (some (.v .nilFunc)) := by kernel_rfl
@[simp] theorem tbytes_173 : tbytes env.P 173 = (some 8) := by kernel_rfl
@[simp] theorem apT_173 : apT env.P 173 = true := by kernel_rfl
@[simp] theorem leafT_173 : leafT env.P 173 = none := by kernel_rfl
@[simp] theorem fieldTys_173 : fieldTys env.P 173 = none := by kernel_rfl
@[simp] theorem isBool_173 : isBool env.P 173 = false := by kernel_rfl
@[simp] theorem plain_173 : plain env.P 20 173 = false := by kernel_rfl
@[simp] theorem isInt_173 : isInt env.P 173 = false := by kernel_rfl
@[simp] theorem intKind_173 : intKind env.P 173 = none := by kernel_rfl
@[simp] theorem isBys_173 : isByteSlice env.P 173 = false := by kernel_rfl
@[simp] theorem undS_173 : (env.P.underlying 173).isNone = false := by kernel_rfl
@[simp] theorem tsize_176 : tsize env.P 176 = (some 1) := by kernel_rfl
@[simp] theorem tagg_176 : tagg env.P 176 = (some false) := by kernel_rfl
@[simp] theorem telem_176 : telem env.P 176 = (some 28) := by kernel_rfl
@[simp] theorem tarr_176 : tarr env.P 176 = none := by kernel_rfl
@[simp] theorem isStr_176 : isStr env.P 176 = false := by kernel_rfl
@[simp] theorem tzero_176 : tzero env.P 176 = (some (.v (.slice none 0 0))) := by kernel_rfl
@[simp] theorem tbytes_176 : tbytes env.P 176 = (some 24) := by kernel_rfl
@[simp] theorem apT_176 : apT env.P 176 = true := by kernel_rfl
@[simp] theorem leafT_176 : leafT env.P 176 = none := by kernel_rfl
@[simp] theorem fieldTys_176 : fieldTys env.P 176 = none := by kernel_rfl
@[simp] theorem isBool_176 : isBool env.P 176 = false := by kernel_rfl
@[simp] theorem plain_176 : plain env.P 20 176 = true := by kernel_rfl
@[simp] theorem elT_176 : elT env.P 176 4 24 = true := by kernel_rfl
@[simp] theorem elOk_176 : elOk env.P 176 = true := by kernel_rfl
@[simp] theorem elZ_176 : elZ env.P 176 = 4 := by kernel_rfl
@[simp] theorem elBy_176 : elBy env.P 176 = 24 := by kernel_rfl
@[simp] theorem elZero_176 : elZero env.P 176 = (.agg [(a8 0), (a32 0), (a8 0), (.v (.int .i64 0))]) := by kernel_rfl
@[simp] theorem isInt_176 : isInt env.P 176 = false := by kernel_rfl
@[simp] theorem intKind_176 : intKind env.P 176 = none := by kernel_rfl
@[simp] theorem isBys_176 : isByteSlice env.P 176 = false := by kernel_rfl
@[simp] theorem undS_176 : (env.P.underlying 176).isNone = false := by kernel_rfl
@[simp] theorem tsize_190 : tsize env.P 190 = (some 1) := by kernel_rfl
@[simp] theorem tagg_190 : tagg env.P 190 = (some false) := by kernel_rfl
@[simp] theorem telem_190 : telem env.P 190 = none := by kernel_rfl
@[simp] theorem tarr_190 : tarr env.P 190 = none := by kernel_rfl
@[simp] theorem isStr_190 : isStr env.P 190 = false := by kernel_rfl
@[simp] theorem tzero_190 : tzero env.P 190 = (some (.v (.int .u64 0))) := by kernel_rfl
@[simp] theorem tbytes_190 : tbytes env.P 190 = (some 8) := by kernel_rfl
@[simp] theorem apT_190 : apT env.P 190 = false := by kernel_rfl
@[simp] theorem leafT_190 : leafT env.P 190 = (some 1) := by kernel_rfl
@[simp] theorem fieldTys_190 : fieldTys env.P 190 = none := by kernel_rfl
@[simp] theorem isBool_190 : isBool env.P 190 = false := by kernel_rfl
@[simp] theorem plain_190 : plain env.P 20 190 = true := by kernel_rfl
@[simp] theorem isInt_190 : isInt env.P 190 = true := by kernel_rfl
@[simp] theorem intKind_190 : intKind env.P 190 = (some .u64) := by kernel_rfl
@[simp] theorem isBys_190 : isByteSlice env.P 190 = false := by kernel_rfl
@[simp] theorem undS_190 : (env.P.underlying 190).isNone = false := by kernel_rfl
end Go.Proofs.Ytjampffmlnplcaa
