/-
  The facts on the program's types, computed. No statement of a seat is proved here.
-/
import Derived.Test.YtjampffmlnplcaaRows
import Derived.Test.YtjampffmlnplcaaAbsRules
import Derived.Test.YtjampffmlnplcaaInsRc
set_option linter.unusedVariables false
set_option maxRecDepth 1000000
namespace Go.Proofs.Ytjampffmlnplcaa
open Go.Ab
def fns : List FuncId := [12, 13, 54, 55, 57, 58, 60, 61, 62, 67, 99, 100, 101, 102, 108, 133, 134, 135, 154]
def keep : List FuncId := [67, 108]
def thr : List FuncId := [101]
def memo : List (FuncId × List AV × AV) := [(59, [], .v (.bool true))]
noncomputable def env : Env := envOf Try.prog fns keep thr (strictOf []) (tabApart []) (tabFrz []) memo (fun _ => false) (fun _ => none) (fun f args H => if f = 101 then insSpec Try.prog 91 40 args H else none)
theorem fnsFit : fnsOk env fns = true := by kernel_rfl
@[simp] theorem no_thr {f : FuncId} (h : thr.contains f = false) : (env.mode f == 2) = false := by
  show ((if keep.contains f then 1 else if thr.contains f then 2 else 0) == 2) = false
  rw [h]
  split <;> rfl
theorem mode0 {f : FuncId} (h : keep.contains f = false) : (env.mode f == 1) = false := by
  show ((if keep.contains f then 1 else if thr.contains f then 2 else 0) == 1) = false
  rw [h]
  cases thr.contains f <;> rfl
@[simp] theorem handed0 {f : FuncId} (h : keep.contains f = false) (x : AV) (H : Heap) (y : AV) : handed env f x H y ↔ view H.get depth x = some y := handed_of (mode0 h) x H y
theorem mode1 {f : FuncId} (h : keep.contains f = true) : (env.mode f == 1) = true := by
  show ((if keep.contains f then 1 else if thr.contains f then 2 else 0) == 1) = true
  rw [h]; rfl
@[simp] theorem handed1 {f : FuncId} (h : keep.contains f = true) (x : AV) (H : Heap) (y : AV) : handed env f x H y ↔ (viewRefs H.get depth x).Nodup ∧ exportA H.get depth x = some y := handed_keep (mode1 h) x H y
@[simp] theorem tsize_3 : tsize env.P 3 = (some 1) := by kernel_rfl
@[simp] theorem tagg_3 : tagg env.P 3 = (some false) := by kernel_rfl
@[simp] theorem intKind_3 : intKind env.P 3 = (some .i64) := by kernel_rfl
@[simp] theorem undS_3 : (env.P.underlying 3).isNone = false := by kernel_rfl
@[simp] theorem tsize_4 : tsize env.P 4 = (some 1) := by kernel_rfl
@[simp] theorem tagg_4 : tagg env.P 4 = (some false) := by kernel_rfl
@[simp] theorem isBool_4 : isBool env.P 4 = true := by kernel_rfl
@[simp] theorem tsize_5 : tsize env.P 5 = (some 1) := by kernel_rfl
@[simp] theorem tagg_5 : tagg env.P 5 = (some false) := by kernel_rfl
@[simp] theorem intKind_5 : intKind env.P 5 = (some .u8) := by kernel_rfl
@[simp] theorem isStr_9 : isStr env.P 9 = true := by kernel_rfl
@[simp] theorem tsize_91 : tsize env.P 91 = (some 1) := by kernel_rfl
@[simp] theorem tagg_91 : tagg env.P 91 = (some false) := by kernel_rfl
@[simp] theorem telem_91 : telem env.P 91 = (some 146) := by kernel_rfl
@[simp] theorem tarr_91 : tarr env.P 91 = none := by kernel_rfl
@[simp] theorem isStr_91 : isStr env.P 91 = false := by kernel_rfl
@[simp] theorem apT_91 : apT env.P 91 = true := by kernel_rfl
@[simp] theorem elOk_91 : elOk env.P 91 = true := by kernel_rfl
@[simp] theorem elZ_91 : elZ env.P 91 = 2 := by kernel_rfl
@[simp] theorem elBy_91 : elBy env.P 91 = 32 := by kernel_rfl
@[simp] theorem elZero_91 : elZero env.P 91 = (.agg [(.v (.int .i64 0)), (.v (.slice none 0 0))]) := by kernel_rfl
@[simp] theorem tsize_93 : tsize env.P 93 = (some 4) := by kernel_rfl
@[simp] theorem tagg_93 : tagg env.P 93 = (some true) := by kernel_rfl
@[simp] theorem tarr_93 : tarr env.P 93 = none := by kernel_rfl
@[simp] theorem tzero_93 : tzero env.P 93 = (some (.agg [(.v (.slice none 0 0)), (.v (.int .i64 0)), (.v (.int .i64 0)), (.v (.bool false))])) := by kernel_rfl
@[simp] theorem fieldTys_93 : fieldTys env.P 93 = (some [91, 3, 3, 4]) := by kernel_rfl
@[simp] theorem places_93 : placesOf env.P 93 = (some [(0, 1), (1, 1), (2, 1), (3, 1)]) := by kernel_rfl
@[simp] theorem fplace_0_93 : fieldPlaces env.P 93 0 = (some (0, 1)) := by kernel_rfl
@[simp] theorem fplace_1_93 : fieldPlaces env.P 93 1 = (some (1, 1)) := by kernel_rfl
@[simp] theorem fplace_2_93 : fieldPlaces env.P 93 2 = (some (2, 1)) := by kernel_rfl
@[simp] theorem fplace_3_93 : fieldPlaces env.P 93 3 = (some (3, 1)) := by kernel_rfl
@[simp] theorem tsize_98 : tsize env.P 98 = (some 1) := by kernel_rfl
@[simp] theorem tagg_98 : tagg env.P 98 = (some false) := by kernel_rfl
@[simp] theorem telem_98 : telem env.P 98 = (some 5) := by kernel_rfl
@[simp] theorem tarr_98 : tarr env.P 98 = none := by kernel_rfl
@[simp] theorem isStr_98 : isStr env.P 98 = false := by kernel_rfl
@[simp] theorem elOk_98 : elOk env.P 98 = true := by kernel_rfl
@[simp] theorem elZ_98 : elZ env.P 98 = 1 := by kernel_rfl
@[simp] theorem isBys_98 : isByteSlice env.P 98 = true := by kernel_rfl
@[simp] theorem tagg_106 : tagg env.P 106 = (some false) := by kernel_rfl
@[simp] theorem telem_106 : telem env.P 106 = (some 3) := by kernel_rfl
@[simp] theorem tarr_106 : tarr env.P 106 = none := by kernel_rfl
@[simp] theorem isStr_106 : isStr env.P 106 = false := by kernel_rfl
@[simp] theorem tsize_146 : tsize env.P 146 = (some 2) := by kernel_rfl
@[simp] theorem tagg_146 : tagg env.P 146 = (some true) := by kernel_rfl
@[simp] theorem tarr_146 : tarr env.P 146 = none := by kernel_rfl
@[simp] theorem tzero_146 : tzero env.P 146 = (some (.agg [(.v (.int .i64 0)), (.v (.slice none 0 0))])) := by kernel_rfl
@[simp] theorem tbytes_146 : tbytes env.P 146 = (some 32) := by kernel_rfl
@[simp] theorem fieldTys_146 : fieldTys env.P 146 = (some [3, 98]) := by kernel_rfl
@[simp] theorem places_146 : placesOf env.P 146 = (some [(0, 1), (1, 1)]) := by kernel_rfl
@[simp] theorem fplace_0_146 : fieldPlaces env.P 146 0 = (some (0, 1)) := by kernel_rfl
@[simp] theorem fplace_1_146 : fieldPlaces env.P 146 1 = (some (1, 1)) := by kernel_rfl
@[simp] theorem intKind_190 : intKind env.P 190 = (some .u64) := by kernel_rfl
@[simp] theorem undS_190 : (env.P.underlying 190).isNone = false := by kernel_rfl
end Go.Proofs.Ytjampffmlnplcaa
