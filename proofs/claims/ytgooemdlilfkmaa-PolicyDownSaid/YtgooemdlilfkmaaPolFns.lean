/-
  The functions of policy: what they answer. No statement of a seat is proved here.
-/
import Derived.Test.YtgooemdlilfkmaaPolLabel
set_option linter.unusedVariables false
set_option linter.unusedSimpArgs false
set_option maxRecDepth 100000
namespace Go.Proofs.Ytgooemdlilfkmaa
open Go.Ab

structure Clear where
  lv : UInt8
  cats : UInt32
  ok : Bool
structure Quota where
  lv : UInt8
  cats : UInt32
  opens : Int
  ops : Int
  cells : Int
def Clear.enc (c : Clear) : List AV := [a8 c.lv, a32 c.cats, aB c.ok]
def Quota.enc (q : Quota) : List AV := [a8 q.lv, a32 q.cats, aI q.opens, aI q.ops, aI q.cells]
def encCs (l : List Clear) : List AV := l.map fun c => .agg c.enc
def encQs (l : List Quota) : List AV := l.map fun q => .agg q.enc
@[simp] theorem encCs_len (l : List Clear) : (encCs l).length = l.length := by simp [encCs]
@[simp] theorem encQs_len (l : List Quota) : (encQs l).length = l.length := by simp [encQs]
theorem read_C {l : List Clear} {i : Nat} (h : i < l.length) : readAt (encCs l) i 0 3 true = some (.agg [a8 l[i].lv, a32 l[i].cats, aB l[i].ok]) := by
  have : (encCs l)[i]? = some (.agg l[i].enc) := by unfold encCs; rw [List.getElem?_map, List.getElem?_eq_getElem h]; rfl
  simp [readAt, this, Clear.enc]
theorem read_Q {l : List Quota} {i : Nat} (h : i < l.length) : readAt (encQs l) i 0 5 true = some (.agg [a8 l[i].lv, a32 l[i].cats, aI l[i].opens, aI l[i].ops, aI l[i].cells]) := by
  have : (encQs l)[i]? = some (.agg l[i].enc) := by unfold encQs; rw [List.getElem?_map, List.getElem?_eq_getElem h]; rfl
  simp [readAt, this, Quota.enc]
/-- A quota's label. -/
theorem read_QL {l : List Quota} {i : Nat} (h : i < l.length) : readAt (encQs l) i 0 2 true = some (.agg [a8 l[i].lv, a32 l[i].cats]) := by
  have : (encQs l)[i]? = some (.agg l[i].enc) := by unfold encQs; rw [List.getElem?_map, List.getElem?_eq_getElem h]; rfl
  simp [readAt, this, Quota.enc]
theorem read_CL {l : List Clear} {i : Nat} (h : i < l.length) : readAt (encCs l) i 0 2 true = some (.agg [a8 l[i].lv, a32 l[i].cats]) := by
  have : (encCs l)[i]? = some (.agg l[i].enc) := by unfold encCs; rw [List.getElem?_map, List.getElem?_eq_getElem h]; rfl
  simp [readAt, this, Clear.enc]

/- ## Bools -/
def encBs (l : List Bool) : List AV := l.map aB
def idxFrom (b : Bool) : List Bool → Nat → Int
  | [], _ => -1
  | x :: l, k => if b = x then k else idxFrom b l (k + 1)
theorem idx_has (b : Bool) : ∀ (l : List Bool) (k : Nat), (0 ≤ idxFrom b l k ↔ l.contains b = true) := by
  intro l
  induction l with
  | nil => intro k; simp [idxFrom]
  | cons x l ih =>
    intro k
    unfold idxFrom
    split
    · rename_i e; subst e; simp
    · rename_i e
      rw [ih (k + 1)]
      have : (b == x) = false := by cases b <;> cases x <;> simp_all
      simp only [List.contains_cons, this, Bool.false_or]

theorem index_loop {x0 : AV} {b : Bool} {H : Heap} {Q : AV → Heap → Prop} {l : List Bool} (hx : Sl 1 (encBs l) x0) (hl : l.length < 9000000000000000000) : ∀ (d k : Nat), k + d = l.length →
    Q (aI (idxFrom b (l.drop k) k)) H →
    GoL env Try.f80 0 hd_slices_Index___bool_bool__2 [(8, aI k), (0, x0), (1, aB b), (7, aI l.length)] H Q := by
  intro d
  induction d with
  | zero =>
    intro k hk h
    refine vc_slices_Index___bool_bool__2 _ _ _ _ _ _ fun g => ?_
    obtain rfl : k = l.length := by omega
    simp [VC_slices_Index___bool_bool__2]
    simpa [idxFrom] using h
  | succ d ih =>
    intro k hk h
    refine vc_slices_Index___bool_bool__2 _ _ _ _ _ _ fun g => ?_
    have hk2 : k < l.length := by omega
    obtain ⟨c, rfl, _⟩ := hx.isl (i := k) (by simpa [encBs] using hk2)
    have hrd : readAt (encBs l) k 0 1 false = some (aB l[k]) := readAt_one (e := aB l[k]) (by unfold encBs; rw [List.getElem?_map, List.getElem?_eq_getElem hk2]; rfl) rfl
    have hlen : (encBs l).length = l.length := by simp [encBs]
    simp [VC_slices_Index___bool_bool__2, hk2, hrd, hlen, br_ite, IntWalk.i64_in ((k : Int) + 1) (by omega)]
    rw [List.drop_eq_getElem_cons hk2] at h
    unfold idxFrom at h
    split
    · rename_i e
      rwa [if_pos e] at h
    · rename_i e
      rw [if_neg e] at h
      exact ih (k + 1) (by omega) h

theorem slices_Index_bool {x0 : AV} {l : List Bool} (b : Bool) (hx : Sl 1 (encBs l) x0) (hl : l.length < 9000000000000000000) : limf env 80 [x0, aB b] = some (aI (idxFrom b l 0)) := by
  refine limf_of (fn := Try.f80) (c := bd_slices_Index___bool_bool_) rfl (by kernel_rfl) (by kernel_rfl) (by kernel_rfl) (by kernel_rfl) ?_
  refine vc_slices_Index___bool_bool_ _ _ _ _ fun g => ?_
  have hlen : (encBs l).length = l.length := by simp [encBs]
  simp [VC_slices_Index___bool_bool_, hx.len, hlen]
  refine index_loop hx hl l.length 0 (by simp) ?_
  refine handed0 rfl ?_
  simp [depth_eq]

theorem slices_Contains_bool {x0 : AV} {l : List Bool} (b : Bool) (hx : Sl 1 (encBs l) x0) (hl : l.length < 9000000000000000000) : limf env 71 [x0, aB b] = some (aB (l.contains b)) := by
  refine limf_of (fn := Try.f71) (c := bd_slices_Contains___bool_bool_) rfl (by kernel_rfl) (by kernel_rfl) (by kernel_rfl) (by kernel_rfl) ?_
  refine vc_slices_Contains___bool_bool_ _ _ _ _ fun g => ?_
  simp only [VC_slices_Contains___bool_bool_]
  refine doW_call (xs := [x0, aB b]) (y := aI (idxFrom b l 0)) rfl (by simp [depth_eq, hx.view]) (slices_Index_bool b hx hl) rfl ?_
  simp
  refine handed0 rfl ?_
  have := idx_has b l 0
  simp [depth_eq, this]

theorem policy_all {x0 : AV} {l : List Bool} (hx : Sl 1 (encBs l) x0) (hl : l.length < 9000000000000000000) : limf env 48 [x0] = some (aB (l.all id)) := by
  refine limf_of (fn := Try.f48) (c := bd_policy_all) rfl (by kernel_rfl) (by kernel_rfl) (by kernel_rfl) (by kernel_rfl) ?_
  refine vc_policy_all _ _ _ fun g => ?_
  simp only [VC_policy_all]
  refine doW_call (xs := [x0, aB false]) (y := aB (l.contains false)) rfl (by simp [depth_eq, hx.view]) (slices_Contains_bool false hx hl) rfl ?_
  simp
  refine handed0 rfl ?_
  have : (!l.contains false) = l.all id := by
    clear hx hl
    induction l with
    | nil => rfl
    | cons b l ih => cases b <;> simp_all
  rw [← this]
  simp [depth_eq]

def clearB (v : UInt8) (c : UInt32) (ok : Bool) : Bool := decide (v ≤ 15) && (ok || (decide (v = 0) && decide (c = 0)))
theorem policy_clear (v : UInt8) (c : UInt32) (ok : Bool) : limf env 50 [.agg [a8 v, a32 c, aB ok]] = some (aB (clearB v c ok)) := by
  refine limf_of (fn := Try.f50) (c := bd_policy_clear) rfl (by kernel_rfl) (by kernel_rfl) (by kernel_rfl) (by kernel_rfl) ?_
  refine vc_policy_clear _ _ _ fun g => ?_
  simp [VC_policy_clear]
  refine doW_call (xs := [.agg [a8 v, a32 c]]) (y := aI (lcheck v)) rfl (by simp [depth_eq]) (label_Check v c) rfl ?_
  unfold lcheck
  by_cases h : 15 < v
  · have h' : ¬ v ≤ 15 := UInt8.not_le.2 h
    simp [h]
    refine handed0 rfl ?_
    simp [depth_eq, clearB, h']
  · have h' : v ≤ 15 := UInt8.not_lt.1 h
    cases ok
    · simp [h]
      refine doW_callF (xs := []) (y := .agg [a8 0, a32 0]) rfl (by simp) label_Least rfl (fun r => rfl) ?_
      simp [h, eqA, eqFs]
      refine handed0 rfl ?_
      simp [depth_eq, clearB, h']
    · simp [h]
      refine handed0 rfl ?_
      simp [depth_eq, clearB, h']

/-- A policy's blocks, as they are added up. -/
def addQ (n : Int) (q : Quota) : Int := IntKind.i64.wrap (n + IntKind.i64.wrap (q.opens + IntKind.i64.wrap (4 * q.ops)))
def blocksOf (n : Int) (l : List Quota) : Int := l.foldl addQ n

theorem blocks_loop {x9 : AV} {Q : AV → Heap → Prop} {l : List Quota} (hx : Sl 5 (encQs l) x9) (hl : l.length < 9000000000000000000) : ∀ (d k : Nat) (n : Int) (H : Heap), k + d = l.length →
    (∀ H', Q (aI (blocksOf n (l.drop k))) H') →
    GoL env Try.f52 0 hd_policy_blocks_3 [(11, aI k), (3, aI n), (9, x9), (10, aI l.length)] H Q := by
  intro d
  induction d with
  | zero =>
    intro k n H hk h
    refine vc_policy_blocks_3 _ _ _ _ _ _ fun g => ?_
    obtain rfl : k = l.length := by omega
    simp [VC_policy_blocks_3]
    simpa [blocksOf] using h H
  | succ d ih =>
    intro k n H hk h
    refine vc_policy_blocks_3 _ _ _ _ _ _ fun g => ?_
    have hk2 : k < l.length := by omega
    obtain ⟨c, rfl, _⟩ := hx.isl (i := k) (by simpa using hk2)
    simp [VC_policy_blocks_3, hk2, read_Q hk2, IntWalk.i64_in ((k : Int) + 1) (by omega)]
    refine ih (k + 1) _ _ (by omega) fun H' => ?_
    have := h H'
    rw [List.drop_eq_getElem_cons hk2] at this
    exact this

theorem policy_blocks {xu xq : AV} {l : List Quota} {us : List AV} (gr : Int) (hu : Sl 3 us xu) (hx : Sl 5 (encQs l) xq) (hl : l.length < 9000000000000000000) : limf env 52 [.agg [xu, xq, aI gr]] = some (aI (blocksOf gr l)) := by
  refine limf_of (fn := Try.f52) (c := bd_policy_blocks) rfl (by kernel_rfl) (by kernel_rfl) (by kernel_rfl) (by kernel_rfl) ?_
  refine vc_policy_blocks _ _ _ fun g => ?_
  simp [VC_policy_blocks, hx.len, hx.cells, hu.cells]
  refine blocks_loop hx hl l.length 0 gr _ (by simp) fun H' => ?_
  refine handed0 rfl ?_
  simp [depth_eq]

end Go.Proofs.Ytgooemdlilfkmaa
