/-
  Is a policy right, and what may a user: what these functions answer. No statement of a seat is proved here.
-/
import Derived.Test.YtgooemdlilfkmaaPolFns
set_option linter.unusedVariables false
set_option linter.unusedSimpArgs false
set_option maxRecDepth 100000
namespace Go.Proofs.Ytgooemdlilfkmaa
open Go.Ab

/- ## Calls as rules -/
section
variable (wk : Bool) (H : Heap) (r : Ref)
@[simp] theorem c_from (n m : Int) : callRes env wk (limf env) (limt env 0) H r (some (.fn (.func 49) [] [])) [aI n, aI m] = some (aB (decide (0 ≤ n) && decide (n ≤ m)), H) :=
  callRes_flat rfl (by simp [depth_eq]) (policy_from n m) rfl
@[simp] theorem c_LCheck (a : UInt8) (b : UInt32) : callRes env wk (limf env) (limt env 0) H r (some (.fn (.func 51) [] [])) [.agg [a8 a, a32 b]] = some (aI (lcheck a), H) :=
  callRes_flat (xs := [.agg [a8 a, a32 b]]) rfl (by simp [depth_eq]) (label_Check a b) rfl
@[simp] theorem c_Leq (a : UInt8) (b : UInt32) (c : UInt8) (d : UInt32) : callRes env wk (limf env) (limt env 0) H r (some (.fn (.func 19) [] [])) [.agg [a8 a, a32 b], .agg [a8 c, a32 d]] = some (aB (decide (a ≤ c) && decide (b &&& ~~~d = 0)), H) :=
  callRes_flat (xs := [.agg [a8 a, a32 b], .agg [a8 c, a32 d]]) rfl (by simp [depth_eq]) (label_Leq a b c d) rfl
@[simp] theorem c_Ahead (a : UInt8) (b : UInt32) (c : UInt8) (d : UInt32) : callRes env wk (limf env) (limt env 0) H r (some (.fn (.func 21) [] [])) [.agg [a8 a, a32 b], .agg [a8 c, a32 d]] = some (aB (decide (a < c) || (decide (a = c) && decide (b < d))), H) :=
  callRes_flat (xs := [.agg [a8 a, a32 b], .agg [a8 c, a32 d]]) rfl (by simp [depth_eq]) (label_Ahead a b c d) rfl
@[simp] theorem c_clear (v : UInt8) (c : UInt32) (ok : Bool) : callRes env wk (limf env) (limt env 0) H r (some (.fn (.func 50) [] [])) [.agg [a8 v, a32 c, aB ok]] = some (aB (clearB v c ok), H) :=
  callRes_flat (xs := [.agg [a8 v, a32 c, aB ok]]) rfl (by simp [depth_eq]) (policy_clear v c ok) rfl
@[simp] theorem c_all (l : List Bool) (n : Nat) (h : l.length ≤ n) (hl : l.length < 9000000000000000000) : callRes env wk (limf env) (limt env 0) H r (some (.fn (.func 48) [] [])) [.isl 1 (encBs l) (some n)] = some (aB (l.all id), H) :=
  callRes_flat (xs := [.isl 1 (encBs l) (some n)]) rfl (by simp [depth_eq]) (policy_all (.inr ⟨_, rfl, by simpa [encBs] using h⟩) hl) rfl
@[simp] theorem bs3 (a b c : Bool) : bsRes env.P true wk H r 114 3 (some [(0, aB a), (1, aB b), (2, aB c)]) = some (.isl 1 (encBs [a, b, c]) (some 3), H) := by
  rw [bs_plain (z := 1) (by' := 1) (zz := aB false) (es := encBs [a, b, c]) (by simp) (by simp) (by simp [viewParts, depth_eq]) rfl (by simp) (by simp) (by simp [fillSlice, encBs])]
  rfl
@[simp] theorem bs5 (a b c d e : Bool) : bsRes env.P true wk H r 114 5 (some [(0, aB a), (1, aB b), (2, aB c), (3, aB d), (4, aB e)]) = some (.isl 1 (encBs [a, b, c, d, e]) (some 5), H) := by
  rw [bs_plain (z := 1) (by' := 1) (zz := aB false) (es := encBs [a, b, c, d, e]) (by simp) (by simp) (by simp [viewParts, depth_eq]) rfl (by simp) (by simp) (by simp [fillSlice, encBs])]
  rfl
end

/- ## Check -/
def capC (c : Int) : Int := if 4096 < (if c < 0 then 0 else c) then 4096 else if c < 0 then 0 else c
def addC (n : Int) (q : Quota) : Int := IntKind.i64.wrap (n + capC q.cells)
def cellsOf (n : Int) (l : List Quota) : Int := l.foldl addC n
def finB (may : Bool) (gr : Int) (qs : List Quota) (cells : Int) : Bool := may && decide (blocksOf gr qs ≤ 2048) && decide (cells ≤ 8192)
def bad (b : Bool) : Int := if b = true then 0 else 8

def qOwn (q : Quota) : Bool := decide (lcheck q.lv = 0) && (decide (0 ≤ q.opens) && decide (q.opens ≤ 64) && (decide (0 ≤ q.ops) && decide (q.ops ≤ 256) && (decide (0 ≤ q.cells) && decide (q.cells ≤ 4096))))
def qAll (q : Quota) (b : Bool) : Bool := decide (lcheck q.lv = 0) && (decide (0 ≤ q.opens) && decide (q.opens ≤ 64) && (decide (0 ≤ q.ops) && decide (q.ops ≤ 256) && (decide (0 ≤ q.cells) && decide (q.cells ≤ 4096) && b)))
theorem qAll_eq (q : Quota) (b : Bool) : qAll q b = (qOwn q && b) := by simp only [qAll, qOwn, Bool.and_assoc]
def qBefore (p q : Quota) : Bool := decide (p.lv < q.lv) || (decide (p.lv = q.lv) && decide (p.cats < q.cats))
def qOkAt (qs : List Quota) (k : Nat) : Bool := match qs[k]? with
  | some q => qOwn q && (decide (k = 0) || (match qs[k - 1]? with
      | some p => qBefore p q
      | none => false))
  | none => false
theorem qOkAt_0 {qs : List Quota} (h : 0 < qs.length) : qOkAt qs 0 = qOwn qs[0] := by
  unfold qOkAt; rw [List.getElem?_eq_getElem h]; simp
theorem qOkAt_s {qs : List Quota} {k : Nat} (h : k < qs.length) (h0 : k ≠ 0) : qOkAt qs k = (qOwn qs[k] && qBefore (qs[k - 1]'(by omega)) qs[k]) := by
  unfold qOkAt; rw [List.getElem?_eq_getElem h, List.getElem?_eq_getElem (show k - 1 < qs.length by omega)]; simp [h0]
/-- The policy's box. -/
def Box (H : Heap) (r : Ref) (xu xq : AV) (gr : Int) : Prop := H.get r = some ⟨3, [.agg [xu, xq, aI gr]], false, false⟩

section
variable {xu xq : AV} {us : List Clear} {qs : List Quota} {gr : Int} (hu : Sl 3 (encCs us) xu) (hq : Sl 5 (encQs qs) xq) (hql : qs.length < 9000000000000000000)
include hu hq hql

theorem check14 {x85 : AV} {r1 : Ref} {may : Bool} {Q : AV → Heap → Prop} {l : List Quota} (hx : Sl 5 (encQs l) x85) (hl : l.length < 9000000000000000000) : ∀ (d k : Nat) (n : Int) (H : Heap), k + d = l.length → Fr H → Box H r1 xu xq gr →
    (∀ H', Q (aI (bad (finB may gr qs (cellsOf n (l.drop k))))) H') →
    GoL env Try.f17 0 hd_policy_Check_14 [(87, aI k), (8, aI n), (85, x85), (1, .ptr r1 0 0), (3, aB may), (86, aI l.length)] H Q := by
  intro d
  induction d with
  | zero =>
    intro k n H hk hF hB h
    refine vc_policy_Check_14 _ _ _ _ _ _ _ _ fun g => ?_
    obtain rfl : k = l.length := by omega
    have hc := callRes_flat (E := env) (wk := true) (dep := 0) (H := H) (r := ⟨0, 102, H.gen 0 102, 0⟩) (f := 52) (args := [.agg [xu, xq, aI gr]]) (xs := [.agg [xu, xq, aI gr]]) rfl (by simp [depth_eq, hu.view, hq.view]) (policy_blocks gr hu hq hql) rfl
    unfold Box at hB
    simp only [List.drop_length] at h
    replace h := h H
    cases may
    · simp [VC_policy_Check_14]
      simpa [finB, bad] using h
    · simp [VC_policy_Check_14, hB, hc]
      by_cases h1 : 2048 < blocksOf gr qs
      · have : ¬ blocksOf gr qs ≤ 2048 := by omega
        simp [h1]
        simpa [finB, bad, this] using h
      · have h1' : blocksOf gr qs ≤ 2048 := by omega
        by_cases h2 : 8192 < n
        · have : ¬ n ≤ 8192 := by omega
          simp [h1, h2]
          simpa [finB, bad, h1', cellsOf, this] using h
        · have h2' : n ≤ 8192 := by omega
          simp [h1, h2]
          simpa [finB, bad, h1', cellsOf, h2'] using h
  | succ d ih =>
    intro k n H hk hF hB h
    refine vc_policy_Check_14 _ _ _ _ _ _ _ _ fun g => ?_
    have hk2 : k < l.length := by omega
    obtain ⟨c, rfl, _⟩ := hx.isl (i := k) (by simpa using hk2)
    simp [VC_policy_Check_14, hk2, read_Q hk2, IntWalk.i64_in ((k : Int) + 1) (by omega)]
    refine ih (k + 1) _ _ (by omega) (hF.cons 0 10 _) ?_ ?_
    · unfold Box at hB ⊢
      rw [Heap.get_cons, if_neg (live_ne hF (by rw [hB]; rfl) 0 10 0)]
      exact hB
    · intro H'
      have := h H'
      rw [List.drop_eq_getElem_cons hk2] at this
      exact this

def goQ (qs : List Quota) : Nat → Nat → Bool → Bool
  | 0, _, m => m
  | d + 1, k, m => goQ qs d (k + 1) (m && qOkAt qs k)

omit hu hq hql in
theorem step8 {r1 : Ref} {Q : AV → Heap → Prop} {c : Option Nat} {k : Nat} {H : Heap} (hk2 : k < qs.length) (hl : qs.length < 9000000000000000000) (hF : Fr H) (hB : Box H r1 xu (.isl 5 (encQs qs) c) gr)
    (hn : ∀ (i : Int) (b : Bool) H', Fr H' → Box H' r1 xu (.isl 5 (encQs qs) c) gr → i = ((k + 1 : Nat) : Int) → b = qOkAt qs k →
      GoL env Try.f17 0 hd_policy_Check_8 [(40, aI i), (1, .ptr r1 0 0), (3, aB b), (38, .isl 5 (encQs qs) c), (39, aI qs.length)] H' Q) :
    GoL env Try.f17 0 hd_policy_Check_8 [(40, aI k), (1, .ptr r1 0 0), (3, aB true), (38, .isl 5 (encQs qs) c), (39, aI qs.length)] H Q := by
  have hB' := hB
  unfold Box at hB
  have hne := live_ne hF (q := r1) (by rw [hB]; rfl) 0 7 0
  refine vc_policy_Check_8 _ _ _ _ _ _ _ fun g => ?_
  by_cases hk0 : k = 0
  · subst hk0
    have e : IntKind.i64.wrap 1 = 1 := rfl
    simp [VC_policy_Check_8, hk2, read_Q hk2, e]
    refine hn _ _ _ (hF.cons 0 7 _) (by unfold Box; rw [Heap.get_cons, if_neg hne]; exact hB) rfl ?_
    rw [qOkAt_0 hk2]
    simp [qOwn]
  · have hk1 : k - 1 < qs.length := by omega
    have e : IntKind.i64.wrap ((k : Int) - 1) = ((k - 1 : Nat) : Int) := by rw [IntWalk.i64_in _ (by omega)]; omega
    have e0 : ¬ ((k - 1 : Nat) : Int) < 0 := by omega
    simp [VC_policy_Check_8, hk2, read_Q hk2, read_QL hk1, hk0, hk1, e, e0, hne, hB, IntWalk.i64_in ((k : Int) + 1) (by omega)]
    refine hn _ _ _ (hF.cons 0 7 _) (by unfold Box; rw [Heap.get_cons, if_neg hne]; exact hB) (by omega) ?_
    rw [qOkAt_s hk2 hk0, ← qAll_eq]
    simp [qAll, qBefore]

theorem check8 {r1 : Ref} {Q : AV → Heap → Prop} : ∀ (d k : Nat) (may : Bool) (H : Heap), k + d = qs.length → Fr H → Box H r1 xu xq gr →
    (∀ H', Q (aI (bad (finB (goQ qs d k may) gr qs (cellsOf 0 (qs.take 8))))) H') →
    GoL env Try.f17 0 hd_policy_Check_8 [(40, aI k), (1, .ptr r1 0 0), (3, aB may), (38, xq), (39, aI qs.length)] H Q := by
  intro d
  induction d with
  | zero =>
    intro k may H hk hF hB h
    refine vc_policy_Check_8 _ _ _ _ _ _ _ fun g => ?_
    obtain rfl : k = qs.length := by omega
    have hB' := hB
    unfold Box at hB
    have hmin : (if (8 : Int) < qs.length then (8 : Int) else qs.length) = ((min 8 qs.length : Nat) : Int) := by split <;> omega
    have hs := slice_to (P := env.P) (t := 31) (z := 5) (by simp) H.get hq (n := ((min 8 qs.length : Nat) : Int)) (by omega) (by simp; omega)
    obtain ⟨y, ey, sy⟩ := hs
    have ht : (encQs qs).take (min 8 qs.length) = encQs (qs.take 8) := by
      unfold encQs; rw [← List.map_take]; congr 1
      rcases Nat.le_total 8 qs.length with h | h
      · rw [Nat.min_eq_left h]
      · rw [Nat.min_eq_right h, List.take_of_length_le (Nat.le_refl _), List.take_of_length_le h]
    rw [Int.toNat_natCast, ht] at sy
    simp only [VC_policy_Check_8]
    simp [hB, hq.len, hmin, ey, sy.len]
    have hl8 : (qs.take 8).length = min 8 qs.length := List.length_take
    rw [← hl8]
    exact check14 hu hq hql sy (by omega) (qs.take 8).length 0 0 H (by omega) hF hB' (fun H' => by simpa [goQ] using h H')
  | succ d ih =>
    intro k may H hk hF hB h
    have hk2 : k < qs.length := by omega
    have hB' := hB
    unfold Box at hB
    have hlen := hq.len
    have hq' := hq
    obtain ⟨c, rfl, _⟩ := hq'.isl (i := k) (by simpa using hk2)
    have hne := live_ne hF (q := r1) (by rw [hB]; rfl) 0 7 0
    have hF' := hF.cons 0 7 (some ⟨5, [.agg qs[k].enc], false, false⟩)
    have hBox : Box ((⟨0, 7, H.gen 0 7, 0⟩, some ⟨5, [.agg qs[k].enc], false, false⟩) :: H) r1 xu (.isl 5 (encQs qs) c) gr := by
      unfold Box; rw [Heap.get_cons, if_neg hne]; exact hB
    have hget : qs[k]? = some qs[k] := List.getElem?_eq_getElem hk2
    cases may
    · refine vc_policy_Check_8 _ _ _ _ _ _ _ fun g => ?_
      simp [VC_policy_Check_8, hk2, read_Q hk2, IntWalk.i64_in ((k : Int) + 1) (by omega)]
      refine ih (k + 1) false _ (by omega) hF' hBox fun H' => ?_
      have := h H'
      rw [goQ, Bool.false_and] at this
      exact this
    · refine step8 hk2 hql hF hB' fun i b H' hF' hB'' hi hb => ?_
      subst hi; subst hb
      refine ih (k + 1) (qOkAt qs k) H' (by omega) hF' hB'' fun H' => ?_
      have := h H'
      rw [goQ, Bool.true_and] at this
      exact this

def cOkAt (us : List Clear) (k : Nat) : Bool := match us[k]? with
  | some c => clearB c.lv c.cats c.ok
  | none => false
def goC (us : List Clear) : Nat → Nat → Bool → Bool
  | 0, _, m => m
  | d + 1, k, m => goC us d (k + 1) (m && cOkAt us k)

theorem check3 (hul : us.length < 9000000000000000000) {r1 : Ref} {Q : AV → Heap → Prop} : ∀ (d k : Nat) (may : Bool) (H : Heap), k + d = us.length → Fr H → Box H r1 xu xq gr →
    (∀ H', Q (aI (bad (finB (goQ qs qs.length 0 (goC us d k may)) gr qs (cellsOf 0 (qs.take 8))))) H') →
    GoL env Try.f17 0 hd_policy_Check_3 [(27, aI k), (3, aB may), (25, xu), (1, .ptr r1 0 0), (26, aI us.length)] H Q := by
  intro d
  induction d with
  | zero =>
    intro k may H hk hF hB h
    refine vc_policy_Check_3 _ _ _ _ _ _ _ fun g => ?_
    obtain rfl : k = us.length := by omega
    have hB' := hB
    unfold Box at hB
    simp [VC_policy_Check_3, hB, hq.len]
    exact check8 hu hq hql qs.length 0 may H (by omega) hF hB' (fun H' => by simpa [goC] using h H')
  | succ d ih =>
    intro k may H hk hF hB h
    refine vc_policy_Check_3 _ _ _ _ _ _ _ fun g => ?_
    have hk2 : k < us.length := by omega
    have hB' := hB
    unfold Box at hB
    have hu' := hu
    obtain ⟨c, rfl, _⟩ := hu'.isl (i := k) (by simpa using hk2)
    have hne := live_ne hF (q := r1) (by rw [hB]; rfl) 0 5 0
    have hF' := hF.cons 0 5 (some ⟨3, [.agg [a8 us[k].lv, a32 us[k].cats, aB us[k].ok]], false, false⟩)
    have hBox : Box ((⟨0, 5, H.gen 0 5, 0⟩, some ⟨3, [.agg [a8 us[k].lv, a32 us[k].cats, aB us[k].ok]], false, false⟩) :: H) r1 (.isl 3 (encCs us) c) xq gr := by
      unfold Box; rw [Heap.get_cons, if_neg hne]; exact hB
    have hget : cOkAt us k = clearB us[k].lv us[k].cats us[k].ok := by unfold cOkAt; rw [List.getElem?_eq_getElem hk2]
    have hih := ih (k + 1) (may && cOkAt us k) _ (by omega) hF' hBox (fun H' => by
      have := h H'
      rw [goC] at this
      exact this)
    rw [hget] at hih
    cases may
    · simp [VC_policy_Check_3, hk2, read_C hk2, IntWalk.i64_in ((k : Int) + 1) (by omega)]
      simpa using hih
    · simp [VC_policy_Check_3, hk2, read_C hk2, IntWalk.i64_in ((k : Int) + 1) (by omega)]
      simpa using hih

def mayB (us : List Clear) (qs : List Quota) (gr : Int) : Bool :=
  finB (goQ qs qs.length 0 (goC us us.length 0 (decide ((us.length : Int) ≤ 8) && (decide ((qs.length : Int) ≤ 8) && (decide (0 ≤ gr) && decide (gr ≤ 64)))))) gr qs (cellsOf 0 (qs.take 8))

theorem policy_Check (hul : us.length < 9000000000000000000) : limf env 17 [.agg [xu, xq, aI gr]] = some (aI (bad (mayB us qs gr))) := by
  refine limf_of (fn := Try.f17) (c := bd_policy_Check) rfl (by kernel_rfl) (by kernel_rfl) (by kernel_rfl) (by kernel_rfl) ?_
  refine vc_policy_Check _ _ _ fun g => ?_
  simp [VC_policy_Check, hu.len, hq.len, hu.cells, hq.cells]
  refine check3 (gr := gr) hu hq hql hul us.length 0 _ _ (by omega) (Fr.nil.cons 0 1 _) ?_ ?_
  · unfold Box; simp
  · intro H'
    refine handed0 rfl ?_
    simp [depth_eq, mayB]

theorem policy_asked (hul : us.length < 9000000000000000000) (a : UInt8) (b : UInt32) : limf env 44 [.agg [xu, xq, aI gr], .agg [a8 a, a32 b]] = some (aI (if lcheck a > bad (mayB us qs gr) then lcheck a else bad (mayB us qs gr))) := by
  refine limf_of (fn := Try.f44) (c := bd_policy_asked) rfl (by kernel_rfl) (by kernel_rfl) (by kernel_rfl) (by kernel_rfl) ?_
  refine vc_policy_asked _ _ _ _ fun g => ?_
  simp [VC_policy_asked, hu.cells, hq.cells]
  refine doW_call (xs := [.agg [xu, xq, aI gr]]) (y := aI (bad (mayB us qs gr))) rfl (by simp [depth_eq, hu.view, hq.view]) (policy_Check hu hq hql hul) rfl ?_
  simp
  refine handed0 rfl ?_
  simp [depth_eq]

end
end Go.Proofs.Ytgooemdlilfkmaa
