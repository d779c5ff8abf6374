/-
  Disks by the document: what the functions answer. No statement of a seat is proved here.
-/
import Derived.Test.YtjampffmlnplcaaDskPut
set_option linter.unusedVariables false
set_option linter.unusedSimpArgs false
set_option linter.unusedSectionVars false
set_option linter.unnecessarySimpa false
set_option maxRecDepth 100000
namespace Go.Proofs.Ytjampffmlnplcaa
open Go.Ab
attribute [local simp] depth_eq callRes_V callG_frz keep thr appRes_G appFine_s appG_n appG_s roomB List.take_of_length_le
theorem limfQ_of {E : Env} {f : FuncId} {fn : Func} {c : Code} {args : List AV} {R : AV → Prop} (hsp : E.spec f args = none) (hal : E.allowed f = true) (hf : E.P.funcs[f]? = some fn) (hc : fn.body = some c) (hl : Nat.ble args.length fn.ntmps = true)
    (h : GoL E fn 0 [.code c] (argsL 0 args) [] fun x H => ∃ y, handed E f x H y ∧ R y) : ∃ y, limf E f args = some y ∧ R y := by
  obtain ⟨x, H, ⟨y, hQ, hR⟩, n, hn⟩ := h.h (fun _ => AV.undef) args fun i => (ofL_args args i).symm
  refine ⟨y, limf_eq.2 ⟨n, fun m hm => ?_⟩, hR⟩
  obtain ⟨st, h1, h2, h3⟩ := hn m hm
  subst h3
  unfold pureCall
  rw [hsp]
  unfold callIn
  simp only [hal, if_true, hf, hc, if_pos (Nat.le_of_ble_eq_true hl), h1, h2, Option.map_some]
  unfold handed at hQ
  split
  · rename_i h1
    rw [if_pos h1] at hQ
    rw [if_pos hQ.1]
    exact hQ.2
  · rename_i h1
    rw [if_neg h1] at hQ
    exact hQ
theorem rep_set (v : UInt8) (k j : Nat) : (List.replicate k v ++ List.replicate (j + 1) (0 : UInt8)).set k v = List.replicate (k + 1) v ++ List.replicate j 0 := by
  have h : (List.replicate k v).length = k := by simp
  rw [List.set_append_right _ _ (by omega), h, Nat.sub_self, List.replicate_succ, List.set_cons_zero, List.replicate_succ', List.append_assoc]
  rfl
theorem full_loop {v : UInt8} {r : Ref} {Q : AV → Heap → Prop} : ∀ (j k : Nat) (H : Heap), k + j = 128 → H.get r = some ⟨1, by8 (List.replicate k v ++ List.replicate j 0), true, false⟩ →
    (∀ H', H'.get r = some ⟨1, by8 (List.replicate 128 v), true, false⟩ → Q (.osl r 0 128 none) H') →
    GoL env Try.f57 0 hd_blindstamplaw12_full_3 [(4, aI k), (0, a8 v), (3, .osl r 0 128 none)] H Q := by
  intro j
  induction j with
  | zero =>
    intro k H hk h1 hQ
    obtain rfl : k = 128 := by omega
    have hq := hQ H (by simpa using h1)
    clear h1 hQ
    refine vc_blindstamplaw12_full_3 _ _ _ _ _ fun g => ?_
    have e : ((128 : Nat) : Int) = 128 := rfl
    rw [e]
    simp [new_ne, ne_new, new_ne1, ne_new1, gen_put', *, VC_blindstamplaw12_full_3]
  | succ j ih =>
    intro k H hk h1 hQ
    have hlt : k < 128 := by omega
    have hlt' : (k : Int) < 128 := by omega
    have hlen : (by8 (List.replicate k v ++ List.replicate (j + 1) (0 : UInt8))).length = 128 := by simp; omega
    have hw := writeAt_by8 (m := List.replicate k v ++ List.replicate (j + 1) (0 : UInt8)) (i := k) (by simp) v
    rw [rep_set, show (a8 v).cells = [a8 v] from rfl] at hw
    have ih' := ih (k + 1) (H.put r (some ⟨1, by8 (List.replicate (k + 1) v ++ List.replicate j 0), true, false⟩)) (by omega) (by rw [Heap.get_put, if_pos rfl]) hQ
    rw [show ((k + 1 : Nat) : Int) = (k : Int) + 1 from by omega] at ih'
    have e3 := IntWalk.i64_in ((k : Int) + 1) (by omega)
    generalize by8 (List.replicate k v ++ List.replicate (j + 1) (0 : UInt8)) = W at *
    generalize by8 (List.replicate (k + 1) v ++ List.replicate j (0 : UInt8)) = W2 at *
    clear ih
    refine vc_blindstamplaw12_full_3 _ _ _ _ _ fun g => ?_
    simp [new_ne, ne_new, new_ne1, ne_new1, gen_put', *, VC_blindstamplaw12_full_3]
theorem s_full (v : UInt8) : limf env 57 [a8 v] = some (.isl 1 (by8 (List.replicate 128 v)) none) := by
  refine limf_of (fn := Try.f57) (c := bd_blindstamplaw12_full) rfl (by kernel_rfl) (by kernel_rfl) (by kernel_rfl) (by kernel_rfl) ?_; refine vc_blindstamplaw12_full _ _ _ fun g => ?_
  have hmk := qMake_of (P := env.P) (t := 98) (z := 1) (by' := 1) (zz := a8 0) (r := ⟨0, 5, 0, 0⟩) (by kernel_rfl) (by kernel_rfl) (n := 128) (by decide) (by decide)
  obtain ⟨Z, hZ⟩ : ∃ Z : List AV, Z = List.replicate 128 (a8 0) := ⟨_, rfl⟩
  obtain ⟨Y, hY⟩ : ∃ Y : List UInt8, Y = List.replicate 128 v := ⟨_, rfl⟩
  have hYl : Y.length = 128 := by rw [hY]; simp
  have hl := full_loop (v := v) (r := ⟨0, 5, 0, 0⟩) (Q := fun y H' => handed env 57 y H' (.isl 1 (by8 Y) none)) 128 0 [(⟨0, 5, 0, 0⟩, some ⟨1, Z, true, false⟩)] rfl (by rw [hZ]; rfl) (fun H' h => by rw [← hY] at h; simp [h, hYl])
  rw [← hZ, show ((128 : Nat) : Int) = 128 from rfl] at hmk
  rw [← hY]
  clear hZ hY
  simp [new_ne, ne_new, new_ne1, ne_new1, gen_put', *, VC_blindstamplaw12_full]
  exact hl
section
variable {l : List Sec} {x : AV} {st lf : Int} {dd : Bool} (hx : Sl 2 (encS l) x) (hok : ∀ s ∈ l, SecOk s)
include hx hok
theorem great_loop {r1 : Ref} {Q : AV → Heap → Prop} {H : Heap} (h1 : H.get r1 = some ⟨4, [dsk x st lf dd], false, false⟩) (hQ : ∀ t : Bool, (t = false → l.length ≤ 200) → Q (aB t) H) : ∀ (j k : Nat) (n : Int), k + j = 300 → k ≤ l.length → 0 ≤ n → n ≤ 10000 * k →
    GoL env Try.f61 0 hd_blindstampref12_Great_3 [(4, aI k), (1, .ptr r1 0 0), (3, aI n)] H Q := by
  intro j
  induction j with
  | zero =>
    intro k n hk hkl h0 hn
    refine vc_blindstampref12_Great_3 _ _ _ _ _ fun g => ?_
    simp only [dsk] at h1
    obtain rfl : k = 300 := by omega
    simp [new_ne, ne_new, new_ne1, ne_new1, gen_put', *, VC_blindstampref12_Great_3, hx.r]
    repeat' ((first | refine br_of (fun h => ?_) (fun h => ?_) | refine gQ_oft (fun h => ?_) (fun h => ?_) | refine gQ_off (fun h => ?_) (fun h => ?_) | refine gW_oft (fun h => ?_) (fun h => ?_) | refine gW_off (fun h => ?_) (fun h => ?_)) <;> (try simp only [decide_eq_true_eq, decide_eq_false_iff_not, Bool.not_eq_true', Bool.not_eq_false', Bool.and_eq_true, Bool.or_eq_true] at h) <;> (try simp [new_ne, ne_new, new_ne1, ne_new1, gen_put', *, hx.r]))
    all_goals first | exact hQ true (fun h => by cases h) | exact hQ _ (fun _ => by omega)
  | succ j ih =>
    intro k n hk hkl h0 hn
    have e3 := IntWalk.i64_in ((k : Int) + 1) (by omega)
    refine vc_blindstampref12_Great_3 _ _ _ _ _ fun g => ?_
    simp only [dsk] at h1
    have k3 : (k : Int) < 300 := by omega
    by_cases hlt : k < l.length
    · have hp := (hok l[k] (List.getElem_mem _)).r
      have hrd : readAt (encS l) k 1 1 false = some l[k].av := by simp [encS, hlt, Sec.enc]
      simp [new_ne, ne_new, new_ne1, ne_new1, gen_put', *, VC_blindstampref12_Great_3, hx.r, hx.idx]
      obtain ⟨m, hm⟩ : ∃ m : Int, m = if 10000 < (l[k].bs.length : Int) then 10000 else (l[k].bs.length : Int) := ⟨_, rfl⟩
      have hm0 : 0 ≤ m ∧ m ≤ 10000 := by rw [hm]; split <;> omega
      have e4 := IntWalk.i64_in (n + m) (by omega)
      rw [← hm, e4]
      have h5 := ih (k + 1) (n + m) (by omega) (by omega) (by omega) (by omega)
      rw [show ((k + 1 : Nat) : Int) = (k : Int) + 1 from by omega] at h5
      exact h5
    · simp [new_ne, ne_new, new_ne1, ne_new1, gen_put', *, VC_blindstampref12_Great_3, hx.r, hx.idx]
      repeat' ((first | refine br_of (fun h => ?_) (fun h => ?_) | refine gQ_oft (fun h => ?_) (fun h => ?_) | refine gQ_off (fun h => ?_) (fun h => ?_) | refine gW_oft (fun h => ?_) (fun h => ?_) | refine gW_off (fun h => ?_) (fun h => ?_)) <;> (try simp only [decide_eq_true_eq, decide_eq_false_iff_not, Bool.not_eq_true', Bool.not_eq_false', Bool.and_eq_true, Bool.or_eq_true] at h) <;> (try simp [new_ne, ne_new, new_ne1, ne_new1, gen_put', *, hx.r]))
      all_goals first | exact hQ true (fun h => by cases h) | exact hQ _ (fun _ => by omega)
theorem s_Great : ∃ t : Bool, limf env 61 [dsk x st lf dd] = some (aB t) ∧ (t = false → l.length ≤ 200) := by
  have h : ∃ y, limf env 61 [dsk x st lf dd] = some y ∧ ∃ t : Bool, y = aB t ∧ (t = false → l.length ≤ 200) := by
    refine limfQ_of (fn := Try.f61) (c := bd_blindstampref12_Great) (by kernel_rfl) (by kernel_rfl) (by kernel_rfl) (by kernel_rfl) (by kernel_rfl) ?_
    refine vc_blindstampref12_Great _ _ _ fun g => ?_
    suffices h : ∀ Q : AV → Heap → Prop, (∀ t : Bool, (t = false → l.length ≤ 200) → Q (aB t) [(⟨0, 1, 0, 0⟩, some ⟨4, [dsk x st lf dd], false, false⟩)]) → VC_blindstampref12_Great g (dsk x st lf dd) [] Q from
      h _ fun t ht => ⟨aB t, by simp, t, rfl, ht⟩
    intro Q hQ
    have hl := great_loop (st := st) (lf := lf) (dd := dd) hx hok (r1 := ⟨0, 1, 0, 0⟩) (H := [(⟨0, 1, 0, 0⟩, some ⟨4, [dsk x st lf dd], false, false⟩)]) (Q := Q) (by simp) hQ 300 0 0 (by omega) (by omega) (by omega) (by omega)
    clear hQ
    simp only [dsk] at hl ⊢
    simp [new_ne, ne_new, new_ne1, ne_new1, gen_put', *, VC_blindstampref12_Great, hx.r]
    exact hl
  obtain ⟨y, h1, t, rfl, h2⟩ := h
  exact ⟨t, h1, h2⟩
end
theorem conv_by8 {l : List UInt8} {x : AV} (h : Sl 1 (by8 l) x) (g : Get) (r : Ref) : qConvert env.P g r 98 9 (some x) = some (sB l, []) := by
  rcases h with ⟨rfl, h⟩ | ⟨c, rfl, h⟩
  · have : l = [] := by simpa [by8] using h
    subst this
    simp
  · simp
def keyS (l : List Sec) : List (Int × List UInt8) := l.map fun s => (s.pos, s.bs)
section
variable {l m : List Sec} {x y : AV} (hx : Sl 2 (encS l) x) (hok : ∀ s ∈ l, SecOk s) (hy : Sl 2 (encS m) y) (hok2 : ∀ s ∈ m, SecOk s) (hl : l.length < 1000000)
include hx hok hy hok2 hl
theorem same_loop {r1 r2 : Ref} {Q : AV → Heap → Prop} {H : Heap} (h1 : H.get r1 = some ⟨4, [dsk x 0 0 false], false, false⟩) (h2 : H.get r2 = some ⟨4, [dsk y 0 0 false], false, false⟩) :
    ∀ (s t : List Sec) (k : Nat), l.drop k = s → m.drop k = t → k ≤ l.length → l.length = m.length → Q (aB (decide (keyS s = keyS t))) H →
    GoL env Try.f62 0 hd_blindstampref12_Same_4 [(5, aI k), (3, .ptr r2 0 0), (2, .ptr r1 0 0)] H Q := by
  simp only [dsk] at h1 h2
  intro s
  induction s with
  | nil =>
    intro t k hs ht hk hlm hQ
    obtain rfl := drop_nil hs hk
    have : t = [] := by rw [← ht]; exact List.drop_of_length_le (by omega)
    subst this
    refine vc_blindstampref12_Same_4 _ _ _ _ _ fun g => ?_
    simp [keyS] at hQ
    simp [new_ne, ne_new, new_ne1, ne_new1, gen_put', *, VC_blindstampref12_Same_4, hx.r, hy.r]
    done
  | cons p s ih =>
    intro t k hs ht hk hlm hQ
    obtain ⟨hlt, hg, hs', hg'⟩ := drop_cons hs
    cases t with
    | nil =>
      have := congrArg List.length ht
      simp at this
      omega
    | cons q t =>
      obtain ⟨hlt2, hq, ht', hq'⟩ := drop_cons ht
      have e3 := IntWalk.i64_in ((k : Int) + 1) (by omega)
      have ih' := ih t (k + 1) hs' ht' (by omega) hlm
      rw [show ((k + 1 : Nat) : Int) = (k : Int) + 1 from by omega] at ih'
      have r1 : readAt (encS l) k 0 1 false = some (aI p.pos) := by simp [encS, hg', Sec.enc]
      have r2 : readAt (encS l) k 1 1 false = some p.av := by simp [encS, hg', Sec.enc]
      have r3 : readAt (encS m) k 0 1 false = some (aI q.pos) := by simp [encS, hq', Sec.enc]
      have r4 : readAt (encS m) k 1 1 false = some q.av := by simp [encS, hq', Sec.enc]
      have hp := hok p (by rw [← hg]; exact List.getElem_mem _)
      have hq := hok2 q (by rw [← hq]; exact List.getElem_mem _)
      clear ih hok hok2 hs ht
      refine vc_blindstampref12_Same_4 _ _ _ _ _ fun g => ?_
      by_cases hpos : p.pos = q.pos
      · have hp8 := conv_by8 hp
        have hq8 := conv_by8 hq
        by_cases hbs : p.bs = q.bs
        · have e : decide (keyS (p :: s) = keyS (q :: t)) = decide (keyS s = keyS t) := by rw [decide_eq_decide]; simp [keyS, hpos, hbs]
          rw [e] at hQ
          clear hp hq
          have h5 := ih' hQ
          clear hQ ih'
          simp [new_ne, ne_new, new_ne1, ne_new1, gen_put', *, VC_blindstampref12_Same_4, hx.r, hy.r, hx.idx, hy.idx]
        · have e : decide (keyS (p :: s) = keyS (q :: t)) = false := by simp [keyS, hbs]
          rw [e] at hQ
          clear hp hq ih'
          simp [new_ne, ne_new, new_ne1, ne_new1, gen_put', *, VC_blindstampref12_Same_4, hx.r, hy.r, hx.idx, hy.idx]
      · have e : decide (keyS (p :: s) = keyS (q :: t)) = false := by simp [keyS, hpos]
        rw [e] at hQ
        clear ih'
        simp [new_ne, ne_new, new_ne1, ne_new1, gen_put', *, VC_blindstampref12_Same_4, hx.r, hy.r, hx.idx, hy.idx]
theorem s_Same0 : limf env 62 [dsk x 0 0 false, dsk y 0 0 false] = some (aB (decide (keyS l = keyS m))) := by
  refine limf_of (fn := Try.f62) (c := bd_blindstampref12_Same) rfl (by kernel_rfl) (by kernel_rfl) (by kernel_rfl) (by kernel_rfl) ?_; refine vc_blindstampref12_Same _ _ _ _ fun g => ?_
  by_cases hlm : l.length = m.length
  · have h := same_loop hx hok hy hok2 hl (r1 := ⟨0, 2, 0, 0⟩) (r2 := ⟨0, 3, 0, 0⟩) (H := [(⟨0, 3, 0, 0⟩, some ⟨4, [dsk y 0 0 false], false, false⟩), (⟨0, 2, 0, 0⟩, some ⟨4, [dsk x 0 0 false], false, false⟩)]) (Q := fun v H' => handed env 62 v H' (aB (decide (keyS l = keyS m)))) (by simp) (by simp) l m 0 rfl rfl (by omega) hlm (by simp)
    simp only [dsk] at h ⊢
    simp [new_ne, ne_new, new_ne1, ne_new1, gen_put', *, VC_blindstampref12_Same, hx.r, hy.r]
    exact h
  · have e : decide (keyS l = keyS m) = false := by
      rw [decide_eq_false_iff_not]
      intro e
      have := congrArg List.length e
      simp [keyS] at this
      exact hlm this
    rw [e]
    have hlm' : ¬ (l.length : Int) = m.length := by omega
    simp only [dsk]
    simp [new_ne, ne_new, new_ne1, ne_new1, gen_put', *, VC_blindstampref12_Same, hx.r, hy.r]
end
end Go.Proofs.Ytjampffmlnplcaa
