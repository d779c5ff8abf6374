/-
  'Rows.PolicyApartSaid': the law's run. No conditions.
-/
import Derived.Test.YtgooemdlilfkmaaPolTwin
import Derived.Test.YtgooemdlilfkmaaPgVl5
import Derived.Test.YtgooemdlilfkmaaAbsMono
set_option linter.unusedVariables false
set_option linter.unusedSimpArgs false
set_option linter.unusedSectionVars false
set_option linter.unnecessarySimpa false
set_option maxRecDepth 100000
namespace Go.Proofs.Ytgooemdlilfkmaa
open Go.Ab
attribute [local simp] depth_eq callRes_V keep appRes_G appFine_n appFine_s appG_n appG_s roomB

theorem Quota.enc_mk5 (a : UInt8) (b : UInt32) (x y z : Int) : (Quota.mk a b x y z).enc = [a8 a, a32 b, aI x, aI y, aI z] := rfl
@[simp] theorem take_map_app1 {α β : Type} (f : α → β) (l : List α) (x : β) : List.take (l.length + 1) (l.map f ++ [x]) = l.map f ++ [x] := List.take_of_length_le (by simp)
/-- One more quota, in its place; and none other of its label. -/
def ins (m : Quota) : Bool → List Quota → List Quota
  | put, [] => if put then [] else [m]
  | put, q :: s => (if !put && aheadB m.lv m.cats q.lv q.cats then [m] else []) ++ ((if labIs m.lv m.cats q then [] else [q]) ++ ins m (put || aheadB m.lv m.cats q.lv q.cats) s)

theorem ins_len (m : Quota) : ∀ (s : List Quota) (put : Bool), (ins m put s).length ≤ 2 * s.length + 1 := by
  intro s
  induction s with
  | nil => intro put; cases put <;> simp [ins]
  | cons q s ih =>
    intro put
    have := ih (put || aheadB m.lv m.cats q.lv q.cats)
    simp only [ins, List.length_append, List.length_cons]
    split <;> split <;> simp <;> omega
theorem ins_acc {m : Quota} {acc qs s : List Quota} {put : Bool} (h : acc ++ ins m put s = ins m false qs) : acc.length ≤ 2 * qs.length + 1 := by
  have h1 := ins_len m qs false
  rw [← h, List.length_append] at h1
  exact Nat.le_trans (Nat.le_add_right _ _) h1
theorem ins_acc32 {m : Quota} {acc qs s : List Quota} {put : Bool} (h : acc ++ ins m put s = ins m false qs) (hq : qs.length < 1000) : (acc.length + 1) * 32 ≤ 140737488355328 ∧ (acc.length + 1 + 1) * 32 ≤ 140737488355328 := by
  have := ins_acc h
  clear h
  omega
theorem ins_same (m : Quota) : ∀ (s : List Quota) (put : Bool), (ins m put s).find? (labIs m.lv m.cats) = if put then none else some m := by
  have hm : labIs m.lv m.cats m = true := by simp [labIs]
  intro s
  induction s with
  | nil => intro put; cases put <;> simp [ins, hm]
  | cons q s ih =>
    intro put
    simp only [ins, List.find?_append, ih]
    cases put <;> cases aheadB m.lv m.cats q.lv q.cats <;> cases hl : labIs m.lv m.cats q <;> simp [hm, hl]
theorem ins_other (m : Quota) (a : UInt8) (b : UInt32) (h : labIs a b m = false) : ∀ (s : List Quota) (put : Bool), (ins m put s).find? (labIs a b) = s.find? (labIs a b) := by
  intro s
  induction s with
  | nil => intro put; cases put <;> simp [ins, h]
  | cons q s ih =>
    intro put
    have hq : labIs m.lv m.cats q = true → labIs a b q = false := by
      intro e
      unfold labIs at e h ⊢
      simp only [Bool.and_eq_true, decide_eq_true_eq] at e
      rw [e.1, e.2]; exact h
    simp only [ins, List.find?_append, ih]
    cases put <;> cases aheadB m.lv m.cats q.lv q.cats <;> cases hl : labIs m.lv m.cats q <;> simp [h, hl, hq, List.find?_cons] <;> (try (cases labIs a b q <;> simp))

theorem apart_alive : limf env 16 [] = some (aB true) := limf_run_of (n := 40000) (by kernel_rfl)

/-- What the law asks at its end. -/
theorem apart_same (qs : List Quota) (m : Quota) (a : UInt8) (b : UInt32) : (labIs a b m = true → quotaOf (ins m false qs) a b = m) ∧ (labIs a b m = false → quotaOf (ins m false qs) a b = quotaOf qs a b) := by
  refine ⟨fun h => ?_, fun h => ?_⟩
  · have h' := h
    unfold labIs at h'
    simp only [Bool.and_eq_true, decide_eq_true_eq] at h'
    unfold quotaOf
    rw [← h'.1, ← h'.2, ins_same]
    rfl
  · unfold quotaOf
    rw [ins_other m a b h]

section
variable {xu xq ou vu : AV} {us : List Clear} {qs : List Quota} {gr : Int} {m : Quota} {a : UInt8} {b : UInt32} (hu : Sl 3 (encCs us) xu) (hq : Sl 5 (encQs qs) xq) (hul : us.length < 1000) (hql : qs.length < 1000)
variable {r8 r3 r4 r5 : Ref}
include hu hq hul hql

set_option maxHeartbeats 4000000 in
theorem apart_loop {Q : AV → Heap → Prop} (h83 : r8 ≠ r3) (h84 : r8 ≠ r4) (h85 : r8 ≠ r5) (hQ : ∀ y H', y = aB true → Q y H') : ∀ (s : List Quota) (k : Nat) (i : Int) (put : Bool) (acc : List Quota) (x : AV) (H : Heap), qs.drop k = s → k ≤ qs.length → i = k → acc ++ ins m put s = ins m false qs →
    Fr H → H.get r8 = some ⟨3, [.agg [ou, x, aI gr]], false, false⟩ → H.get r3 = some ⟨3, [.agg [xu, xq, aI gr]], false, false⟩ → H.get r4 = some ⟨5, [.agg [a8 m.lv, a32 m.cats, aI m.opens, aI m.ops, aI m.cells]], false, false⟩ → H.get r5 = some ⟨2, [.agg [a8 a, a32 b]], false, false⟩ →
    SeenS 3 (encCs us) H ou vu → OwnAt [50, 69] 5 (encQs acc) H x → (∀ r, x.at? = some r → ou.at? ≠ some r ∧ r ≠ r8 ∧ r ≠ r3 ∧ r ≠ r4 ∧ r ≠ r5) → (∀ r, ou.at? = some r → r ≠ r8) →
    GoL env Try.f5 0 hd_blindstamplaw06_PolicyApart_8 [(10, aI i), (8, .ptr r8 0 0), (3, .ptr r3 0 0), (4, .ptr r4 0 0), (9, aB put), (7, aB true), (5, .ptr r5 0 0)] H Q := by
  intro s
  induction s with
  | nil =>
    rintro k i put acc x H hs hk rfl hacc hF g8 g3 g4 g5 hS hO hx hou
    obtain rfl := drop_nil hs hk
    refine vc_blindstamplaw06_PolicyApart_8 _ _ _ _ _ _ _ _ _ fun g => ?_
    have hm8 : r3 ≠ r8 := h83.symm
    have hm4 : r4 ≠ r8 := h84.symm
    have hm5 : r5 ≠ r8 := h85.symm
    have hE := apart_same qs m a b
    have P1 := s_Quota (gr := gr) hu hq (by omega) (by omega) a b
    have hTl : (ins m false qs).length < 4611686018427387904 := Nat.lt_of_le_of_lt (ins_len m qs false) (by omega)
    obtain ⟨hb1, hb2⟩ := ins_acc32 hacc hql
    have hP2 : ∀ v, Sl 5 (encQs (ins m false qs)) v → limf env 12 [.agg [vu, v, aI gr], .agg [a8 a, a32 b]] = some (.tup [.agg (quotaE us (ins m false qs) gr a b).enc, aI (askedE us (ins m false qs) gr a)]) :=
      fun v hv => s_Quota (gr := gr) hS.sl hv hTl (by omega) a b
    have hfin : askedE us qs gr a = 0 → askedE us (ins m false qs) gr a = 0 → (labIs a b m = true → quotaE us (ins m false qs) gr a b = m) ∧ (labIs a b m = false → quotaE us (ins m false qs) gr a b = quotaE us qs gr a b) := by
      intro h1 h2
      unfold quotaE
      rw [if_pos h1, if_pos h2]
      exact hE
    have hml : (decide (m.lv = a) && decide (m.cats = b)) = labIs a b m := rfl
    have hml2 : (decide (a = m.lv) && decide (b = m.cats)) = labIs a b m := by
      rw [← hml]; congr 1 <;> exact decide_eq_decide.2 eq_comm
    generalize hT : ins m false qs = T at *
    generalize quotaE us T gr a b = qT at *
    generalize quotaE us qs gr a b = qp at *
    generalize askedE us qs gr a = eP at *
    generalize askedE us T gr a = eT at *
    obtain ⟨p1, p2, p3, p4, p5⟩ := qp
    obtain ⟨t1, t2, t3, t4, t5⟩ := qT
    obtain ⟨m1, m2, m3, m4, m5⟩ := m
    have hQt : ∀ H', Q (aB true) H' := fun H' => hQ _ _ rfl
    have main : ∀ (f1 : Bool), (decide (eP = 0) && decide (eT = 0)) = f1 → (f1 = true → (decide (m1 = a) && decide (m2 = b)) = labIs a b ⟨m1, m2, m3, m4, m5⟩) → True := fun _ _ _ => trivial
    clear main
    cases put with
    | true =>
      have hacT : acc = T := by simpa [ins] using hacc
      subst hacT
      rcases hO with ⟨rfl, hn⟩ | ⟨t, gg, ht, rfl, hrx⟩
      · have P2 := hP2 aNil (by simpa using hn)
        rcases hS with ⟨rfl, hsl⟩ | ⟨ru, cc, fz, rfl, hru, rfl, hcc⟩
        · simp [new_ne, ne_new, new_ne1, ne_new1, gen_put', *, VC_blindstamplaw06_PolicyApart_8, hu.r, hq.r, Quota.enc_mk5, eqA, eqFs, -hx, -hou, -hQ, -hP2, -hfin, hsl.r]
          by_cases e1 : eP = 0
          · by_cases e2 : eT = 0
            · have hf := hfin e1 e2
              cases hl : labIs a b ⟨m1, m2, m3, m4, m5⟩
              · have h5 := hf.2 hl
                simp only [Quota.mk.injEq] at h5
                obtain ⟨rfl, rfl, rfl, rfl, rfl⟩ := h5
                rw [hl] at hml hml2
                simp [new_ne, ne_new, new_ne1, ne_new1, gen_put', *, eqA, eqFs, -hx, -hou, -hQ, -hP2, -hfin]
              · have h5 := hf.1 hl
                simp only [Quota.mk.injEq] at h5
                obtain ⟨rfl, rfl, rfl, rfl, rfl⟩ := h5
                rw [hl] at hml hml2
                simp [new_ne, ne_new, new_ne1, ne_new1, gen_put', *, eqA, eqFs, -hx, -hou, -hQ, -hP2, -hfin]
            · simp [*]
          · simp [*]
        · have n8 := hou _ rfl
          have n8' := n8.symm
          simp [new_ne, ne_new, new_ne1, ne_new1, gen_put', *, VC_blindstamplaw06_PolicyApart_8, hu.r, hq.r, Quota.enc_mk5, eqA, eqFs, -hx, -hou, -hQ, -hP2, -hfin]
          by_cases e1 : eP = 0
          · by_cases e2 : eT = 0
            · have hf := hfin e1 e2
              cases hl : labIs a b ⟨m1, m2, m3, m4, m5⟩
              · have h5 := hf.2 hl
                simp only [Quota.mk.injEq] at h5
                obtain ⟨rfl, rfl, rfl, rfl, rfl⟩ := h5
                rw [hl] at hml hml2
                simp [new_ne, ne_new, new_ne1, ne_new1, gen_put', *, eqA, eqFs, -hx, -hou, -hQ, -hP2, -hfin]
              · have h5 := hf.1 hl
                simp only [Quota.mk.injEq] at h5
                obtain ⟨rfl, rfl, rfl, rfl, rfl⟩ := h5
                rw [hl] at hml hml2
                simp [new_ne, ne_new, new_ne1, ne_new1, gen_put', *, eqA, eqFs, -hx, -hou, -hQ, -hP2, -hfin]
            · simp [*]
          · simp [*]
      · have P2 := hP2 (.isl 5 (encQs acc) none) (Sl.mk _ _)
        obtain ⟨x1, x2, x3, x4, x5⟩ := hx _ rfl
        simp at ht
        rcases ht with rfl | rfl
        · rcases hS with ⟨rfl, hsl⟩ | ⟨ru, cc, fz, rfl, hru, rfl, hcc⟩
          · simp [new_ne, ne_new, new_ne1, ne_new1, gen_put', *, VC_blindstamplaw06_PolicyApart_8, hu.r, hq.r, Quota.enc_mk5, eqA, eqFs, -hx, -hou, -hQ, -hP2, -hfin, hsl.r]
            by_cases e1 : eP = 0
            · by_cases e2 : eT = 0
              · have hf := hfin e1 e2
                cases hl : labIs a b ⟨m1, m2, m3, m4, m5⟩
                · have h5 := hf.2 hl
                  simp only [Quota.mk.injEq] at h5
                  obtain ⟨rfl, rfl, rfl, rfl, rfl⟩ := h5
                  rw [hl] at hml hml2
                  simp [new_ne, ne_new, new_ne1, ne_new1, gen_put', *, eqA, eqFs, -hx, -hou, -hQ, -hP2, -hfin]
                · have h5 := hf.1 hl
                  simp only [Quota.mk.injEq] at h5
                  obtain ⟨rfl, rfl, rfl, rfl, rfl⟩ := h5
                  rw [hl] at hml hml2
                  simp [new_ne, ne_new, new_ne1, ne_new1, gen_put', *, eqA, eqFs, -hx, -hou, -hQ, -hP2, -hfin]
              · simp [*]
            · simp [*]
          · simp [new_ne, ne_new, new_ne1, ne_new1, gen_put', *, VC_blindstamplaw06_PolicyApart_8, hu.r, hq.r, Quota.enc_mk5, eqA, eqFs, -hx, -hou, -hQ, -hP2, -hfin]
            by_cases e1 : eP = 0
            · by_cases e2 : eT = 0
              · have hf := hfin e1 e2
                cases hl : labIs a b ⟨m1, m2, m3, m4, m5⟩
                · have h5 := hf.2 hl
                  simp only [Quota.mk.injEq] at h5
                  obtain ⟨rfl, rfl, rfl, rfl, rfl⟩ := h5
                  rw [hl] at hml hml2
                  simp [new_ne, ne_new, new_ne1, ne_new1, gen_put', *, eqA, eqFs, -hx, -hou, -hQ, -hP2, -hfin]
                · have h5 := hf.1 hl
                  simp only [Quota.mk.injEq] at h5
                  obtain ⟨rfl, rfl, rfl, rfl, rfl⟩ := h5
                  rw [hl] at hml hml2
                  simp [new_ne, ne_new, new_ne1, ne_new1, gen_put', *, eqA, eqFs, -hx, -hou, -hQ, -hP2, -hfin]
              · simp [*]
            · simp [*]
        · rcases hS with ⟨rfl, hsl⟩ | ⟨ru, cc, fz, rfl, hru, rfl, hcc⟩
          · simp [new_ne, ne_new, new_ne1, ne_new1, gen_put', *, VC_blindstamplaw06_PolicyApart_8, hu.r, hq.r, Quota.enc_mk5, eqA, eqFs, -hx, -hou, -hQ, -hP2, -hfin, hsl.r]
            by_cases e1 : eP = 0
            · by_cases e2 : eT = 0
              · have hf := hfin e1 e2
                cases hl : labIs a b ⟨m1, m2, m3, m4, m5⟩
                · have h5 := hf.2 hl
                  simp only [Quota.mk.injEq] at h5
                  obtain ⟨rfl, rfl, rfl, rfl, rfl⟩ := h5
                  rw [hl] at hml hml2
                  simp [new_ne, ne_new, new_ne1, ne_new1, gen_put', *, eqA, eqFs, -hx, -hou, -hQ, -hP2, -hfin]
                · have h5 := hf.1 hl
                  simp only [Quota.mk.injEq] at h5
                  obtain ⟨rfl, rfl, rfl, rfl, rfl⟩ := h5
                  rw [hl] at hml hml2
                  simp [new_ne, ne_new, new_ne1, ne_new1, gen_put', *, eqA, eqFs, -hx, -hou, -hQ, -hP2, -hfin]
              · simp [*]
            · simp [*]
          · simp [new_ne, ne_new, new_ne1, ne_new1, gen_put', *, VC_blindstamplaw06_PolicyApart_8, hu.r, hq.r, Quota.enc_mk5, eqA, eqFs, -hx, -hou, -hQ, -hP2, -hfin]
            by_cases e1 : eP = 0
            · by_cases e2 : eT = 0
              · have hf := hfin e1 e2
                cases hl : labIs a b ⟨m1, m2, m3, m4, m5⟩
                · have h5 := hf.2 hl
                  simp only [Quota.mk.injEq] at h5
                  obtain ⟨rfl, rfl, rfl, rfl, rfl⟩ := h5
                  rw [hl] at hml hml2
                  simp [new_ne, ne_new, new_ne1, ne_new1, gen_put', *, eqA, eqFs, -hx, -hou, -hQ, -hP2, -hfin]
                · have h5 := hf.1 hl
                  simp only [Quota.mk.injEq] at h5
                  obtain ⟨rfl, rfl, rfl, rfl, rfl⟩ := h5
                  rw [hl] at hml hml2
                  simp [new_ne, ne_new, new_ne1, ne_new1, gen_put', *, eqA, eqFs, -hx, -hou, -hQ, -hP2, -hfin]
              · simp [*]
            · simp [*]
    | false =>
      have hacT : acc ++ [⟨m1, m2, m3, m4, m5⟩] = T := by simpa [ins] using hacc
      subst hacT
      have P2 := hP2 (.isl 5 (encQs (acc ++ [⟨m1, m2, m3, m4, m5⟩])) none) (Sl.mk _ _)
      simp [Quota.enc_mk5] at P2
      rcases hO with ⟨rfl, hn⟩ | ⟨t, gg, ht, rfl, hrx⟩
      · have hac : acc = [] := by simpa using hn
        subst hac
        simp at P2
        rcases hS with ⟨rfl, hsl⟩ | ⟨ru, cc, fz, rfl, hru, rfl, hcc⟩
        · simp [new_ne, ne_new, new_ne1, ne_new1, gen_put', *, VC_blindstamplaw06_PolicyApart_8, hu.r, hq.r, Quota.enc_mk5, eqA, eqFs, -hx, -hou, -hQ, -hP2, -hfin, hsl.r]
          by_cases e1 : eP = 0
          · by_cases e2 : eT = 0
            · have hf := hfin e1 e2
              cases hl : labIs a b ⟨m1, m2, m3, m4, m5⟩
              · have h5 := hf.2 hl
                simp only [Quota.mk.injEq] at h5
                obtain ⟨rfl, rfl, rfl, rfl, rfl⟩ := h5
                rw [hl] at hml hml2
                simp [new_ne, ne_new, new_ne1, ne_new1, gen_put', *, eqA, eqFs, -hx, -hou, -hQ, -hP2, -hfin]
              · have h5 := hf.1 hl
                simp only [Quota.mk.injEq] at h5
                obtain ⟨rfl, rfl, rfl, rfl, rfl⟩ := h5
                rw [hl] at hml hml2
                simp [new_ne, ne_new, new_ne1, ne_new1, gen_put', *, eqA, eqFs, -hx, -hou, -hQ, -hP2, -hfin]
            · simp [*]
          · simp [*]
        · have n8 := hou _ rfl
          have n8' := n8.symm
          simp [new_ne, ne_new, new_ne1, ne_new1, gen_put', *, VC_blindstamplaw06_PolicyApart_8, hu.r, hq.r, Quota.enc_mk5, eqA, eqFs, -hx, -hou, -hQ, -hP2, -hfin]
          by_cases e1 : eP = 0
          · by_cases e2 : eT = 0
            · have hf := hfin e1 e2
              cases hl : labIs a b ⟨m1, m2, m3, m4, m5⟩
              · have h5 := hf.2 hl
                simp only [Quota.mk.injEq] at h5
                obtain ⟨rfl, rfl, rfl, rfl, rfl⟩ := h5
                rw [hl] at hml hml2
                simp [new_ne, ne_new, new_ne1, ne_new1, gen_put', *, eqA, eqFs, -hx, -hou, -hQ, -hP2, -hfin]
              · have h5 := hf.1 hl
                simp only [Quota.mk.injEq] at h5
                obtain ⟨rfl, rfl, rfl, rfl, rfl⟩ := h5
                rw [hl] at hml hml2
                simp [new_ne, ne_new, new_ne1, ne_new1, gen_put', *, eqA, eqFs, -hx, -hou, -hQ, -hP2, -hfin]
            · simp [*]
          · simp [*]
      · obtain ⟨x1, x2, x3, x4, x5⟩ := hx _ rfl
        have y2 := x2.symm
        have y3 := x3.symm
        have y4 := x4.symm
        have y5 := x5.symm
        simp at ht
        rcases ht with rfl | rfl
        · rcases hS with ⟨rfl, hsl⟩ | ⟨ru, cc, fz, rfl, hru, rfl, hcc⟩
          · simp [new_ne, ne_new, new_ne1, ne_new1, gen_put', *, VC_blindstamplaw06_PolicyApart_8, hu.r, hq.r, Quota.enc_mk5, eqA, eqFs, -hx, -hou, -hQ, -hP2, -hfin, hsl.r]
            by_cases e1 : eP = 0
            · by_cases e2 : eT = 0
              · have hf := hfin e1 e2
                cases hl : labIs a b ⟨m1, m2, m3, m4, m5⟩
                · have h5 := hf.2 hl
                  simp only [Quota.mk.injEq] at h5
                  obtain ⟨rfl, rfl, rfl, rfl, rfl⟩ := h5
                  rw [hl] at hml hml2
                  simp [new_ne, ne_new, new_ne1, ne_new1, gen_put', *, eqA, eqFs, -hx, -hou, -hQ, -hP2, -hfin]
                · have h5 := hf.1 hl
                  simp only [Quota.mk.injEq] at h5
                  obtain ⟨rfl, rfl, rfl, rfl, rfl⟩ := h5
                  rw [hl] at hml hml2
                  simp [new_ne, ne_new, new_ne1, ne_new1, gen_put', *, eqA, eqFs, -hx, -hou, -hQ, -hP2, -hfin]
              · simp [*]
            · simp [*]
          · have n8 := hou _ rfl
            have n8' := n8.symm
            have nu : (⟨0, 50, gg, 0⟩ : Ref) ≠ ru := fun e => x1 (by simp [e])
            have nu' := nu.symm
            simp [new_ne, ne_new, new_ne1, ne_new1, gen_put', *, VC_blindstamplaw06_PolicyApart_8, hu.r, hq.r, Quota.enc_mk5, eqA, eqFs, -hx, -hou, -hQ, -hP2, -hfin]
            by_cases e1 : eP = 0
            · by_cases e2 : eT = 0
              · have hf := hfin e1 e2
                cases hl : labIs a b ⟨m1, m2, m3, m4, m5⟩
                · have h5 := hf.2 hl
                  simp only [Quota.mk.injEq] at h5
                  obtain ⟨rfl, rfl, rfl, rfl, rfl⟩ := h5
                  rw [hl] at hml hml2
                  simp [new_ne, ne_new, new_ne1, ne_new1, gen_put', *, eqA, eqFs, -hx, -hou, -hQ, -hP2, -hfin]
                · have h5 := hf.1 hl
                  simp only [Quota.mk.injEq] at h5
                  obtain ⟨rfl, rfl, rfl, rfl, rfl⟩ := h5
                  rw [hl] at hml hml2
                  simp [new_ne, ne_new, new_ne1, ne_new1, gen_put', *, eqA, eqFs, -hx, -hou, -hQ, -hP2, -hfin]
              · simp [*]
            · simp [*]
        · rcases hS with ⟨rfl, hsl⟩ | ⟨ru, cc, fz, rfl, hru, rfl, hcc⟩
          · simp [new_ne, ne_new, new_ne1, ne_new1, gen_put', *, VC_blindstamplaw06_PolicyApart_8, hu.r, hq.r, Quota.enc_mk5, eqA, eqFs, -hx, -hou, -hQ, -hP2, -hfin, hsl.r]
            by_cases e1 : eP = 0
            · by_cases e2 : eT = 0
              · have hf := hfin e1 e2
                cases hl : labIs a b ⟨m1, m2, m3, m4, m5⟩
                · have h5 := hf.2 hl
                  simp only [Quota.mk.injEq] at h5
                  obtain ⟨rfl, rfl, rfl, rfl, rfl⟩ := h5
                  rw [hl] at hml hml2
                  simp [new_ne, ne_new, new_ne1, ne_new1, gen_put', *, eqA, eqFs, -hx, -hou, -hQ, -hP2, -hfin]
                · have h5 := hf.1 hl
                  simp only [Quota.mk.injEq] at h5
                  obtain ⟨rfl, rfl, rfl, rfl, rfl⟩ := h5
                  rw [hl] at hml hml2
                  simp [new_ne, ne_new, new_ne1, ne_new1, gen_put', *, eqA, eqFs, -hx, -hou, -hQ, -hP2, -hfin]
              · simp [*]
            · simp [*]
          · have n8 := hou _ rfl
            have n8' := n8.symm
            have nu : (⟨0, 69, gg, 0⟩ : Ref) ≠ ru := fun e => x1 (by simp [e])
            have nu' := nu.symm
            simp [new_ne, ne_new, new_ne1, ne_new1, gen_put', *, VC_blindstamplaw06_PolicyApart_8, hu.r, hq.r, Quota.enc_mk5, eqA, eqFs, -hx, -hou, -hQ, -hP2, -hfin]
            by_cases e1 : eP = 0
            · by_cases e2 : eT = 0
              · have hf := hfin e1 e2
                cases hl : labIs a b ⟨m1, m2, m3, m4, m5⟩
                · have h5 := hf.2 hl
                  simp only [Quota.mk.injEq] at h5
                  obtain ⟨rfl, rfl, rfl, rfl, rfl⟩ := h5
                  rw [hl] at hml hml2
                  simp [new_ne, ne_new, new_ne1, ne_new1, gen_put', *, eqA, eqFs, -hx, -hou, -hQ, -hP2, -hfin]
                · have h5 := hf.1 hl
                  simp only [Quota.mk.injEq] at h5
                  obtain ⟨rfl, rfl, rfl, rfl, rfl⟩ := h5
                  rw [hl] at hml hml2
                  simp [new_ne, ne_new, new_ne1, ne_new1, gen_put', *, eqA, eqFs, -hx, -hou, -hQ, -hP2, -hfin]
              · simp [*]
            · simp [*]
  | cons q s ih =>
    rintro k i put acc x H hs hk rfl hacc hF g8 g3 g4 g5 hS hO hx hou
    obtain ⟨hlt, hg, hs', hg'⟩ := drop_cons hs
    refine vc_blindstamplaw06_PolicyApart_8 _ _ _ _ _ _ _ _ _ fun g => ?_
    have hm8 : r3 ≠ r8 := h83.symm
    have hm4 : r4 ≠ r8 := h84.symm
    have hm5 : r5 ≠ r8 := h85.symm
    obtain ⟨hb1, hb2⟩ := ins_acc32 hacc hql
    have e := IntWalk.i64_in ((k : Int) + 1) (by omega)
    have hq2 : (decide (q.lv = m.lv) && decide (q.cats = m.cats)) = labIs m.lv m.cats q := rfl
    have hO0 := hO
    have hxx : ∀ r, ou.at? = some r → x.at? ≠ some r := fun r hr e => (hx r e).1 hr
    rcases hO with ⟨rfl, hn⟩ | ⟨t, gg, ht, rfl, hrx⟩
    · have hac : acc = [] := by simpa using hn
      subst hac
      cases hp : put <;> cases ha : aheadB m.lv m.cats q.lv q.cats <;> cases hl : labIs m.lv m.cats q
      all_goals (rw [hl] at hq2; subst hp; simp [new_ne, ne_new, new_ne1, ne_new1, gen_put', *, VC_blindstamplaw06_PolicyApart_8, hq.r, hq.idx, Quota.enc, eqA, eqFs, -ih, -hx, -hou, -hQ, -hxx])
      all_goals first
        | exact ih (k + 1) _ _ [] _ H hs' (by omega) (by simp) (by simpa [ins, hl, ha] using hacc) hF g8 g3 g4 g5 hS hO0 hx hou
        | skip
      all_goals first
        | exact ih (k + 1) _ _ ([q]) (.osl ⟨0, 69, H.gen 0 69, 0⟩ 0 1 none) _ hs' (by omega) (by simp) (by simpa [ins, hl, ha] using hacc) (by simp (maxDischargeDepth := 12) [Fr_cons, Fr_consK, Fr.nil, Fr_put, new_ne, ne_new, new_ne1, ne_new1, get_new, get_new1, gen_put', *]) (by simp (maxDischargeDepth := 12) [Fr_cons, Fr_consK, Fr.nil, Fr_put, new_ne, ne_new, new_ne1, ne_new1, get_new, get_new1, gen_put', *]) (by simp (maxDischargeDepth := 12) [Fr_cons, Fr_consK, Fr.nil, Fr_put, new_ne, ne_new, new_ne1, ne_new1, get_new, get_new1, gen_put', *]) (by simp (maxDischargeDepth := 12) [Fr_cons, Fr_consK, Fr.nil, Fr_put, new_ne, ne_new, new_ne1, ne_new1, get_new, get_new1, gen_put', *]) (by simp (maxDischargeDepth := 12) [Fr_cons, Fr_consK, Fr.nil, Fr_put, new_ne, ne_new, new_ne1, ne_new1, get_new, get_new1, gen_put', *]) (hS.mono fun r hr => by have l := hS.live hr; have n8 := hou r hr; have n8' := n8.symm;  simp [new_ne, ne_new, new_ne1, ne_new1, *]) (by simp [Quota.enc, new_ne, ne_new, new_ne1, ne_new1, *]) (by intro r hr; simp only [at_osl, Option.some.injEq] at hr; subst hr; refine ⟨fun e => ?_, ?_, ?_, ?_, ?_⟩; (have l := hS.live e; simp [get_new hF, get_new1 hF] at l); all_goals simp [new_ne, ne_new, new_ne1, ne_new1, *]) hou
        | exact ih (k + 1) _ _ ([m]) (.osl ⟨0, 50, H.gen 0 50, 0⟩ 0 1 none) _ hs' (by omega) (by simp) (by simpa [ins, hl, ha] using hacc) (by simp (maxDischargeDepth := 12) [Fr_cons, Fr_consK, Fr.nil, Fr_put, new_ne, ne_new, new_ne1, ne_new1, get_new, get_new1, gen_put', *]) (by simp (maxDischargeDepth := 12) [Fr_cons, Fr_consK, Fr.nil, Fr_put, new_ne, ne_new, new_ne1, ne_new1, get_new, get_new1, gen_put', *]) (by simp (maxDischargeDepth := 12) [Fr_cons, Fr_consK, Fr.nil, Fr_put, new_ne, ne_new, new_ne1, ne_new1, get_new, get_new1, gen_put', *]) (by simp (maxDischargeDepth := 12) [Fr_cons, Fr_consK, Fr.nil, Fr_put, new_ne, ne_new, new_ne1, ne_new1, get_new, get_new1, gen_put', *]) (by simp (maxDischargeDepth := 12) [Fr_cons, Fr_consK, Fr.nil, Fr_put, new_ne, ne_new, new_ne1, ne_new1, get_new, get_new1, gen_put', *]) (hS.mono fun r hr => by have l := hS.live hr; have n8 := hou r hr; have n8' := n8.symm;  simp [new_ne, ne_new, new_ne1, ne_new1, *]) (by simp [Quota.enc, new_ne, ne_new, new_ne1, ne_new1, *]) (by intro r hr; simp only [at_osl, Option.some.injEq] at hr; subst hr; refine ⟨fun e => ?_, ?_, ?_, ?_, ?_⟩; (have l := hS.live e; simp [get_new hF, get_new1 hF] at l); all_goals simp [new_ne, ne_new, new_ne1, ne_new1, *]) hou
        | exact ih (k + 1) _ _ ([m, q]) (.osl ⟨0, 50, H.gen 0 50 + 1, 0⟩ 0 2 none) _ hs' (by omega) (by simp) (by simpa [ins, hl, ha] using hacc) (by simp (maxDischargeDepth := 12) [Fr_cons, Fr_consK, Fr.nil, Fr_put, new_ne, ne_new, new_ne1, ne_new1, get_new, get_new1, gen_put', *]) (by simp (maxDischargeDepth := 12) [Fr_cons, Fr_consK, Fr.nil, Fr_put, new_ne, ne_new, new_ne1, ne_new1, get_new, get_new1, gen_put', *]) (by simp (maxDischargeDepth := 12) [Fr_cons, Fr_consK, Fr.nil, Fr_put, new_ne, ne_new, new_ne1, ne_new1, get_new, get_new1, gen_put', *]) (by simp (maxDischargeDepth := 12) [Fr_cons, Fr_consK, Fr.nil, Fr_put, new_ne, ne_new, new_ne1, ne_new1, get_new, get_new1, gen_put', *]) (by simp (maxDischargeDepth := 12) [Fr_cons, Fr_consK, Fr.nil, Fr_put, new_ne, ne_new, new_ne1, ne_new1, get_new, get_new1, gen_put', *]) (hS.mono fun r hr => by have l := hS.live hr; have n8 := hou r hr; have n8' := n8.symm;  simp [new_ne, ne_new, new_ne1, ne_new1, *]) (by simp [Quota.enc, new_ne, ne_new, new_ne1, ne_new1, *]) (by intro r hr; simp only [at_osl, Option.some.injEq] at hr; subst hr; refine ⟨fun e => ?_, ?_, ?_, ?_, ?_⟩; (have l := hS.live e; simp [get_new hF, get_new1 hF] at l); all_goals simp [new_ne, ne_new, new_ne1, ne_new1, *]) hou
        | skip
    · obtain ⟨x1, x2, x3, x4, x5⟩ := hx _ rfl
      have y2 := x2.symm
      have y3 := x3.symm
      have y4 := x4.symm
      have y5 := x5.symm
      simp at ht
      rcases ht with rfl | rfl
      · cases hp : put <;> cases ha : aheadB m.lv m.cats q.lv q.cats <;> cases hl : labIs m.lv m.cats q
        all_goals (rw [hl] at hq2; subst hp; simp [new_ne, ne_new, new_ne1, ne_new1, gen_put', *, VC_blindstamplaw06_PolicyApart_8, hq.r, hq.idx, Quota.enc, eqA, eqFs, -ih, -hx, -hou, -hQ, -hxx])
        all_goals first
          | exact ih (k + 1) _ _ acc _ H hs' (by omega) (by simp) (by simpa [ins, hl, ha] using hacc) hF g8 g3 g4 g5 hS hO0 hx hou
          | exact ih (k + 1) _ _ (acc ++ [q]) (.osl ⟨0, 50, H.gen 0 50, 0⟩ 0 (acc.length + 1) none) _ hs' (by omega) (by simp) (by simpa [ins, hl, ha] using hacc) (by simp (maxDischargeDepth := 12) [Fr_cons, Fr_consK, Fr.nil, Fr_put, new_ne, ne_new, new_ne1, ne_new1, get_new, get_new1, gen_put', *]) (by simp (maxDischargeDepth := 12) [Fr_cons, Fr_consK, Fr.nil, Fr_put, new_ne, ne_new, new_ne1, ne_new1, get_new, get_new1, gen_put', *]) (by simp (maxDischargeDepth := 12) [Fr_cons, Fr_consK, Fr.nil, Fr_put, new_ne, ne_new, new_ne1, ne_new1, get_new, get_new1, gen_put', *]) (by simp (maxDischargeDepth := 12) [Fr_cons, Fr_consK, Fr.nil, Fr_put, new_ne, ne_new, new_ne1, ne_new1, get_new, get_new1, gen_put', *]) (by simp (maxDischargeDepth := 12) [Fr_cons, Fr_consK, Fr.nil, Fr_put, new_ne, ne_new, new_ne1, ne_new1, get_new, get_new1, gen_put', *]) (hS.mono fun r hr => by have l := hS.live hr; have n8 := hou r hr; have n8' := n8.symm; have nx1 : r ≠ ⟨0, 50, gg, 0⟩ := fun e => x1 (by rw [← e]; exact hr); have nx2 := nx1.symm; simp [new_ne, ne_new, new_ne1, ne_new1, *]) (by simp [Quota.enc, new_ne, ne_new, new_ne1, ne_new1, *]) (by intro r hr; simp only [at_osl, Option.some.injEq] at hr; subst hr; refine ⟨fun e => ?_, ?_, ?_, ?_, ?_⟩; (have l := hS.live e; simp [get_new hF, get_new1 hF] at l); all_goals simp [new_ne, ne_new, new_ne1, ne_new1, *]) hou
          | exact ih (k + 1) _ _ (acc ++ [m]) (.osl ⟨0, 50, H.gen 0 50, 0⟩ 0 (acc.length + 1) none) _ hs' (by omega) (by simp) (by simpa [ins, hl, ha] using hacc) (by simp (maxDischargeDepth := 12) [Fr_cons, Fr_consK, Fr.nil, Fr_put, new_ne, ne_new, new_ne1, ne_new1, get_new, get_new1, gen_put', *]) (by simp (maxDischargeDepth := 12) [Fr_cons, Fr_consK, Fr.nil, Fr_put, new_ne, ne_new, new_ne1, ne_new1, get_new, get_new1, gen_put', *]) (by simp (maxDischargeDepth := 12) [Fr_cons, Fr_consK, Fr.nil, Fr_put, new_ne, ne_new, new_ne1, ne_new1, get_new, get_new1, gen_put', *]) (by simp (maxDischargeDepth := 12) [Fr_cons, Fr_consK, Fr.nil, Fr_put, new_ne, ne_new, new_ne1, ne_new1, get_new, get_new1, gen_put', *]) (by simp (maxDischargeDepth := 12) [Fr_cons, Fr_consK, Fr.nil, Fr_put, new_ne, ne_new, new_ne1, ne_new1, get_new, get_new1, gen_put', *]) (hS.mono fun r hr => by have l := hS.live hr; have n8 := hou r hr; have n8' := n8.symm; have nx1 : r ≠ ⟨0, 50, gg, 0⟩ := fun e => x1 (by rw [← e]; exact hr); have nx2 := nx1.symm; simp [new_ne, ne_new, new_ne1, ne_new1, *]) (by simp [Quota.enc, new_ne, ne_new, new_ne1, ne_new1, *]) (by intro r hr; simp only [at_osl, Option.some.injEq] at hr; subst hr; refine ⟨fun e => ?_, ?_, ?_, ?_, ?_⟩; (have l := hS.live e; simp [get_new hF, get_new1 hF] at l); all_goals simp [new_ne, ne_new, new_ne1, ne_new1, *]) hou
          | exact ih (k + 1) _ _ (acc ++ [m, q]) (.osl ⟨0, 50, H.gen 0 50 + 1, 0⟩ 0 (acc.length + 1 + 1) none) _ hs' (by omega) (by simp) (by simpa [ins, hl, ha] using hacc) (by simp (maxDischargeDepth := 12) [Fr_cons, Fr_consK, Fr.nil, Fr_put, new_ne, ne_new, new_ne1, ne_new1, get_new, get_new1, gen_put', *]) (by simp (maxDischargeDepth := 12) [Fr_cons, Fr_consK, Fr.nil, Fr_put, new_ne, ne_new, new_ne1, ne_new1, get_new, get_new1, gen_put', *]) (by simp (maxDischargeDepth := 12) [Fr_cons, Fr_consK, Fr.nil, Fr_put, new_ne, ne_new, new_ne1, ne_new1, get_new, get_new1, gen_put', *]) (by simp (maxDischargeDepth := 12) [Fr_cons, Fr_consK, Fr.nil, Fr_put, new_ne, ne_new, new_ne1, ne_new1, get_new, get_new1, gen_put', *]) (by simp (maxDischargeDepth := 12) [Fr_cons, Fr_consK, Fr.nil, Fr_put, new_ne, ne_new, new_ne1, ne_new1, get_new, get_new1, gen_put', *]) (hS.mono fun r hr => by have l := hS.live hr; have n8 := hou r hr; have n8' := n8.symm; have nx1 : r ≠ ⟨0, 50, gg, 0⟩ := fun e => x1 (by rw [← e]; exact hr); have nx2 := nx1.symm; simp [new_ne, ne_new, new_ne1, ne_new1, *]) (by simp [Quota.enc, new_ne, ne_new, new_ne1, ne_new1, *]) (by intro r hr; simp only [at_osl, Option.some.injEq] at hr; subst hr; refine ⟨fun e => ?_, ?_, ?_, ?_, ?_⟩; (have l := hS.live e; simp [get_new hF, get_new1 hF] at l); all_goals simp [new_ne, ne_new, new_ne1, ne_new1, *]) hou
          | skip
      · cases hp : put <;> cases ha : aheadB m.lv m.cats q.lv q.cats <;> cases hl : labIs m.lv m.cats q
        all_goals (rw [hl] at hq2; subst hp; simp [new_ne, ne_new, new_ne1, ne_new1, gen_put', *, VC_blindstamplaw06_PolicyApart_8, hq.r, hq.idx, Quota.enc, eqA, eqFs, -ih, -hx, -hou, -hQ, -hxx])
        all_goals first
          | exact ih (k + 1) _ _ acc _ H hs' (by omega) (by simp) (by simpa [ins, hl, ha] using hacc) hF g8 g3 g4 g5 hS hO0 hx hou
          | exact ih (k + 1) _ _ (acc ++ [q]) (.osl ⟨0, 69, H.gen 0 69, 0⟩ 0 (acc.length + 1) none) _ hs' (by omega) (by simp) (by simpa [ins, hl, ha] using hacc) (by simp (maxDischargeDepth := 12) [Fr_cons, Fr_consK, Fr.nil, Fr_put, new_ne, ne_new, new_ne1, ne_new1, get_new, get_new1, gen_put', *]) (by simp (maxDischargeDepth := 12) [Fr_cons, Fr_consK, Fr.nil, Fr_put, new_ne, ne_new, new_ne1, ne_new1, get_new, get_new1, gen_put', *]) (by simp (maxDischargeDepth := 12) [Fr_cons, Fr_consK, Fr.nil, Fr_put, new_ne, ne_new, new_ne1, ne_new1, get_new, get_new1, gen_put', *]) (by simp (maxDischargeDepth := 12) [Fr_cons, Fr_consK, Fr.nil, Fr_put, new_ne, ne_new, new_ne1, ne_new1, get_new, get_new1, gen_put', *]) (by simp (maxDischargeDepth := 12) [Fr_cons, Fr_consK, Fr.nil, Fr_put, new_ne, ne_new, new_ne1, ne_new1, get_new, get_new1, gen_put', *]) (hS.mono fun r hr => by have l := hS.live hr; have n8 := hou r hr; have n8' := n8.symm; have nx1 : r ≠ ⟨0, 69, gg, 0⟩ := fun e => x1 (by rw [← e]; exact hr); have nx2 := nx1.symm; simp [new_ne, ne_new, new_ne1, ne_new1, *]) (by simp [Quota.enc, new_ne, ne_new, new_ne1, ne_new1, *]) (by intro r hr; simp only [at_osl, Option.some.injEq] at hr; subst hr; refine ⟨fun e => ?_, ?_, ?_, ?_, ?_⟩; (have l := hS.live e; simp [get_new hF, get_new1 hF] at l); all_goals simp [new_ne, ne_new, new_ne1, ne_new1, *]) hou
          | exact ih (k + 1) _ _ (acc ++ [m]) (.osl ⟨0, 69, H.gen 0 69, 0⟩ 0 (acc.length + 1) none) _ hs' (by omega) (by simp) (by simpa [ins, hl, ha] using hacc) (by simp (maxDischargeDepth := 12) [Fr_cons, Fr_consK, Fr.nil, Fr_put, new_ne, ne_new, new_ne1, ne_new1, get_new, get_new1, gen_put', *]) (by simp (maxDischargeDepth := 12) [Fr_cons, Fr_consK, Fr.nil, Fr_put, new_ne, ne_new, new_ne1, ne_new1, get_new, get_new1, gen_put', *]) (by simp (maxDischargeDepth := 12) [Fr_cons, Fr_consK, Fr.nil, Fr_put, new_ne, ne_new, new_ne1, ne_new1, get_new, get_new1, gen_put', *]) (by simp (maxDischargeDepth := 12) [Fr_cons, Fr_consK, Fr.nil, Fr_put, new_ne, ne_new, new_ne1, ne_new1, get_new, get_new1, gen_put', *]) (by simp (maxDischargeDepth := 12) [Fr_cons, Fr_consK, Fr.nil, Fr_put, new_ne, ne_new, new_ne1, ne_new1, get_new, get_new1, gen_put', *]) (hS.mono fun r hr => by have l := hS.live hr; have n8 := hou r hr; have n8' := n8.symm; have nx1 : r ≠ ⟨0, 69, gg, 0⟩ := fun e => x1 (by rw [← e]; exact hr); have nx2 := nx1.symm; simp [new_ne, ne_new, new_ne1, ne_new1, *]) (by simp [Quota.enc, new_ne, ne_new, new_ne1, ne_new1, *]) (by intro r hr; simp only [at_osl, Option.some.injEq] at hr; subst hr; refine ⟨fun e => ?_, ?_, ?_, ?_, ?_⟩; (have l := hS.live e; simp [get_new hF, get_new1 hF] at l); all_goals simp [new_ne, ne_new, new_ne1, ne_new1, *]) hou
          | exact ih (k + 1) _ _ (acc ++ [m, q]) (.osl ⟨0, 69, H.gen 0 69 + 1, 0⟩ 0 (acc.length + 1 + 1) none) _ hs' (by omega) (by simp) (by simpa [ins, hl, ha] using hacc) (by simp (maxDischargeDepth := 12) [Fr_cons, Fr_consK, Fr.nil, Fr_put, new_ne, ne_new, new_ne1, ne_new1, get_new, get_new1, gen_put', *]) (by simp (maxDischargeDepth := 12) [Fr_cons, Fr_consK, Fr.nil, Fr_put, new_ne, ne_new, new_ne1, ne_new1, get_new, get_new1, gen_put', *]) (by simp (maxDischargeDepth := 12) [Fr_cons, Fr_consK, Fr.nil, Fr_put, new_ne, ne_new, new_ne1, ne_new1, get_new, get_new1, gen_put', *]) (by simp (maxDischargeDepth := 12) [Fr_cons, Fr_consK, Fr.nil, Fr_put, new_ne, ne_new, new_ne1, ne_new1, get_new, get_new1, gen_put', *]) (by simp (maxDischargeDepth := 12) [Fr_cons, Fr_consK, Fr.nil, Fr_put, new_ne, ne_new, new_ne1, ne_new1, get_new, get_new1, gen_put', *]) (hS.mono fun r hr => by have l := hS.live hr; have n8 := hou r hr; have n8' := n8.symm; have nx1 : r ≠ ⟨0, 69, gg, 0⟩ := fun e => x1 (by rw [← e]; exact hr); have nx2 := nx1.symm; simp [new_ne, ne_new, new_ne1, ne_new1, *]) (by simp [Quota.enc, new_ne, ne_new, new_ne1, ne_new1, *]) (by intro r hr; simp only [at_osl, Option.some.injEq] at hr; subst hr; refine ⟨fun e => ?_, ?_, ?_, ?_, ?_⟩; (have l := hS.live e; simp [get_new hF, get_new1 hF] at l); all_goals simp [new_ne, ne_new, new_ne1, ne_new1, *]) hou
          | skip
end

theorem apart_law {xu xq : AV} {us : List Clear} {qs : List Quota} {gr : Int} (hu : Sl 3 (encCs us) xu) (hq : Sl 5 (encQs qs) xq) (m : Quota) (a : UInt8) (b : UInt32) :
    limf env 5 [.agg [xu, xq, aI gr], .agg m.enc, .agg [a8 a, a32 b]] = some (aB true) := by
  obtain ⟨m1, m2, m3, m4, m5⟩ := m
  rw [Quota.enc_mk5]
  refine limf_of (fn := Try.f5) (c := bd_blindstamplaw06_PolicyApart) rfl (by kernel_rfl) (by kernel_rfl) (by kernel_rfl) (by kernel_rfl) ?_; refine vc_blindstamplaw06_PolicyApart _ _ _ _ _ fun g => ?_
  have A := apart_alive
  have G1 := s_Great gr hu hq
  by_cases g1 : (100 : Int) < us.length
  · simp [new_ne, ne_new, new_ne1, ne_new1, gen_put', *, VC_blindstamplaw06_PolicyApart, hu.r, hq.r]
  by_cases g2 : (100 : Int) < qs.length
  · simp [new_ne, ne_new, new_ne1, ne_new1, gen_put', *, VC_blindstamplaw06_PolicyApart, hu.r, hq.r]
  have RT := s_RTwin (gr := gr) hu hq (by omega) (by omega)
  by_cases e1 : us = []
  · by_cases e2 : qs = []
    · subst e1
      subst e2
      simp [new_ne, ne_new, new_ne1, ne_new1, gen_put', *, VC_blindstamplaw06_PolicyApart, hu.r, hq.r, callG_data]
      exact apart_loop (gr := gr) (m := ⟨m1, m2, m3, m4, m5⟩) (a := a) (b := b) (ou := aNil) (vu := aNil) (r8 := ⟨0, 8, 0, 0⟩) (r3 := ⟨0, 3, 0, 0⟩) (r4 := ⟨0, 4, 0, 0⟩) (r5 := ⟨0, 5, 0, 0⟩) hu hq (by first | omega | (simp; done) | (simp; omega)) (by first | omega | (simp; done) | (simp; omega)) (by simp) (by simp) (by simp) (fun y H' e => by simp [e]) _ 0 0 false [] aNil _ rfl (by omega) rfl rfl (by simp (maxDischargeDepth := 12) [Fr_cons, Fr_consK, Fr.nil, Fr_put, new_ne, ne_new, new_ne1, ne_new1, get_new, get_new1, gen_put', *]) (by simp) (by simp) (by simp) (by simp) (.inl ⟨rfl, by simp⟩) (by simp) (fun r hr => by cases hr) (fun r hr => by simp at hr; try simp [← hr])
    · subst e1
      have n2 : encQs qs ≠ [] := by simpa using e2
      rw [outA_ne 5 n2] at RT
      simp [new_ne, ne_new, new_ne1, ne_new1, gen_put', *, VC_blindstamplaw06_PolicyApart, hu.r, hq.r, callG_data]
      exact apart_loop (gr := gr) (m := ⟨m1, m2, m3, m4, m5⟩) (a := a) (b := b) (ou := aNil) (vu := aNil) (r8 := ⟨0, 8, 0, 0⟩) (r3 := ⟨0, 3, 0, 0⟩) (r4 := ⟨0, 4, 0, 0⟩) (r5 := ⟨0, 5, 0, 0⟩) hu hq (by first | omega | (simp; done) | (simp; omega)) (by first | omega | (simp; done) | (simp; omega)) (by simp) (by simp) (by simp) (fun y H' e => by simp [e]) _ 0 0 false [] aNil _ rfl (by omega) rfl rfl (by simp (maxDischargeDepth := 12) [Fr_cons, Fr_consK, Fr.nil, Fr_put, new_ne, ne_new, new_ne1, ne_new1, get_new, get_new1, gen_put', *]) (by simp) (by simp) (by simp) (by simp) (.inl ⟨rfl, by simp⟩) (by simp) (fun r hr => by cases hr) (fun r hr => by simp at hr; try simp [← hr])
  · by_cases e2 : qs = []
    · have n1 : encCs us ≠ [] := by simpa using e1
      rw [outA_ne 3 n1] at RT
      subst e2
      simp [new_ne, ne_new, new_ne1, ne_new1, gen_put', *, VC_blindstamplaw06_PolicyApart, hu.r, hq.r, callG_data]
      exact apart_loop (gr := gr) (m := ⟨m1, m2, m3, m4, m5⟩) (a := a) (b := b) (ou := .osl ⟨0, 24, 0, 0⟩ 0 us.length none) (vu := .isl 3 (encCs us) none) (r8 := ⟨0, 8, 0, 0⟩) (r3 := ⟨0, 3, 0, 0⟩) (r4 := ⟨0, 4, 0, 0⟩) (r5 := ⟨0, 5, 0, 0⟩) hu hq (by first | omega | (simp; done) | (simp; omega)) (by first | omega | (simp; done) | (simp; omega)) (by simp) (by simp) (by simp) (fun y H' e => by simp [e]) _ 0 0 false [] aNil _ rfl (by omega) rfl rfl (by simp (maxDischargeDepth := 12) [Fr_cons, Fr_consK, Fr.nil, Fr_put, new_ne, ne_new, new_ne1, ne_new1, get_new, get_new1, gen_put', *]) (by simp) (by simp) (by simp) (by simp) (.inr ⟨⟨0, 24, 0, 0⟩, none, false, by simp, by simp, rfl, by simp⟩) (by simp) (fun r hr => by cases hr) (fun r hr => by simp at hr; try simp [← hr])
    · have n1 : encCs us ≠ [] := by simpa using e1
      rw [outA_ne 3 n1] at RT
      have n2 : encQs qs ≠ [] := by simpa using e2
      rw [outA_ne 5 n2] at RT
      simp [new_ne, ne_new, new_ne1, ne_new1, gen_put', *, VC_blindstamplaw06_PolicyApart, hu.r, hq.r, callG_data]
      exact apart_loop (gr := gr) (m := ⟨m1, m2, m3, m4, m5⟩) (a := a) (b := b) (ou := .osl ⟨0, 24, 0, 0⟩ 0 us.length none) (vu := .isl 3 (encCs us) none) (r8 := ⟨0, 8, 0, 0⟩) (r3 := ⟨0, 3, 0, 0⟩) (r4 := ⟨0, 4, 0, 0⟩) (r5 := ⟨0, 5, 0, 0⟩) hu hq (by first | omega | (simp; done) | (simp; omega)) (by first | omega | (simp; done) | (simp; omega)) (by simp) (by simp) (by simp) (fun y H' e => by simp [e]) _ 0 0 false [] aNil _ rfl (by omega) rfl rfl (by simp (maxDischargeDepth := 12) [Fr_cons, Fr_consK, Fr.nil, Fr_put, new_ne, ne_new, new_ne1, ne_new1, get_new, get_new1, gen_put', *]) (by simp) (by simp) (by simp) (by simp) (.inr ⟨⟨0, 24, 0, 0⟩, none, false, by simp, by simp, rfl, by simp⟩) (by simp) (fun r hr => by cases hr) (fun r hr => by simp at hr; try simp [← hr])

end Go.Proofs.Ytgooemdlilfkmaa
