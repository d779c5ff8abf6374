/-
  Operations copied, and their sizes. No statement of a seat is proved here.
-/
import Derived.Test.YtehkjjcdkbcebaaRfGet2
import Derived.Test.YtehkjjcdkbcebaaOnVl6
set_option linter.unusedVariables false
set_option linter.unusedSimpArgs false
set_option linter.unusedSectionVars false
set_option linter.unnecessarySimpa false
set_option maxRecDepth 100000
namespace Go.Proofs.Ytehkjjcdkbcebaa
open Go.Ab
attribute [local simp] depth_eq callRes_V callG_data callG_frz callG_own keep thr appRes_G appFine_n appFine_s appG_n appG_s roomB appRes_I islFine_some islG_ne List.take_of_length_le sB_lit

theorem s_OpTwin (a_1 : UInt8) (a_2 : UInt8) (a_3 : UInt32) (a_4 : UInt8) (a_5 : Int) (a_6 : UInt8) (a_7 : UInt32) (a_8 : UInt8) (a_9 : Int) (a_10 : Int) (a_11 : UInt8) (a_12 : UInt32) (a_13 : UInt8) (a_14 : Int) (a_15 : UInt8) (a_16 : UInt32) {l : List Int} (hl : l.length < 100000) : limf env 26 [.agg [a8 a_1, a8 a_2, a32 a_3, a8 a_4, aI a_5, a8 a_6, a32 a_7, a8 a_8, aI a_9, aI a_10, a8 a_11, a32 a_12, a8 a_13, aI a_14, a8 a_15, a32 a_16, outI 1 (rows l)]] = some (.agg [a8 a_1, a8 a_2, a32 a_3, a8 a_4, aI a_5, a8 a_6, a32 a_7, a8 a_8, aI a_9, aI a_10, a8 a_11, a32 a_12, a8 a_13, aI a_14, a8 a_15, a32 a_16, outA 1 (rows l)]) := by
  refine limf_of (fn := Try.f26) (c := bd_op_Twin) rfl (by kernel_rfl) (by kernel_rfl) (by kernel_rfl) (by kernel_rfl) ?_; refine vc_op_Twin _ _ _ fun g => ?_
  by_cases he : rows l = []
  · have hC := s_RuClone (l := []) (x := aNil) (.inl ⟨rfl, rfl⟩) (by simp) (by simp)
    rw [he]
    have e1 : outI 1 [] = aNil := rfl
    have e2 : outA 1 [] = aNil := rfl
    rw [e1, e2]
    rw [cloneA_v] at hC
    simp [new_ne, ne_new, new_ne1, ne_new1, gen_put', *, VC_op_Twin]
  · have hC := s_RuClone (l := l) (x := .isl 1 (rows l) none) (Sl.mk _ _) (by omega) (by omega)
    rw [cloneA_ne 1 none he] at hC
    rw [outI_ne 1 he, outA_ne 1 he]
    have hlen : (rows l).length = l.length := by simp
    generalize rows l = rw' at *
    simp [new_ne, ne_new, new_ne1, ne_new1, gen_put', *, VC_op_Twin]
theorem s_OpSizeA (k : UInt8) (m : Int) : limf env 17 [a8 k, aI m] = some (aI (sizeA k m)) := by
  refine limf_of (fn := Try.f17) (c := bd_op_Size) rfl (by kernel_rfl) (by kernel_rfl) (by kernel_rfl) (by kernel_rfl) ?_; refine vc_op_Size _ _ _ _ fun g => ?_
  have h4 := s_parts
  unfold sizeA
  by_cases k0 : k = 0
  · subst k0
    have : (if m < 1 then (0 : Int) else if 64 < m then 0 else if (0 : UInt8) = 1 then 37 + 4 * m else if (0 : UInt8) = 2 then 24 else if (0 : UInt8) = 3 then 29 else 0) = 0 := by
      split
      · rfl
      · split <;> rfl
    rw [this]
    simp [new_ne, ne_new, new_ne1, ne_new1, gen_put', *, VC_op_Size]
  by_cases k4 : 4 ≤ k
  · have n1 : ¬ k = 1 := by rintro rfl; exact absurd k4 (by decide)
    have n2 : ¬ k = 2 := by rintro rfl; exact absurd k4 (by decide)
    have n3 : ¬ k = 3 := by rintro rfl; exact absurd k4 (by decide)
    simp only [n1, n2, n3, if_false, ite_self]
    simp [new_ne, ne_new, new_ne1, ne_new1, gen_put', *, VC_op_Size]
  by_cases g1 : m < 1
  · simp [new_ne, ne_new, new_ne1, ne_new1, gen_put', *, VC_op_Size]
  by_cases g2 : 64 < m
  · simp [new_ne, ne_new, new_ne1, ne_new1, gen_put', *, VC_op_Size]
  have f4 : limf env 93 [aI m] = some (aI (13 + 4 * m)) := by
    refine limf_of (fn := Try.f93) (c := bd_op_partsF4) rfl (by kernel_rfl) (by kernel_rfl) (by kernel_rfl) (by kernel_rfl) ?_; refine vc_op_partsF4 _ _ _ fun g => ?_
    have w1 := IntWalk.i64_in (4 * m) (by omega)
    have w2 := IntWalk.i64_in (13 + 4 * m) (by omega)
    simp [new_ne, ne_new, new_ne1, ne_new1, gen_put', *, VC_op_partsF4]
  have f6 : limf env 95 [aI m] = some (aI 0) := by
    refine limf_of (fn := Try.f95) (c := bd_op_partsF6) rfl (by kernel_rfl) (by kernel_rfl) (by kernel_rfl) (by kernel_rfl) ?_; refine vc_op_partsF6 _ _ _ fun g => ?_
    simp [new_ne, ne_new, new_ne1, ne_new1, gen_put', *, VC_op_partsF6]
  have f8 : limf env 98 [aI m] = some (aI 5) := by
    refine limf_of (fn := Try.f98) (c := bd_op_partsF8) rfl (by kernel_rfl) (by kernel_rfl) (by kernel_rfl) (by kernel_rfl) ?_; refine vc_op_partsF8 _ _ _ fun g => ?_
    simp [new_ne, ne_new, new_ne1, ne_new1, gen_put', *, VC_op_partsF8]
  have w3 := IntWalk.i64_in (37 + 4 * m) (by omega)
  have e3 : 24 + (13 + 4 * m) = 37 + 4 * m := by omega
  have hk : k = 1 ∨ k = 2 ∨ k = 3 := by
    have e : k.toNat < 4 := by have := UInt8.not_le.1 k4; exact this
    have e0 : k.toNat ≠ 0 := fun h => k0 (UInt8.toNat_inj.1 h)
    rcases (show k.toNat = 1 ∨ k.toNat = 2 ∨ k.toNat = 3 by omega) with h | h | h
    · exact .inl (UInt8.toNat_inj.1 h)
    · exact .inr (.inl (UInt8.toNat_inj.1 h))
    · exact .inr (.inr (UInt8.toNat_inj.1 h))
  rcases hk with rfl | rfl | rfl
  · simp [new_ne, ne_new, new_ne1, ne_new1, gen_put', *, VC_op_Size, partsV, qIndex_a8, partAV_r]
  · simp [new_ne, ne_new, new_ne1, ne_new1, gen_put', *, VC_op_Size, partsV, qIndex_a8, partAV_r]
  · simp [new_ne, ne_new, new_ne1, ne_new1, gen_put', *, VC_op_Size, partsV, qIndex_a8, partAV_r]
/-- Runes of the call's own: nil, or a block that may be written. -/
def MineR (es : List Int) (H : Heap) (x : AV) (bad : List Ref) : Prop := (x = aNil ∧ es = []) ∨ ∃ q c, x = .osl q 0 es.length c ∧ H.get q = some ⟨1, rows es, true, false⟩ ∧ q ∉ bad
structure TI (a_1 : UInt8) (a_2 : UInt8) (a_3 : UInt32) (a_4 : UInt8) (a_5 : Int) (a_6 : UInt8) (a_7 : UInt32) (a_8 : UInt8) (a_9 : Int) (a_10 : Int) (a_11 : UInt8) (a_12 : UInt32) (a_13 : UInt8) (a_14 : Int) (a_15 : UInt8) (a_16 : UInt32) (x w xr : AV) (b : List UInt8) (r5 r11 r17 : Ref) (H : Heap) : Prop where
  own : H.get r11 = some ⟨17, [.agg [a8 a_1, a8 a_2, a32 a_3, a8 a_4, aI a_5, a8 a_6, a32 a_7, a8 a_8, aI a_9, aI a_10, a8 a_11, a32 a_12, a8 a_13, aI a_14, a8 a_15, a32 a_16, w]], false, false⟩
  a : H.get r5 = some ⟨17, [.agg [a8 a_1, a8 a_2, a32 a_3, a8 a_4, aI a_5, a8 a_6, a32 a_7, a8 a_8, aI a_9, aI a_10, a8 a_11, a32 a_12, a8 a_13, aI a_14, a8 a_15, a32 a_16, x]], false, false⟩
  raw : (xr = aNil ∧ b = []) ∨ ∃ q c fz, xr = .osl q 0 b.length c ∧ H.get q = some ⟨1, by8 b, true, fz⟩
theorem TI.put (a_1 : UInt8) (a_2 : UInt8) (a_3 : UInt32) (a_4 : UInt8) (a_5 : Int) (a_6 : UInt8) (a_7 : UInt32) (a_8 : UInt8) (a_9 : Int) (a_10 : Int) (a_11 : UInt8) (a_12 : UInt32) (a_13 : UInt8) (a_14 : Int) (a_15 : UInt8) (a_16 : UInt32) {x w xr : AV} {b : List UInt8} {r5 r11 r17 : Ref} {H : Heap} (h : TI a_1 a_2 a_3 a_4 a_5 a_6 a_7 a_8 a_9 a_10 a_11 a_12 a_13 a_14 a_15 a_16 x w xr b r5 r11 r17 H) {q : Ref} (k : Option Blk) (h1 : r11 ≠ q) (h2 : r5 ≠ q) (h3 : xr.at? ≠ some q) : TI a_1 a_2 a_3 a_4 a_5 a_6 a_7 a_8 a_9 a_10 a_11 a_12 a_13 a_14 a_15 a_16 x w xr b r5 r11 r17 (H.put q k) := by
  obtain ⟨ho, ha, hr⟩ := h
  refine ⟨?_, ?_, ?_⟩
  · rw [Heap.get_put, if_neg h1]; exact ho
  · rw [Heap.get_put, if_neg h2]; exact ha
  · rcases hr with hr | ⟨q', c, fz, rfl, hq⟩
    · exact .inl hr
    · refine .inr ⟨q', c, fz, rfl, ?_⟩
      rw [Heap.get_put, if_neg (by rintro rfl; exact h3 rfl)]
      exact hq
theorem rows_set (es : List Int) (i : Nat) (n : Int) : (rows es).set i (aR n) = rows (es.set i n) := by simp [rows, List.map_set]
theorem writeAt_rows {es : List Int} {i : Nat} {v : Int} (hv : es[i]? = some v) (n : Int) : writeAt (rows es) i 0 [.v (.int .i32 n)] = some (rows (es.set i n)) := by
  have : (rows es)[i]? = some (aR v) := by simp [rows, hv]
  unfold writeAt
  rw [this, ← rows_set]
  rfl
theorem sameB_refl (o : Opn) : sameB o o = true := by simp [sameB]
section
variable (a_1 : UInt8) (a_2 : UInt8) (a_3 : UInt32) (a_4 : UInt8) (a_5 : Int) (a_6 : UInt8) (a_7 : UInt32) (a_8 : UInt8) (a_9 : Int) (a_10 : Int) (a_11 : UInt8) (a_12 : UInt32) (a_13 : UInt8) (a_14 : Int) (a_15 : UInt8) (a_16 : UInt32) {x w xr xb : AV} {l : List Int} {b : List UInt8} (hx : Sl 1 (rows l) x) (hw : Sl 1 (rows l) w) (hl : l.length < 100000) (hb : Sl 1 (by8 b) xb) {r5 r11 r17 : Ref} (n1 : r5 ≠ r11) (n2 : r5 ≠ r17) (n3 : r11 ≠ r17) {Q : AV → Heap → Prop} (hQ : ∀ H', Q (aB true) H')
include hx hw hl hb n1 n2 n3 hQ
theorem spoil17 (p_1 : UInt8) (p_2 : UInt8) (p_3 : UInt32) (p_4 : UInt8) (p_5 : Int) (p_6 : UInt8) (p_7 : UInt32) (p_8 : UInt8) (p_9 : Int) (p_10 : Int) (p_11 : UInt8) (p_12 : UInt32) (p_13 : UInt8) (p_14 : Int) (p_15 : UInt8) (p_16 : UInt32) : ∀ (n i : Nat) (es : List Int) (xp : AV) (H : Heap), i + n = es.length → es.length < 100000 → TI a_1 a_2 a_3 a_4 a_5 a_6 a_7 a_8 a_9 a_10 a_11 a_12 a_13 a_14 a_15 a_16 x w xr b r5 r11 r17 H → H.get r17 = some ⟨17, [.agg [a8 p_1, a8 p_2, a32 p_3, a8 p_4, aI p_5, a8 p_6, a32 p_7, a8 p_8, aI p_9, aI p_10, a8 p_11, a32 p_12, a8 p_13, aI p_14, a8 p_15, a32 p_16, xp]], false, false⟩ →
    ((xp = aNil ∧ es = []) ∨ ∃ q c, xp = .osl q 0 es.length c ∧ H.get q = some ⟨1, rows es, true, false⟩ ∧ r5 ≠ q ∧ r11 ≠ q ∧ r17 ≠ q ∧ xr.at? ≠ some q) →
    GoL env Try.f6 0 hd_w09_OpTells_17 [(27, aI i), (17, .ptr r17 0 0), (2, xb), (12, xr), (5, .ptr r5 0 0), (11, .ptr r11 0 0), (25, aB true), (24, aB true)] H Q := by
  intro n
  induction n with
  | zero =>
    intro i es xp H hi hes hT hp hm
    refine vc_w09_OpTells_17 _ _ _ _ _ _ _ _ _ _ fun g => ?_
    obtain ⟨ho, ha, hr⟩ := hT
    have hS := s_R9SameG a_1 a_2 a_3 a_4 a_5 a_6 a_7 a_8 a_9 a_10 a_11 a_12 a_13 a_14 a_15 a_16 a_1 a_2 a_3 a_4 a_5 a_6 a_7 a_8 a_9 a_10 a_11 a_12 a_13 a_14 a_15 a_16 hw hx (by omega) (by omega)
    rw [sameB_refl] at hS
    have r1 := hx.r
    have r2 := hw.r
    have r3 := hb.r
    have hcb := fun (g : Get) (r : Ref) => Sl.conv (P := env.P) (src := 34) (dst := 9) hb (by kernel_rfl) (by kernel_rfl) g r
    have hi' : i = es.length := by omega
    subst hi'
    have hQ' := hQ H
    have hcr : ∀ r, qConvert env.P H.get r 34 9 (some xr) = some (sB b, []) := by
      intro r
      rcases hr with ⟨rfl, rfl⟩ | ⟨q, c, fz, rfl, hq⟩
      · exact Sl.conv (P := env.P) (src := 34) (dst := 9) (l := []) (.inl ⟨rfl, rfl⟩) (by kernel_rfl) (by kernel_rfl) H.get r
      · simp [hq]
    rcases hm with ⟨rfl, rfl⟩ | ⟨q, c, rfl, hq, _⟩
    · clear hi hr hQ
      simp [new_ne, ne_new, new_ne1, ne_new1, gen_put', *, VC_w09_OpTells_17]
      all_goals exact hQ'
    · clear hi hr hQ
      simp [new_ne, ne_new, new_ne1, ne_new1, gen_put', *, VC_w09_OpTells_17]
      all_goals exact hQ'
  | succ n ih =>
    intro i es xp H hi hes hT hp hm
    rcases hm with ⟨rfl, rfl⟩ | ⟨q, c, rfl, hq, q5, q11, q17, qr⟩
    · simp at hi
    · have hlt : i < es.length := by omega
      have e3 := IntWalk.i64_in ((i : Int) + 1) (by omega)
      obtain ⟨v, hv⟩ : ∃ v, es[i]? = some v := ⟨_, List.getElem?_eq_getElem hlt⟩
      have hrd : readAt (rows es) i 0 1 false = some (.v (.int .i32 v)) := by simp [rows, hv, aR]
      have hT' := TI.put a_1 a_2 a_3 a_4 a_5 a_6 a_7 a_8 a_9 a_10 a_11 a_12 a_13 a_14 a_15 a_16 hT (q := q) (some ⟨1, rows (es.set i (IntKind.i32.wrap (v + 1))), true, false⟩) q11 q5 qr
      have hnext := ih (i + 1) (es.set i (IntKind.i32.wrap (v + 1))) (.osl q 0 es.length c) (H.put q (some ⟨1, rows (es.set i (IntKind.i32.wrap (v + 1))), true, false⟩)) (by simp; omega) (by simpa using hes) hT'
        (by rw [Heap.get_put, if_neg q17]; exact hp) (.inr ⟨q, c, by simp, by rw [Heap.get_put, if_pos rfl], q5, q11, q17, qr⟩)
      clear ih
      have hrs := writeAt_rows hv (IntKind.i32.wrap (v + 1))
      have hlen : (rows es).length = es.length := by simp
      refine vc_w09_OpTells_17 _ _ _ _ _ _ _ _ _ _ fun g => ?_
      clear hQ hT hT'
      simp [new_ne, ne_new, new_ne1, ne_new1, gen_put', *, VC_w09_OpTells_17]
      exact hnext
theorem spoil13 (p_1 : UInt8) (p_2 : UInt8) (p_3 : UInt32) (p_4 : UInt8) (p_5 : Int) (p_6 : UInt8) (p_7 : UInt32) (p_8 : UInt8) (p_9 : Int) (p_10 : Int) (p_11 : UInt8) (p_12 : UInt32) (p_13 : UInt8) (p_14 : Int) (p_15 : UInt8) (p_16 : UInt32) (t_1 : UInt8) (t_2 : UInt8) (t_3 : UInt32) (t_4 : UInt8) (t_5 : Int) (t_6 : UInt8) (t_7 : UInt32) (t_8 : UInt8) (t_9 : Int) (t_10 : Int) (t_11 : UInt8) (t_12 : UInt32) (t_13 : UInt8) (t_14 : Int) (t_15 : UInt8) (t_16 : UInt32) {r23 : Ref} (m1 : r23 ≠ r5) (m2 : r23 ≠ r11) (m3 : r23 ≠ r17) {es2 : List Int} {xp : AV} (hes2 : es2.length < 100000) : ∀ (n i : Nat) (es : List Int) (xt : AV) (H : Heap), i + n = es.length → es.length < 100000 → TI a_1 a_2 a_3 a_4 a_5 a_6 a_7 a_8 a_9 a_10 a_11 a_12 a_13 a_14 a_15 a_16 x w xr b r5 r11 r17 H →
    H.get r17 = some ⟨17, [.agg [a8 p_1, a8 p_2, a32 p_3, a8 p_4, aI p_5, a8 p_6, a32 p_7, a8 p_8, aI p_9, aI p_10, a8 p_11, a32 p_12, a8 p_13, aI p_14, a8 p_15, a32 p_16, xp]], false, false⟩ → H.get r23 = some ⟨17, [.agg [a8 t_1, a8 t_2, a32 t_3, a8 t_4, aI t_5, a8 t_6, a32 t_7, a8 t_8, aI t_9, aI t_10, a8 t_11, a32 t_12, a8 t_13, aI t_14, a8 t_15, a32 t_16, xt]], false, false⟩ →
    ((xp = aNil ∧ es2 = []) ∨ ∃ q c, xp = .osl q 0 es2.length c ∧ H.get q = some ⟨1, rows es2, true, false⟩ ∧ r5 ≠ q ∧ r11 ≠ q ∧ r17 ≠ q ∧ xr.at? ≠ some q) →
    ((xt = aNil ∧ es = []) ∨ ∃ q c, xt = .osl q 0 es.length c ∧ H.get q = some ⟨1, rows es, true, false⟩ ∧ r5 ≠ q ∧ r11 ≠ q ∧ r17 ≠ q ∧ r23 ≠ q ∧ xr.at? ≠ some q ∧ xp.at? ≠ some q) →
    GoL env Try.f6 0 hd_w09_OpTells_13 [(26, aI i), (23, .ptr r23 0 0), (17, .ptr r17 0 0), (2, xb), (12, xr), (5, .ptr r5 0 0), (11, .ptr r11 0 0), (25, aB true), (24, aB true)] H Q := by
  intro n
  induction n with
  | zero =>
    intro i es xt H hi hes hT hp ht hmp hm
    have hgo := spoil17 a_1 a_2 a_3 a_4 a_5 a_6 a_7 a_8 a_9 a_10 a_11 a_12 a_13 a_14 a_15 a_16 hx hw hl hb n1 n2 n3 hQ p_1 p_2 p_3 p_4 p_5 p_6 p_7 p_8 p_9 p_10 p_11 p_12 p_13 p_14 p_15 p_16 es2.length 0 es2 xp H (by omega) hes2 hT hp hmp
    have hi' : i = es.length := by omega
    subst hi'
    refine vc_w09_OpTells_13 _ _ _ _ _ _ _ _ _ _ _ fun g => ?_
    rcases hm with ⟨rfl, rfl⟩ | ⟨q, c, rfl, hq, _⟩
    · clear hi hQ hT hmp
      simp [new_ne, ne_new, new_ne1, ne_new1, gen_put', *, VC_w09_OpTells_13]
      all_goals exact hgo
    · clear hi hQ hT hmp
      simp [new_ne, ne_new, new_ne1, ne_new1, gen_put', *, VC_w09_OpTells_13]
      all_goals exact hgo
  | succ n ih =>
    intro i es xt H hi hes hT hp ht hmp hm
    rcases hm with ⟨rfl, rfl⟩ | ⟨q, c, rfl, hq, q5, q11, q17, q23, qr, qp⟩
    · simp at hi
    · have hlt : i < es.length := by omega
      have e3 := IntWalk.i64_in ((i : Int) + 1) (by omega)
      obtain ⟨v, hv⟩ : ∃ v, es[i]? = some v := ⟨_, List.getElem?_eq_getElem hlt⟩
      have hrd : readAt (rows es) i 0 1 false = some (.v (.int .i32 v)) := by simp [rows, hv, aR]
      have hT' := TI.put a_1 a_2 a_3 a_4 a_5 a_6 a_7 a_8 a_9 a_10 a_11 a_12 a_13 a_14 a_15 a_16 hT (q := q) (some ⟨1, rows (es.set i (IntKind.i32.wrap (v + 1))), true, false⟩) q11 q5 qr
      have hnext := ih (i + 1) (es.set i (IntKind.i32.wrap (v + 1))) (.osl q 0 es.length c) (H.put q (some ⟨1, rows (es.set i (IntKind.i32.wrap (v + 1))), true, false⟩)) (by simp; omega) (by simpa using hes) hT'
        (by rw [Heap.get_put, if_neg q17]; exact hp) (by rw [Heap.get_put, if_neg q23]; exact ht)
        (by
          rcases hmp with h | ⟨q', c', rfl, h1, h2⟩
          · exact .inl h
          · refine .inr ⟨q', c', rfl, ?_, h2⟩
            rw [Heap.get_put, if_neg (by rintro rfl; exact qp rfl)]
            exact h1)
        (.inr ⟨q, c, by simp, by rw [Heap.get_put, if_pos rfl], q5, q11, q17, q23, qr, qp⟩)
      clear ih
      have hrs := writeAt_rows hv (IntKind.i32.wrap (v + 1))
      have hlen : (rows es).length = es.length := by simp
      refine vc_w09_OpTells_13 _ _ _ _ _ _ _ _ _ _ _ fun g => ?_
      clear hQ hT hT' hmp
      simp [new_ne, ne_new, new_ne1, ne_new1, gen_put', *, VC_w09_OpTells_13]
      exact hnext
end
end Go.Proofs.Ytehkjjcdkbcebaa
