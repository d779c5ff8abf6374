/-
  Operations told beside the document's answer: the law's own run. No statement of a seat is proved here.
-/
import Derived.Test.YtehkjjcdkbcebaaOpTw
set_option linter.unusedVariables false
set_option linter.unusedSimpArgs false
set_option linter.unnecessarySimpa false
set_option maxRecDepth 100000
namespace Go.Proofs.Ytehkjjcdkbcebaa
open Go.Ab
attribute [local simp] depth_eq callRes_V callG_data callG_frz callG_own keep thr appRes_G appFine_n appFine_s appG_n appG_s roomB appRes_I islFine_some islG_ne List.take_of_length_le sB_lit

theorem outI_sl (l : List Int) : Sl 1 (rows l) (outI 1 (rows l)) := by
  by_cases h : rows l = []
  · rw [h]; exact .inl ⟨rfl, rfl⟩
  · rw [outI_ne 1 h]; exact Sl.mk _ _
theorem tells_law (a_1 : UInt8) (a_2 : UInt8) (a_3 : UInt32) (a_4 : UInt8) (a_5 : Int) (a_6 : UInt8) (a_7 : UInt32) (a_8 : UInt8) (a_9 : Int) (a_10 : Int) (a_11 : UInt8) (a_12 : UInt32) (a_13 : UInt8) (a_14 : Int) (a_15 : UInt8) (a_16 : UInt32) (c_1 : UInt8) (c_2 : UInt8) (c_3 : UInt32) (c_4 : UInt8) (c_5 : Int) (c_6 : UInt8) (c_7 : UInt32) (c_8 : UInt8) (c_9 : Int) (c_10 : Int) (c_11 : UInt8) (c_12 : UInt32) (c_13 : UInt8) (c_14 : Int) (c_15 : UInt8) (c_16 : UInt32) {x y xb : AV} {l m : List Int} {b : List UInt8} (kd : UInt8) (mn : Int) (hx : Sl 1 (rows l) x) (hR : ∀ a ∈ l, -2147483648 ≤ a ∧ a ≤ 2147483647) (hy : Sl 1 (rows m) y) (hb : Sl 1 (by8 b) xb) :
    limf env 6 [.agg [a8 a_1, a8 a_2, a32 a_3, a8 a_4, aI a_5, a8 a_6, a32 a_7, a8 a_8, aI a_9, aI a_10, a8 a_11, a32 a_12, a8 a_13, aI a_14, a8 a_15, a32 a_16, x], .agg [a8 c_1, a8 c_2, a32 c_3, a8 c_4, aI c_5, a8 c_6, a32 c_7, a8 c_8, aI c_9, aI c_10, a8 c_11, a32 c_12, a8 c_13, aI c_14, a8 c_15, a32 c_16, y], xb, a8 kd, aI mn] = some (aB true) := by
  refine limf_of (fn := Try.f6) (c := bd_w09_OpTells) rfl (by kernel_rfl) (by kernel_rfl) (by kernel_rfl) (by kernel_rfl) ?_; refine vc_w09_OpTells _ _ _ _ _ _ _ fun g => ?_
  have rx := hx.r
  have ry := hy.r
  have rb := hb.r
  by_cases g1 : (1000 : Int) < l.length
  · simp [new_ne, ne_new, new_ne1, ne_new1, gen_put', *, VC_w09_OpTells]
  by_cases g2 : (1000 : Int) < m.length
  · simp [new_ne, ne_new, new_ne1, ne_new1, gen_put', *, VC_w09_OpTells]
  by_cases g3 : (1000 : Int) < b.length
  · simp [new_ne, ne_new, new_ne1, ne_new1, gen_put', *, VC_w09_OpTells]
  have hw := outI_sl l
  have hTw := s_R9Twin a_1 a_2 a_3 a_4 a_5 a_6 a_7 a_8 a_9 a_10 a_11 a_12 a_13 a_14 a_15 a_16 hx (by omega)
  have hot := s_OpTwin a_1 a_2 a_3 a_4 a_5 a_6 a_7 a_8 a_9 a_10 a_11 a_12 a_13 a_14 a_15 a_16 (l := l) (by omega)
  have hT : (outA 1 (rows l) = aNil ∧ l = []) ∨ (outA 1 (rows l) = .fsl 1 (rows l) none ∧ rows l ≠ []) := by
    by_cases h : rows l = []
    · left; rw [h]; exact ⟨rfl, by simpa using h⟩
    · right; exact ⟨outA_ne 1 h, h⟩
  generalize outI 1 (rows l) = w at *
  generalize outA 1 (rows l) = T at *
  have rw_ := hw.r
  have hput := s_OpPut a_1 a_2 a_3 a_4 a_5 a_6 a_7 a_8 a_9 a_10 a_11 a_12 a_13 a_14 a_15 a_16 hw (by omega)
  have hrput := s_R9Put a_1 a_2 a_3 a_4 a_5 a_6 a_7 a_8 a_9 a_10 a_11 a_12 a_13 a_14 a_15 a_16 hx (by omega) hR
  have hchk := s_OpCheck a_1 a_2 a_3 a_4 a_5 a_6 a_7 a_8 a_9 a_10 a_11 a_12 a_13 a_14 a_15 a_16 hw (by omega)
  have hrchk := s_R9Check a_1 a_2 a_3 a_4 a_5 a_6 a_7 a_8 a_9 a_10 a_11 a_12 a_13 a_14 a_15 a_16 hx (by omega) hR
  have hpl := s_OpPlain a_1 a_2 a_3 a_4 a_5 a_6 a_7 a_8 a_9 a_10 a_11 a_12 a_13 a_14 a_15 a_16 hw (by omega)
  have hrpl := s_R9Plain a_1 a_2 a_3 a_4 a_5 a_6 a_7 a_8 a_9 a_10 a_11 a_12 a_13 a_14 a_15 a_16 hx (by omega)
  have hsz := s_OpSizeA kd mn
  have hrsz := s_R9Size kd mn
  have hs1 := s_OpSame a_1 a_2 a_3 a_4 a_5 a_6 a_7 a_8 a_9 a_10 a_11 a_12 a_13 a_14 a_15 a_16 c_1 c_2 c_3 c_4 c_5 c_6 c_7 c_8 c_9 c_10 c_11 c_12 c_13 c_14 c_15 c_16 hw hy (by omega)
  have hs2 := s_R9SameG a_1 a_2 a_3 a_4 a_5 a_6 a_7 a_8 a_9 a_10 a_11 a_12 a_13 a_14 a_15 a_16 c_1 c_2 c_3 c_4 c_5 c_6 c_7 c_8 c_9 c_10 c_11 c_12 c_13 c_14 c_15 c_16 hx hy (by omega) (by omega)
  have hs3 := s_OpSame a_1 a_2 a_3 a_4 a_5 a_6 a_7 a_8 a_9 a_10 a_11 a_12 a_13 a_14 a_15 a_16 a_1 a_2 a_3 a_4 a_5 a_6 a_7 a_8 a_9 a_10 a_11 a_12 a_13 a_14 a_15 a_16 hw hx (by omega)
  rw [sameB_refl] at hs3
  have hs4 := fun (t : AV) (ht : Sl 1 (rows l) t) => s_R9SameG a_1 a_2 a_3 a_4 a_5 a_6 a_7 a_8 a_9 a_10 a_11 a_12 a_13 a_14 a_15 a_16 a_1 a_2 a_3 a_4 a_5 a_6 a_7 a_8 a_9 a_10 a_11 a_12 a_13 a_14 a_15 a_16 ht hx (by omega) (by omega)
  rw [sameB_refl] at hs4
  obtain ⟨z, e, bs, hzz, hzs⟩ : ∃ z e bs, putA (⟨a_1, ⟨a_2, a_3, a_4⟩, a_5, ⟨⟨⟨a_6, a_7, a_8⟩, a_9⟩, a_10⟩, ⟨⟨a_11, a_12, a_13⟩, a_14⟩, ⟨a_15, a_16⟩, l⟩ : Opn) = .tup [z, aI e] ∧ Sl 1 (by8 bs) z := by
    unfold putA
    split
    · exact ⟨_, _, _, rfl, Sl.mk _ _⟩
    · exact ⟨_, _, [], rfl, .inl ⟨rfl, rfl⟩⟩
  rw [hzz] at hput hrput
  have rz := hzs.r
  have cz := fun (g : Get) (r : Ref) => Sl.conv (P := env.P) (src := 34) (dst := 9) hzs (by kernel_rfl) (by kernel_rfl) g r
  clear hzz
  generalize sameB (⟨a_1, ⟨a_2, a_3, a_4⟩, a_5, ⟨⟨⟨a_6, a_7, a_8⟩, a_9⟩, a_10⟩, ⟨⟨a_11, a_12, a_13⟩, a_14⟩, ⟨a_15, a_16⟩, l⟩ : Opn) (⟨c_1, ⟨c_2, c_3, c_4⟩, c_5, ⟨⟨⟨c_6, c_7, c_8⟩, c_9⟩, c_10⟩, ⟨⟨c_11, c_12, c_13⟩, c_14⟩, ⟨c_15, c_16⟩, m⟩ : Opn) = sm at *
  generalize sizeA kd mn = sz at *
  generalize decide (-1 ∈ l) = pl at *
  generalize bad (opB (⟨a_1, ⟨a_2, a_3, a_4⟩, a_5, ⟨⟨⟨a_6, a_7, a_8⟩, a_9⟩, a_10⟩, ⟨⟨a_11, a_12, a_13⟩, a_14⟩, ⟨a_15, a_16⟩, l⟩ : Opn)) = er0 at *
  obtain ⟨p_1, p_2, p_3, p_4, p_5, p_6, p_7, p_8, p_9, p_10, p_11, p_12, p_13, p_14, p_15, p_16, pm, rp, rq, n, er, hg1, hg2, hrp, hrq, hpl2⟩ : ∃ (p_1 : UInt8) (p_2 : UInt8) (p_3 : UInt32) (p_4 : UInt8) (p_5 : Int) (p_6 : UInt8) (p_7 : UInt32) (p_8 : UInt8) (p_9 : Int) (p_10 : Int) (p_11 : UInt8) (p_12 : UInt32) (p_13 : UInt8) (p_14 : Int) (p_15 : UInt8) (p_16 : UInt32) (pm : List Int) (rp rq : AV) (n er : Int), getAns b = .tup [.agg [a8 p_1, a8 p_2, a32 p_3, a8 p_4, aI p_5, a8 p_6, a32 p_7, a8 p_8, aI p_9, aI p_10, a8 p_11, a32 p_12, a8 p_13, aI p_14, a8 p_15, a32 p_16, rp], aI n, aI er] ∧ getAnsR b = .tup [.agg [a8 p_1, a8 p_2, a32 p_3, a8 p_4, aI p_5, a8 p_6, a32 p_7, a8 p_8, aI p_9, aI p_10, a8 p_11, a32 p_12, a8 p_13, aI p_14, a8 p_15, a32 p_16, rq], aI n, aI er] ∧ ((rp = aNil ∧ pm = []) ∨ (rp = .fsl 1 (rows pm) none ∧ rows pm ≠ [])) ∧ Sl 1 (rows pm) rq ∧ pm.length < 100000 := by
    unfold getAns getAnsR
    by_cases hg : getOk b = true
    · rw [if_pos hg, if_pos hg]
      have ho := (bytes_raw hg).2.1
      have hml : (rawO b).l.length < 100000 := by
        rcases (opB_parts ho) with ⟨_, _, _, _, h64, ⟨_, _, _, h, _⟩ | ⟨_, _, _, h⟩ | ⟨_, _, h, _⟩⟩
        · omega
        · rw [h]; simp
        · rw [h]; simp
      generalize rawO b = o at *
      obtain ⟨p_1, ⟨p_2, p_3, p_4⟩, p_5, ⟨⟨⟨p_6, p_7, p_8⟩, p_9⟩, p_10⟩, ⟨⟨p_11, p_12, p_13⟩, p_14⟩, ⟨p_15, p_16⟩, pm⟩ := o
      refine ⟨p_1, p_2, p_3, p_4, p_5, p_6, p_7, p_8, p_9, p_10, p_11, p_12, p_13, p_14, p_15, p_16, pm, _, _, _, _, rfl, rfl, ?_, runG_sl pm, hml⟩
      by_cases h : rows pm = []
      · left
        have : pm = [] := by simpa using h
        subst this; exact ⟨rfl, rfl⟩
      · right; exact ⟨outA_ne 1 h, h⟩
    · rw [if_neg hg, if_neg hg]
      exact ⟨0, 0, 0, 0, 0, 0, 0, 0, 0, 0, 0, 0, 0, 0, 0, 0, [], aNil, aNil, 0, 8, rfl, rfl, .inl ⟨rfl, rfl⟩, .inl ⟨rfl, rfl⟩, by simp⟩
  have hrget := s_R9Get hb (by omega)
  rw [hg2] at hrget
  have hget := fun (v : AV) (hv : Sl 1 (by8 b) v) => s_OpGet hv (by omega)
  rw [hg1] at hget
  have rq_ := hrq.r
  have hs5 := fun (t : AV) (ht : Sl 1 (rows pm) t) => s_R9SameG p_1 p_2 p_3 p_4 p_5 p_6 p_7 p_8 p_9 p_10 p_11 p_12 p_13 p_14 p_15 p_16 p_1 p_2 p_3 p_4 p_5 p_6 p_7 p_8 p_9 p_10 p_11 p_12 p_13 p_14 p_15 p_16 ht hrq (by omega) (by omega)
  rw [sameB_refl] at hs5
  clear hg1 hg2
  have f1 : b.length ≤ 140737488355328 := by omega
  have hQ := fun H' : Heap => show view H'.get 8 (aB true) = some (aB true) from rfl
  have hll : l.length < 100000 := by omega
  have hbe := hb.elsOf
  have hrawE : (by8 b = [] ∧ b = []) ∨ by8 b ≠ [] := by
    by_cases h : by8 b = []
    · exact .inl ⟨h, by simpa [by8] using h⟩
    · exact .inr h
  rcases hrawE with ⟨hb0, hb00⟩ | hb0
  · have hg0 := hget aNil (.inl ⟨rfl, hb0⟩)
    rw [hb0] at hbe
    rcases hT with ⟨rfl, hl0⟩ | ⟨rfl, hl0⟩
    · rcases hrp with ⟨rfl, hp0⟩ | ⟨rfl, hp0⟩
      · have h4 := hs4 aNil (.inl ⟨rfl, by rw [hl0]; rfl⟩)
        have h5 := hs5 aNil (.inl ⟨rfl, by rw [hp0]; rfl⟩)
        clear hs4 hs5 hget
        simp [new_ne, ne_new, new_ne1, ne_new1, gen_put', *, VC_w09_OpTells]
        refine spoil13 a_1 a_2 a_3 a_4 a_5 a_6 a_7 a_8 a_9 a_10 a_11 a_12 a_13 a_14 a_15 a_16 hx hw hll hb (r5 := ⟨0, 5, 0, 0⟩) (r11 := ⟨0, 11, 0, 0⟩) (r17 := ⟨0, 17, 0, 0⟩) (by decide) (by decide) (by decide) (fun H' => by simp) p_1 p_2 p_3 p_4 p_5 p_6 p_7 p_8 p_9 p_10 p_11 p_12 p_13 p_14 p_15 p_16 a_1 a_2 a_3 a_4 a_5 a_6 a_7 a_8 a_9 a_10 a_11 a_12 a_13 a_14 a_15 a_16 (r23 := ⟨0, 23, 0, 0⟩) (by decide) (by decide) (by decide) (es2 := pm) hpl2 l.length 0 l _ _ (by omega) hll ⟨rfl, rfl, ?_⟩ rfl rfl ?_ ?_
        · exact .inl ⟨rfl, hb00⟩
        · exact .inl ⟨rfl, hp0⟩
        · exact .inl ⟨rfl, hl0⟩
      · have h4 := hs4 aNil (.inl ⟨rfl, by rw [hl0]; rfl⟩)
        have h5 := hs5 (.isl 1 (rows pm) none) (Sl.mk _ _)
        clear hs4 hs5 hget
        simp [new_ne, ne_new, new_ne1, ne_new1, gen_put', *, VC_w09_OpTells]
        refine spoil13 a_1 a_2 a_3 a_4 a_5 a_6 a_7 a_8 a_9 a_10 a_11 a_12 a_13 a_14 a_15 a_16 hx hw hll hb (r5 := ⟨0, 5, 0, 0⟩) (r11 := ⟨0, 11, 0, 0⟩) (r17 := ⟨0, 17, 0, 0⟩) (by decide) (by decide) (by decide) (fun H' => by simp) p_1 p_2 p_3 p_4 p_5 p_6 p_7 p_8 p_9 p_10 p_11 p_12 p_13 p_14 p_15 p_16 a_1 a_2 a_3 a_4 a_5 a_6 a_7 a_8 a_9 a_10 a_11 a_12 a_13 a_14 a_15 a_16 (r23 := ⟨0, 23, 0, 0⟩) (by decide) (by decide) (by decide) (es2 := pm) hpl2 l.length 0 l _ _ (by omega) hll ⟨rfl, rfl, ?_⟩ rfl rfl ?_ ?_
        · exact .inl ⟨rfl, hb00⟩
        · exact .inr ⟨_, _, rfl, rfl, by simp, by simp, by simp, by simp⟩
        · exact .inl ⟨rfl, hl0⟩
    · rcases hrp with ⟨rfl, hp0⟩ | ⟨rfl, hp0⟩
      · have h4 := hs4 (.isl 1 (rows l) none) (Sl.mk _ _)
        have h5 := hs5 aNil (.inl ⟨rfl, by rw [hp0]; rfl⟩)
        clear hs4 hs5 hget
        simp [new_ne, ne_new, new_ne1, ne_new1, gen_put', *, VC_w09_OpTells]
        refine spoil13 a_1 a_2 a_3 a_4 a_5 a_6 a_7 a_8 a_9 a_10 a_11 a_12 a_13 a_14 a_15 a_16 hx hw hll hb (r5 := ⟨0, 5, 0, 0⟩) (r11 := ⟨0, 11, 0, 0⟩) (r17 := ⟨0, 17, 0, 0⟩) (by decide) (by decide) (by decide) (fun H' => by simp) p_1 p_2 p_3 p_4 p_5 p_6 p_7 p_8 p_9 p_10 p_11 p_12 p_13 p_14 p_15 p_16 a_1 a_2 a_3 a_4 a_5 a_6 a_7 a_8 a_9 a_10 a_11 a_12 a_13 a_14 a_15 a_16 (r23 := ⟨0, 23, 0, 0⟩) (by decide) (by decide) (by decide) (es2 := pm) hpl2 l.length 0 l _ _ (by omega) hll ⟨rfl, rfl, ?_⟩ rfl rfl ?_ ?_
        · exact .inl ⟨rfl, hb00⟩
        · exact .inl ⟨rfl, hp0⟩
        · exact .inr ⟨_, _, rfl, rfl, by simp, by simp, by simp, by simp, by simp, by simp⟩
      · have h4 := hs4 (.isl 1 (rows l) none) (Sl.mk _ _)
        have h5 := hs5 (.isl 1 (rows pm) none) (Sl.mk _ _)
        clear hs4 hs5 hget
        simp [new_ne, ne_new, new_ne1, ne_new1, gen_put', *, VC_w09_OpTells]
        refine spoil13 a_1 a_2 a_3 a_4 a_5 a_6 a_7 a_8 a_9 a_10 a_11 a_12 a_13 a_14 a_15 a_16 hx hw hll hb (r5 := ⟨0, 5, 0, 0⟩) (r11 := ⟨0, 11, 0, 0⟩) (r17 := ⟨0, 17, 0, 0⟩) (by decide) (by decide) (by decide) (fun H' => by simp) p_1 p_2 p_3 p_4 p_5 p_6 p_7 p_8 p_9 p_10 p_11 p_12 p_13 p_14 p_15 p_16 a_1 a_2 a_3 a_4 a_5 a_6 a_7 a_8 a_9 a_10 a_11 a_12 a_13 a_14 a_15 a_16 (r23 := ⟨0, 23, 0, 0⟩) (by decide) (by decide) (by decide) (es2 := pm) hpl2 l.length 0 l _ _ (by omega) hll ⟨rfl, rfl, ?_⟩ rfl rfl ?_ ?_
        · exact .inl ⟨rfl, hb00⟩
        · exact .inr ⟨_, _, rfl, rfl, by simp, by simp, by simp, by simp⟩
        · exact .inr ⟨_, _, rfl, rfl, by simp, by simp, by simp, by simp, by simp, by simp⟩
  · have hg0 := hget (.isl 1 (by8 b) none) (Sl.mk _ _)
    rcases hT with ⟨rfl, hl0⟩ | ⟨rfl, hl0⟩
    · rcases hrp with ⟨rfl, hp0⟩ | ⟨rfl, hp0⟩
      · have h4 := hs4 aNil (.inl ⟨rfl, by rw [hl0]; rfl⟩)
        have h5 := hs5 aNil (.inl ⟨rfl, by rw [hp0]; rfl⟩)
        clear hs4 hs5 hget
        simp [new_ne, ne_new, new_ne1, ne_new1, gen_put', *, VC_w09_OpTells]
        refine spoil13 a_1 a_2 a_3 a_4 a_5 a_6 a_7 a_8 a_9 a_10 a_11 a_12 a_13 a_14 a_15 a_16 hx hw hll hb (r5 := ⟨0, 5, 0, 0⟩) (r11 := ⟨0, 11, 0, 0⟩) (r17 := ⟨0, 17, 0, 0⟩) (by decide) (by decide) (by decide) (fun H' => by simp) p_1 p_2 p_3 p_4 p_5 p_6 p_7 p_8 p_9 p_10 p_11 p_12 p_13 p_14 p_15 p_16 a_1 a_2 a_3 a_4 a_5 a_6 a_7 a_8 a_9 a_10 a_11 a_12 a_13 a_14 a_15 a_16 (r23 := ⟨0, 23, 0, 0⟩) (by decide) (by decide) (by decide) (es2 := pm) hpl2 l.length 0 l _ _ (by omega) hll ⟨rfl, rfl, ?_⟩ rfl rfl ?_ ?_
        · exact .inr ⟨_, _, _, rfl, rfl⟩
        · exact .inl ⟨rfl, hp0⟩
        · exact .inl ⟨rfl, hl0⟩
      · have h4 := hs4 aNil (.inl ⟨rfl, by rw [hl0]; rfl⟩)
        have h5 := hs5 (.isl 1 (rows pm) none) (Sl.mk _ _)
        clear hs4 hs5 hget
        simp [new_ne, ne_new, new_ne1, ne_new1, gen_put', *, VC_w09_OpTells]
        refine spoil13 a_1 a_2 a_3 a_4 a_5 a_6 a_7 a_8 a_9 a_10 a_11 a_12 a_13 a_14 a_15 a_16 hx hw hll hb (r5 := ⟨0, 5, 0, 0⟩) (r11 := ⟨0, 11, 0, 0⟩) (r17 := ⟨0, 17, 0, 0⟩) (by decide) (by decide) (by decide) (fun H' => by simp) p_1 p_2 p_3 p_4 p_5 p_6 p_7 p_8 p_9 p_10 p_11 p_12 p_13 p_14 p_15 p_16 a_1 a_2 a_3 a_4 a_5 a_6 a_7 a_8 a_9 a_10 a_11 a_12 a_13 a_14 a_15 a_16 (r23 := ⟨0, 23, 0, 0⟩) (by decide) (by decide) (by decide) (es2 := pm) hpl2 l.length 0 l _ _ (by omega) hll ⟨rfl, rfl, ?_⟩ rfl rfl ?_ ?_
        · exact .inr ⟨_, _, _, rfl, rfl⟩
        · exact .inr ⟨_, _, rfl, rfl, by simp, by simp, by simp, by simp⟩
        · exact .inl ⟨rfl, hl0⟩
    · rcases hrp with ⟨rfl, hp0⟩ | ⟨rfl, hp0⟩
      · have h4 := hs4 (.isl 1 (rows l) none) (Sl.mk _ _)
        have h5 := hs5 aNil (.inl ⟨rfl, by rw [hp0]; rfl⟩)
        clear hs4 hs5 hget
        simp [new_ne, ne_new, new_ne1, ne_new1, gen_put', *, VC_w09_OpTells]
        refine spoil13 a_1 a_2 a_3 a_4 a_5 a_6 a_7 a_8 a_9 a_10 a_11 a_12 a_13 a_14 a_15 a_16 hx hw hll hb (r5 := ⟨0, 5, 0, 0⟩) (r11 := ⟨0, 11, 0, 0⟩) (r17 := ⟨0, 17, 0, 0⟩) (by decide) (by decide) (by decide) (fun H' => by simp) p_1 p_2 p_3 p_4 p_5 p_6 p_7 p_8 p_9 p_10 p_11 p_12 p_13 p_14 p_15 p_16 a_1 a_2 a_3 a_4 a_5 a_6 a_7 a_8 a_9 a_10 a_11 a_12 a_13 a_14 a_15 a_16 (r23 := ⟨0, 23, 0, 0⟩) (by decide) (by decide) (by decide) (es2 := pm) hpl2 l.length 0 l _ _ (by omega) hll ⟨rfl, rfl, ?_⟩ rfl rfl ?_ ?_
        · exact .inr ⟨_, _, _, rfl, rfl⟩
        · exact .inl ⟨rfl, hp0⟩
        · exact .inr ⟨_, _, rfl, rfl, by simp, by simp, by simp, by simp, by simp, by simp⟩
      · have h4 := hs4 (.isl 1 (rows l) none) (Sl.mk _ _)
        have h5 := hs5 (.isl 1 (rows pm) none) (Sl.mk _ _)
        clear hs4 hs5 hget
        simp [new_ne, ne_new, new_ne1, ne_new1, gen_put', *, VC_w09_OpTells]
        refine spoil13 a_1 a_2 a_3 a_4 a_5 a_6 a_7 a_8 a_9 a_10 a_11 a_12 a_13 a_14 a_15 a_16 hx hw hll hb (r5 := ⟨0, 5, 0, 0⟩) (r11 := ⟨0, 11, 0, 0⟩) (r17 := ⟨0, 17, 0, 0⟩) (by decide) (by decide) (by decide) (fun H' => by simp) p_1 p_2 p_3 p_4 p_5 p_6 p_7 p_8 p_9 p_10 p_11 p_12 p_13 p_14 p_15 p_16 a_1 a_2 a_3 a_4 a_5 a_6 a_7 a_8 a_9 a_10 a_11 a_12 a_13 a_14 a_15 a_16 (r23 := ⟨0, 23, 0, 0⟩) (by decide) (by decide) (by decide) (es2 := pm) hpl2 l.length 0 l _ _ (by omega) hll ⟨rfl, rfl, ?_⟩ rfl rfl ?_ ?_
        · exact .inr ⟨_, _, _, rfl, rfl⟩
        · exact .inr ⟨_, _, rfl, rfl, by simp, by simp, by simp, by simp⟩
        · exact .inr ⟨_, _, rfl, rfl, by simp, by simp, by simp, by simp, by simp, by simp⟩
end Go.Proofs.Ytehkjjcdkbcebaa
