/-
  The law that the program and the document tell the same of chains: its run. No statement of a seat is proved here.
-/
import Derived.Test.YtjampffmlnplcaaChTw
import Derived.Test.YtjampffmlnplcaaRcVl9
set_option linter.unusedVariables false
set_option linter.unusedSimpArgs false
set_option linter.unusedSectionVars false
set_option linter.unnecessarySimpa false
set_option maxRecDepth 100000
namespace Go.Proofs.Ytjampffmlnplcaa
open Go.Ab
attribute [local simp] depth_eq callRes_V callG_data callG_frz callG_own keep thr appRes_G appFine_n appFine_s appG_n appG_s roomB appRes_I islFine_some islG_ne List.take_of_length_le sB_lit

set_option maxHeartbeats 4000000 in
theorem tells_law {l : List (Opn × AV)} {x0 : AV} (hx : Sl 17 (encOs l) x0) (hall : ∀ p ∈ l, Sl 1 (rows p.1.l) p.2) (hR : ∀ p ∈ l, rangeR p.1.l) (hN : ∀ p ∈ l, p.1.l.length ≤ 1048576) (a_1 : UInt8) (a_2 : UInt8) (a_3 : UInt32) (a_4 : UInt8) (a_5 : Int) (a_6 : UInt8) (a_7 : UInt32) (a_8 : UInt8) (a_9 : Int) (a_10 : Int) (a_11 : UInt8) (a_12 : UInt32) (a_13 : UInt8) (a_14 : Int) (a_15 : UInt8) (a_16 : UInt32) {x : AV} {al : List Int} (hax : Sl 1 (rows al) x) (har : rangeR al) (b_1 : UInt8) (b_2 : UInt32) (b_3 : UInt8) (b_4 : Int) (v1 : UInt8) (v2 : UInt32) :
    limf env 9 [x0, .agg [a8 a_1, a8 a_2, a32 a_3, a8 a_4, aI a_5, a8 a_6, a32 a_7, a8 a_8, aI a_9, aI a_10, a8 a_11, a32 a_12, a8 a_13, aI a_14, a8 a_15, a32 a_16, x], .agg [a8 b_1, a32 b_2, a8 b_3, aI b_4], .agg [a8 v1, a32 v2]] = some (aB true) := by
  refine limf_of (fn := Try.f9) (c := bd_blindstamplaw18_ChainTells) rfl (by kernel_rfl) (by kernel_rfl) (by kernel_rfl) (by kernel_rfl) ?_; refine vc_blindstamplaw18_ChainTells _ _ _ _ _ _ fun g => ?_
  obtain ⟨gb, hgr, _⟩ := s_Great hx hall 40
  have hn := hx.len
  have hn2 := hax.len
  have hrl : (rows al).length = al.length := by simp [rows]
  by_cases b1 : (2060 : Int) < l.length
  · have b0 : ¬ (l.length : Int) ≤ 2048 := by omega
    clear hall hR hN
    cases gb <;> simp [new_ne, ne_new, new_ne1, ne_new1, gen_put', *, VC_blindstamplaw18_ChainTells, hx.r, hax.r]
  by_cases b2 : (300 : Int) < al.length
  · clear hall hR hN
    by_cases b0 : (l.length : Int) ≤ 2048 <;> cases gb <;> simp [new_ne, ne_new, new_ne1, ne_new1, gen_put', *, VC_blindstamplaw18_ChainTells, hx.r, hax.r]
  have hok : ∀ p ∈ l, okO p := fun p hp => ⟨hall p hp, by have := hN p hp; omega⟩
  have hl : l.length < 100000 := by omega
  have hxo := outI_sl 17 (encOs (twinOs l))
  have hxa := outI_sl 1 (rows al)
  have hl' : (twinOs l).length < 100000 := by rw [twinOs_len]; exact hl
  have c1 := s_TwinOps hx hok hl
  have c2 := s_R9Twin a_1 a_2 a_3 a_4 a_5 a_6 a_7 a_8 a_9 a_10 a_11 a_12 a_13 a_14 a_15 a_16 hax (by omega)
  have c3 := s_Chain hxo (twin_ok hok) hl' b_1 b_2 b_3 b_4 v1 v2
  have c4 := s_R18Chain hx hok hR hl b_1 b_2 b_3 b_4 v1 v2
  have c5 := s_Shown hxo (twin_ok hok) hl' b_1 b_2 b_3 b_4 v1 v2
  have c6 := s_R18Shown hx hok hR hl b_1 b_2 b_3 b_4 v1 v2
  have c7 := s_ChFits hxo (twin_ok hok) hl' a_1 a_2 a_3 a_4 a_5 a_6 a_7 a_8 a_9 a_10 a_11 a_12 a_13 a_14 a_15 a_16 hxa (by omega)
  have c8 := s_R18Fits hx hok hR hl a_1 a_2 a_3 a_4 a_5 a_6 a_7 a_8 a_9 a_10 a_11 a_12 a_13 a_14 a_15 a_16 hax (by omega) har
  have c9 := s_ChCheck hxo (twin_ok hok) hl'
  have c10 := s_R18Check hx hok hR hl
  have c11 := s_SameOps hxo hx (twin_ok hok) hok hl' (opsOf_twin l)
  have c12 := s_R9Same a_1 a_2 a_3 a_4 a_5 a_6 a_7 a_8 a_9 a_10 a_11 a_12 a_13 a_14 a_15 a_16 hxa hax (by omega)
  have ml := madeL_len (opsOf l) (⟨⟨b_1, b_2, b_3⟩, b_4⟩ : Idd) ⟨v1, v2⟩
  rw [show (opsOf l).length = l.length from List.length_map _] at ml
  have c13 := s_SameL (capM_sl (madeL (opsOf l) (⟨⟨b_1, b_2, b_3⟩, b_4⟩ : Idd) ⟨v1, v2⟩)) (capM_sl (madeL (opsOf l) (⟨⟨b_1, b_2, b_3⟩, b_4⟩ : Idd) ⟨v1, v2⟩)) (by omega)
  rw [decide_eq_true rfl] at c13
  have c14 := s_SameL (x := aNil) (y := aNil) (l := []) (m := []) (.inl ⟨rfl, rfl⟩) (.inl ⟨rfl, rfl⟩) (by simp)
  rw [decide_eq_true rfl] at c14
  rw [opsOf_twin] at c3 c5 c7 c9
  clear hall hR hN hok ml hl' har
  generalize outI 17 (encOs (twinOs l)) = xo at *
  generalize outI 1 (rows al) = xa at *
  generalize shownB (opsOf l) (⟨⟨b_1, b_2, b_3⟩, b_4⟩ : Idd) ⟨v1, v2⟩ = z1 at *
  generalize fitsL (opsOf l) (⟨a_1, ⟨a_2, a_3, a_4⟩, a_5, ⟨⟨⟨a_6, a_7, a_8⟩, a_9⟩, a_10⟩, ⟨⟨a_11, a_12, a_13⟩, a_14⟩, ⟨a_15, a_16⟩, al⟩ : Opn) = z2 at *
  generalize madeL (opsOf l) (⟨⟨b_1, b_2, b_3⟩, b_4⟩ : Idd) ⟨v1, v2⟩ = z3 at *
  generalize askedE (opsOf l) (⟨⟨b_1, b_2, b_3⟩, b_4⟩ : Idd) ⟨v1, v2⟩ = z4 at *
  generalize checkE (opsOf l) = z5 at *
  generalize opB (⟨a_1, ⟨a_2, a_3, a_4⟩, a_5, ⟨⟨⟨a_6, a_7, a_8⟩, a_9⟩, a_10⟩, ⟨⟨a_11, a_12, a_13⟩, a_14⟩, ⟨a_15, a_16⟩, al⟩ : Opn) = z6 at *
  have f1 : (300 < al.length) = False := by simp only [eq_iff_iff, iff_false]; omega
  have f2 : (2060 < l.length) = False := by simp only [eq_iff_iff, iff_false]; omega
  have key : gb = false ∨ ¬ (l.length : Int) ≤ 2048 → VC_blindstamplaw18_ChainTells g x0 (.agg [a8 a_1, a8 a_2, a32 a_3, a8 a_4, aI a_5, a8 a_6, a32 a_7, a8 a_8, aI a_9, aI a_10, a8 a_11, a32 a_12, a8 a_13, aI a_14, a8 a_15, a32 a_16, x]) (.agg [a8 b_1, a32 b_2, a8 b_3, aI b_4]) (.agg [a8 v1, a32 v2]) [] (fun y H => view H.get depth y = some (aB true)) := by
    intro hg
    by_cases e4 : z4 = 0
    · rw [if_pos e4] at c3 c4 c5 c6
      subst e4
      by_cases e5 : z5 = 0
      · rw [if_pos e5] at c7 c8
        subst e5
        rcases hg with rfl | hg
        · by_cases b0 : (l.length : Int) ≤ 2048 <;> cases z6 <;> simp [new_ne, ne_new, new_ne1, ne_new1, gen_put', *, VC_blindstamplaw18_ChainTells, hx.r, hax.r, hxo.r, hxa.r]
        · cases gb <;> cases z6 <;> simp [new_ne, ne_new, new_ne1, ne_new1, gen_put', *, VC_blindstamplaw18_ChainTells, hx.r, hax.r, hxo.r, hxa.r]
      · rw [if_neg e5] at c7 c8
        rcases hg with rfl | hg
        · by_cases b0 : (l.length : Int) ≤ 2048 <;> simp [new_ne, ne_new, new_ne1, ne_new1, gen_put', *, VC_blindstamplaw18_ChainTells, hx.r, hax.r, hxo.r, hxa.r]
        · cases gb <;> simp [new_ne, ne_new, new_ne1, ne_new1, gen_put', *, VC_blindstamplaw18_ChainTells, hx.r, hax.r, hxo.r, hxa.r]
    · rw [if_neg e4] at c3 c4 c5 c6
      by_cases e5 : z5 = 0
      · rw [if_pos e5] at c7 c8
        subst e5
        rcases hg with rfl | hg
        · by_cases b0 : (l.length : Int) ≤ 2048 <;> cases z6 <;> simp [new_ne, ne_new, new_ne1, ne_new1, gen_put', *, VC_blindstamplaw18_ChainTells, hx.r, hax.r, hxo.r, hxa.r]
        · cases gb <;> cases z6 <;> simp [new_ne, ne_new, new_ne1, ne_new1, gen_put', *, VC_blindstamplaw18_ChainTells, hx.r, hax.r, hxo.r, hxa.r]
      · rw [if_neg e5] at c7 c8
        rcases hg with rfl | hg
        · by_cases b0 : (l.length : Int) ≤ 2048 <;> simp [new_ne, ne_new, new_ne1, ne_new1, gen_put', *, VC_blindstamplaw18_ChainTells, hx.r, hax.r, hxo.r, hxa.r]
        · cases gb <;> simp [new_ne, ne_new, new_ne1, ne_new1, gen_put', *, VC_blindstamplaw18_ChainTells, hx.r, hax.r, hxo.r, hxa.r]
  by_cases b0 : (l.length : Int) ≤ 2048
  · cases gb
    · exact key (.inl rfl)
    · clear key c3 c4 c5 c6 c7 c8
      simp [new_ne, ne_new, new_ne1, ne_new1, gen_put', *, VC_blindstamplaw18_ChainTells, hx.r, hax.r]
  · exact key (.inr b0)
end Go.Proofs.Ytjampffmlnplcaa
