/-
  An operation there and back: the law's own run. No statement of a seat is proved here.
-/
import Derived.Test.YtehkjjcdkbcebaaOpGet
import Derived.Test.YtehkjjcdkbcebaaOmVl3
set_option linter.unusedVariables false
set_option linter.unusedSimpArgs false
set_option linter.unusedSectionVars false
set_option linter.unnecessarySimpa false
set_option maxRecDepth 100000
namespace Go.Proofs.Ytehkjjcdkbcebaa
open Go.Ab
attribute [local simp] depth_eq callRes_V callG_data callG_frz callG_own keep thr appRes_G appFine_n appFine_s appG_n appG_s roomB appRes_I islFine_some islG_ne List.take_of_length_le sB_lit

theorem sizeK_le {o : Opn} (h : opB o = true) : 24 ≤ sizeK o ∧ sizeK o ≤ 293 := by
  have hp := opB_parts h
  unfold sizeK
  split
  · omega
  · split <;> omega
theorem by8_add (l m : List UInt8) : by8 (l ++ m) = by8 l ++ by8 m := by simp [by8]
theorem op_alive : limf env 13 [] = some (aB true) := limf_run_of (n := 40000) (by kernel_rfl)
theorem s_R9Same (a_1 : UInt8) (a_2 : UInt8) (a_3 : UInt32) (a_4 : UInt8) (a_5 : Int) (a_6 : UInt8) (a_7 : UInt32) (a_8 : UInt8) (a_9 : Int) (a_10 : Int) (a_11 : UInt8) (a_12 : UInt32) (a_13 : UInt8) (a_14 : Int) (a_15 : UInt8) (a_16 : UInt32) {x y : AV} {al : List Int} (hx : Sl 1 (rows al) x) (hy : Sl 1 (rows al) y) (hl : al.length < 1000000000) : limf env 16 [.agg [a8 a_1, a8 a_2, a32 a_3, a8 a_4, aI a_5, a8 a_6, a32 a_7, a8 a_8, aI a_9, aI a_10, a8 a_11, a32 a_12, a8 a_13, aI a_14, a8 a_15, a32 a_16, x], .agg [a8 a_1, a8 a_2, a32 a_3, a8 a_4, aI a_5, a8 a_6, a32 a_7, a8 a_8, aI a_9, aI a_10, a8 a_11, a32 a_12, a8 a_13, aI a_14, a8 a_15, a32 a_16, y]] = some (aB true) := by
  refine limf_of (fn := Try.f16) (c := bd_blindstampref09_Same) rfl (by kernel_rfl) (by kernel_rfl) (by kernel_rfl) (by kernel_rfl) ?_; refine vc_blindstampref09_Same _ _ _ _ fun g => ?_
  have h := s_RuSame hx hy (by omega)
  rw [decide_eq_true rfl] at h
  simp [new_ne, ne_new, new_ne1, ne_new1, gen_put', *, VC_blindstampref09_Same, hx.r, hy.r, eqA, eqFs]
/-- What op.Put answers. -/
def putA (o : Opn) : AV := if opB o then .tup [.isl 1 (by8 (opBytes o)) none, aI 0] else .tup [aNil, aI 8]
theorem s_OpPut (a_1 : UInt8) (a_2 : UInt8) (a_3 : UInt32) (a_4 : UInt8) (a_5 : Int) (a_6 : UInt8) (a_7 : UInt32) (a_8 : UInt8) (a_9 : Int) (a_10 : Int) (a_11 : UInt8) (a_12 : UInt32) (a_13 : UInt8) (a_14 : Int) (a_15 : UInt8) (a_16 : UInt32) {x : AV} {l : List Int} (hx : Sl 1 (rows l) x) (hl : l.length < 2000000) : limf env 14 [.agg [a8 a_1, a8 a_2, a32 a_3, a8 a_4, aI a_5, a8 a_6, a32 a_7, a8 a_8, aI a_9, aI a_10, a8 a_11, a32 a_12, a8 a_13, aI a_14, a8 a_15, a32 a_16, x]] = some (putA (⟨a_1, ⟨a_2, a_3, a_4⟩, a_5, ⟨⟨⟨a_6, a_7, a_8⟩, a_9⟩, a_10⟩, ⟨⟨a_11, a_12, a_13⟩, a_14⟩, ⟨a_15, a_16⟩, l⟩ : Opn)) := by
  unfold putA
  cases ho : opB (⟨a_1, ⟨a_2, a_3, a_4⟩, a_5, ⟨⟨⟨a_6, a_7, a_8⟩, a_9⟩, a_10⟩, ⟨⟨a_11, a_12, a_13⟩, a_14⟩, ⟨a_15, a_16⟩, l⟩ : Opn) with
  | false => rw [s_OpPutN a_1 a_2 a_3 a_4 a_5 a_6 a_7 a_8 a_9 a_10 a_11 a_12 a_13 a_14 a_15 a_16 hx hl ho]; rfl
  | true =>
    have hp := opB_parts ho
    rw [if_pos rfl]
    unfold opBytes
    rcases hp.2.2.2.2.2 with ⟨hk, _⟩ | ⟨hk, _⟩ | ⟨hk, _⟩
    · rw [s_OpPut1 a_1 a_2 a_3 a_4 a_5 a_6 a_7 a_8 a_9 a_10 a_11 a_12 a_13 a_14 a_15 a_16 hx hl ho hk, if_pos hk]
    · simp only at hk
      rw [s_OpPut2 a_1 a_2 a_3 a_4 a_5 a_6 a_7 a_8 a_9 a_10 a_11 a_12 a_13 a_14 a_15 a_16 hx hl ho hk, if_neg (by simp [hk]), if_neg (by simp [hk]), List.append_nil]
    · simp only at hk
      rw [s_OpPut3 a_1 a_2 a_3 a_4 a_5 a_6 a_7 a_8 a_9 a_10 a_11 a_12 a_13 a_14 a_15 a_16 hx hl ho hk, if_neg (by simp [hk]), if_pos hk]
theorem back_law (a_1 : UInt8) (a_2 : UInt8) (a_3 : UInt32) (a_4 : UInt8) (a_5 : Int) (a_6 : UInt8) (a_7 : UInt32) (a_8 : UInt8) (a_9 : Int) (a_10 : Int) (a_11 : UInt8) (a_12 : UInt32) (a_13 : UInt8) (a_14 : Int) (a_15 : UInt8) (a_16 : UInt32) {x xb : AV} {l : List Int} {b : List UInt8} (hx : Sl 1 (rows l) x) (hb : Sl 1 (by8 b) xb) : limf env 3 [.agg [a8 a_1, a8 a_2, a32 a_3, a8 a_4, aI a_5, a8 a_6, a32 a_7, a8 a_8, aI a_9, aI a_10, a8 a_11, a32 a_12, a8 a_13, aI a_14, a8 a_15, a32 a_16, x], xb] = some (aB true) := by
  refine limf_of (fn := Try.f3) (c := bd_blindstamplaw09_OpBack) rfl (by kernel_rfl) (by kernel_rfl) (by kernel_rfl) (by kernel_rfl) ?_; refine vc_blindstamplaw09_OpBack _ _ _ _ fun g => ?_
  have al := op_alive
  by_cases g1 : (1000 : Int) < l.length
  · simp [new_ne, ne_new, new_ne1, ne_new1, gen_put', *, VC_blindstamplaw09_OpBack, hx.r]
  by_cases g2 : (1000 : Int) < b.length
  · simp [new_ne, ne_new, new_ne1, ne_new1, gen_put', *, VC_blindstamplaw09_OpBack, hx.r, hb.r]
  have hput := s_OpPut a_1 a_2 a_3 a_4 a_5 a_6 a_7 a_8 a_9 a_10 a_11 a_12 a_13 a_14 a_15 a_16 hx (by omega)
  have hget2 := s_OpGet hb (by omega)
  -- the second half's facts
  have second : getAns b = getZ ∨ ∃ (c_1 : UInt8) (c_2 : UInt8) (c_3 : UInt32) (c_4 : UInt8) (c_5 : Int) (c_6 : UInt8) (c_7 : UInt32) (c_8 : UInt8) (c_9 : Int) (c_10 : Int) (c_11 : UInt8) (c_12 : UInt32) (c_13 : UInt8) (c_14 : Int) (c_15 : UInt8) (c_16 : UInt32) (m : List Int) (rm : AV) (n : Nat), Sl 1 (rows m) rm ∧ getAns b = .tup [.agg [a8 c_1, a8 c_2, a32 c_3, a8 c_4, aI c_5, a8 c_6, a32 c_7, a8 c_8, aI c_9, aI c_10, a8 c_11, a32 c_12, a8 c_13, aI c_14, a8 c_15, a32 c_16, rm], aI n, aI 0] ∧ n ≤ b.length ∧ limf env 14 [.agg [a8 c_1, a8 c_2, a32 c_3, a8 c_4, aI c_5, a8 c_6, a32 c_7, a8 c_8, aI c_9, aI c_10, a8 c_11, a32 c_12, a8 c_13, aI c_14, a8 c_15, a32 c_16, rm]] = some (.tup [.isl 1 (by8 (b.take n)) none, aI 0]) := by
    by_cases hg : getOk b = true
    · obtain ⟨e1, e2, e3, e4⟩ := bytes_raw hg
      refine .inr ?_
      have ea : getAns b = .tup [.agg (opnV (rawO b) ++ [runG (rawO b).l]), aI (sizeR b), aI 0] := by unfold getAns; rw [if_pos hg]
      rw [ea]
      have hml : (rawO b).l.length < 2000000 := by
        rcases (opB_parts e2) with ⟨_, _, _, _, h64, ⟨_, _, _, h, _⟩ | ⟨_, _, _, h⟩ | ⟨_, _, h, _⟩⟩
        · omega
        · rw [h]; simp
        · rw [h]; simp
      generalize rawO b = o at *
      obtain ⟨c_1, ⟨c_2, c_3, c_4⟩, c_5, ⟨⟨⟨c_6, c_7, c_8⟩, c_9⟩, c_10⟩, ⟨⟨c_11, c_12, c_13⟩, c_14⟩, ⟨c_15, c_16⟩, m⟩ := o
      refine ⟨c_1, c_2, c_3, c_4, c_5, c_6, c_7, c_8, c_9, c_10, c_11, c_12, c_13, c_14, c_15, c_16, m, runG m, sizeR b, runG_sl m, rfl, e3, ?_⟩
      rw [s_OpPut c_1 c_2 c_3 c_4 c_5 c_6 c_7 c_8 c_9 c_10 c_11 c_12 c_13 c_14 c_15 c_16 (runG_sl m) hml, putA, if_pos e2, e1]
    · left; unfold getAns; rw [if_neg hg]
  have hSz := s_R9Same 0 0 0 0 0 0 0 0 0 0 0 0 0 0 0 0 (x := aNil) (y := aNil) (al := []) (.inl ⟨rfl, rfl⟩) (.inl ⟨rfl, rfl⟩) (by simp)
  cases ho : opB (⟨a_1, ⟨a_2, a_3, a_4⟩, a_5, ⟨⟨⟨a_6, a_7, a_8⟩, a_9⟩, a_10⟩, ⟨⟨a_11, a_12, a_13⟩, a_14⟩, ⟨a_15, a_16⟩, l⟩ : Opn) with
  | false =>
    rw [putA, ho, if_neg (by decide)] at hput
    rcases second with h2 | ⟨c_1, c_2, c_3, c_4, c_5, c_6, c_7, c_8, c_9, c_10, c_11, c_12, c_13, c_14, c_15, c_16, m, rm, n, hrm, h2, hn, hp2⟩
    · rw [h2] at hget2
      unfold getZ at hget2
      simp [new_ne, ne_new, new_ne1, ne_new1, gen_put', *, VC_blindstamplaw09_OpBack, hx.r, hb.r]
    · rw [h2] at hget2
      simp [new_ne, ne_new, new_ne1, ne_new1, gen_put', *, VC_blindstamplaw09_OpBack, hx.r, hb.r, hrm.r]
      obtain ⟨y, hy, hyS⟩ := slice_to (P := env.P) (t := 34) (z := 1) (by kernel_rfl) _ hb (n := (n : Int)) (by omega) (by simp; omega)
      refine doQ_of hy ?_
      have hyS' : Sl 1 (by8 (b.take n)) y := by simpa [by8] using hyS
      have hcv := fun g r => Sl.conv (P := env.P) (src := 34) (dst := 9) hyS' (by kernel_rfl) (by kernel_rfl) g r
      clear hy hyS
      simp [new_ne, ne_new, new_ne1, ne_new1, gen_put', *]
  | true =>
    obtain ⟨r1, r2, r3⟩ := raw_bytes ho b
    have hget1 := s_OpGet (l := opBytes (⟨a_1, ⟨a_2, a_3, a_4⟩, a_5, ⟨⟨⟨a_6, a_7, a_8⟩, a_9⟩, a_10⟩, ⟨⟨a_11, a_12, a_13⟩, a_14⟩, ⟨a_15, a_16⟩, l⟩ : Opn) ++ b) (x := .isl 1 (by8 (opBytes (⟨a_1, ⟨a_2, a_3, a_4⟩, a_5, ⟨⟨⟨a_6, a_7, a_8⟩, a_9⟩, a_10⟩, ⟨⟨a_11, a_12, a_13⟩, a_14⟩, ⟨a_15, a_16⟩, l⟩ : Opn)) ++ by8 b) none) (by rw [by8_add]; exact Sl.mk _ _) (by have := opBytes_len ho; have := sizeK_le ho; simp; omega)
    rw [getAns, if_pos r3, r1, r2] at hget1
    rw [putA, ho, if_pos rfl] at hput
    have hlen := opBytes_len ho
    have hsame := s_R9Same a_1 a_2 a_3 a_4 a_5 a_6 a_7 a_8 a_9 a_10 a_11 a_12 a_13 a_14 a_15 a_16 (runG_sl l) hx (by omega)
    have hsk := sizeK_le ho
    have hne : by8 (opBytes (⟨a_1, ⟨a_2, a_3, a_4⟩, a_5, ⟨⟨⟨a_6, a_7, a_8⟩, a_9⟩, a_10⟩, ⟨⟨a_11, a_12, a_13⟩, a_14⟩, ⟨a_15, a_16⟩, l⟩ : Opn)) ≠ [] := by
      intro e
      have := congrArg List.length e
      have h3 : (by8 (opBytes (⟨a_1, ⟨a_2, a_3, a_4⟩, a_5, ⟨⟨⟨a_6, a_7, a_8⟩, a_9⟩, a_10⟩, ⟨⟨a_11, a_12, a_13⟩, a_14⟩, ⟨a_15, a_16⟩, l⟩ : Opn))).length = (opBytes (⟨a_1, ⟨a_2, a_3, a_4⟩, a_5, ⟨⟨⟨a_6, a_7, a_8⟩, a_9⟩, a_10⟩, ⟨⟨a_11, a_12, a_13⟩, a_14⟩, ⟨a_15, a_16⟩, l⟩ : Opn)).length := by simp
      simp only [List.length_nil] at this
      omega
    simp only [opnV] at hget1
    have hrun := (runG_sl l).r
    have hlen' : (by8 (opBytes (⟨a_1, ⟨a_2, a_3, a_4⟩, a_5, ⟨⟨⟨a_6, a_7, a_8⟩, a_9⟩, a_10⟩, ⟨⟨a_11, a_12, a_13⟩, a_14⟩, ⟨a_15, a_16⟩, l⟩ : Opn))).length = sizeK (⟨a_1, ⟨a_2, a_3, a_4⟩, a_5, ⟨⟨⟨a_6, a_7, a_8⟩, a_9⟩, a_10⟩, ⟨⟨a_11, a_12, a_13⟩, a_14⟩, ⟨a_15, a_16⟩, l⟩ : Opn) := by simpa using hlen
    clear r1 r2 r3 hlen
    generalize sizeK (⟨a_1, ⟨a_2, a_3, a_4⟩, a_5, ⟨⟨⟨a_6, a_7, a_8⟩, a_9⟩, a_10⟩, ⟨⟨a_11, a_12, a_13⟩, a_14⟩, ⟨a_15, a_16⟩, l⟩ : Opn) = sk at *
    generalize by8 (opBytes (⟨a_1, ⟨a_2, a_3, a_4⟩, a_5, ⟨⟨⟨a_6, a_7, a_8⟩, a_9⟩, a_10⟩, ⟨⟨a_11, a_12, a_13⟩, a_14⟩, ⟨a_15, a_16⟩, l⟩ : Opn)) = X at *
    have f1 : sk ≤ 140737488355328 := by omega
    have f2 : sk + b.length ≤ 140737488355328 := by omega
    have f3 : 0 < sk := by omega
    clear hrun
    have hrv := runG_cases l
    generalize runG l = rl at *
    by_cases hbn : by8 b = []
    · rw [hbn, List.append_nil] at hget1
      have hb0 := hb.elsOf
      rw [hbn] at hb0
      rcases second with h2 | ⟨c_1, c_2, c_3, c_4, c_5, c_6, c_7, c_8, c_9, c_10, c_11, c_12, c_13, c_14, c_15, c_16, m, rm, n, hrm, h2, hn, hp2⟩
      · rw [h2] at hget2
        unfold getZ at hget2
        rcases hrv with rfl | rfl <;> simp [new_ne, ne_new, new_ne1, ne_new1, gen_put', *, VC_blindstamplaw09_OpBack, hx.r, hb.r]
      · have hb00 : b = [] := by simpa [by8] using hbn
        obtain rfl : n = 0 := by rw [hb00] at hn; simpa using hn
        rw [h2] at hget2
        have hst := fun g => slice_to (P := env.P) (t := 34) (z := 1) (by kernel_rfl) g hb (n := (0 : Int)) (by omega) (by simp)
        rcases hrv with rfl | rfl <;> simp [new_ne, ne_new, new_ne1, ne_new1, gen_put', *, VC_blindstamplaw09_OpBack, hx.r, hb.r, hrm.r]
        all_goals
          obtain ⟨y, hy, hyS⟩ := hst _
          refine doQ_of hy ?_
          have hyS' : Sl 1 (by8 (b.take 0)) y := by simpa [by8] using hyS
          have hcv := fun g r => Sl.conv (P := env.P) (src := 34) (dst := 9) hyS' (by kernel_rfl) (by kernel_rfl) g r
          clear hy hyS hst
          simp [new_ne, ne_new, new_ne1, ne_new1, gen_put', *]
    · rcases second with h2 | ⟨c_1, c_2, c_3, c_4, c_5, c_6, c_7, c_8, c_9, c_10, c_11, c_12, c_13, c_14, c_15, c_16, m, rm, n, hrm, h2, hn, hp2⟩
      · rw [h2] at hget2
        unfold getZ at hget2
        rcases hrv with rfl | rfl <;> simp [new_ne, ne_new, new_ne1, ne_new1, gen_put', *, VC_blindstamplaw09_OpBack, hx.r, hb.r, hb.elsOf]
      · rw [h2] at hget2
        have hst := fun g => slice_to (P := env.P) (t := 34) (z := 1) (by kernel_rfl) g hb (n := (n : Int)) (by omega) (by simp; omega)
        rcases hrv with rfl | rfl <;> simp [new_ne, ne_new, new_ne1, ne_new1, gen_put', *, VC_blindstamplaw09_OpBack, hx.r, hb.r, hrm.r, hb.elsOf]
        all_goals
          obtain ⟨y, hy, hyS⟩ := hst _
          refine doQ_of hy ?_
          have hyS' : Sl 1 (by8 (b.take n)) y := by simpa [by8] using hyS
          have hcv := fun g r => Sl.conv (P := env.P) (src := 34) (dst := 9) hyS' (by kernel_rfl) (by kernel_rfl) g r
          clear hy hyS hst
          simp [new_ne, ne_new, new_ne1, ne_new1, gen_put', *]
end Go.Proofs.Ytehkjjcdkbcebaa
