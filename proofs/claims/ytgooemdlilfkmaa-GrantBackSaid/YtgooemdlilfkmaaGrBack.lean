/-
  The law of grants there and back: its run. No statement of a seat is proved here.
-/
import Derived.Test.YtgooemdlilfkmaaGrFns
import Derived.Test.YtgooemdlilfkmaaPgVl10
import Derived.Test.YtgooemdlilfkmaaAbsMono
set_option linter.unusedVariables false
set_option linter.unusedSimpArgs false
set_option linter.unusedSectionVars false
set_option linter.unnecessarySimpa false
set_option maxRecDepth 100000
namespace Go.Proofs.Ytgooemdlilfkmaa
open Go.Ab
attribute [local simp] depth_eq callRes_V callG_data callG_frz callG_own keep appRes_G appFine_n appFine_s appG_n appG_s roomB appRes_I islFine_some islG_ne List.take_of_length_le sB_lit

theorem back_alive : limf env 40 [] = some (aB true) := limf_run_of (n := 40000) (by kernel_rfl)

theorem u32_val4 (c : UInt32) : u32 (val (be 4 (c.toNat : Int))) = c := by
  have := c.toNat_lt
  rw [val_be (by omega) (by omega)]
  exact u32_nat c
theorem be4_val (b3 b4 b5 b6 : UInt8) : be 4 ((u32 (val [b3, b4, b5, b6])).toNat : Int) = [b3, b4, b5, b6] := by
  have h := val_bound [b3, b4, b5, b6]
  have e : ((u32 (val [b3, b4, b5, b6])).toNat : Int) = val [b3, b4, b5, b6] := by
    simp only [List.length_cons, List.length_nil] at h
    have h2 : (u32 (val [b3, b4, b5, b6])).toNat = ((val [b3, b4, b5, b6]) % 4294967296).toNat := u32_toNat' _
    omega
  rw [e]
  exact be_val' rfl

theorem got_put {user : Int} {v : UInt8} {c : UInt32} {ok : Bool} (h : mayG user v c ok = true) : limf env 32 [.isl 1 (by8 (gBytes user v c ok)) none] = some (.tup [.agg [aI user, a8 v, a32 c, aB ok], aI 0]) := by
  have hb := be_4 (c.toNat : Int)
  have hv := u32_val4 c
  rw [hb] at hv
  unfold gBytes
  rw [hb]
  have hu : 0 ≤ user ∧ user < 8 := by simp [mayG] at h; exact h.1
  have hu' : ((u8 user).toNat : Int) = user := by rw [u8_int]; omega
  have := s_GGet (c := none) (b0 := u8 user) (b1 := if ok then 1 else 0) (b2 := v) (b3 := u8 ((c.toNat : Int) / 16777216)) (b4 := u8 ((c.toNat : Int) / 65536)) (b5 := u8 ((c.toNat : Int) / 256)) (b6 := u8 (c.toNat : Int)) (by simp)
  unfold gotG at this
  rw [hv, hu'] at this
  simp only [by8, List.map_cons, List.map_nil]
  rw [this]
  cases ok <;> simp [h]
theorem put_got {b0 b1 b2 b3 b4 b5 b6 : UInt8} (h : b1 ≤ 1) : gBytes b0.toNat b2 (u32 (val [b3, b4, b5, b6])) (decide (b1 = 1)) = [b0, b1, b2, b3, b4, b5, b6] := by
  unfold gBytes
  rw [be4_val, u8_nat]
  have : (if decide (b1 = 1) = true then (1 : UInt8) else 0) = b1 := by
    by_cases e : b1 = 1
    · subst e; rfl
    · rw [if_neg (by simpa using e)]
      apply UInt8.toNat_inj.1
      have h1 : b1.toNat ≤ 1 := h
      have h2 : b1.toNat ≠ 1 := fun h => e (UInt8.toNat_inj.1 h)
      show 0 = b1.toNat
      omega
  rw [this]

theorem back_law (user : Int) (v : UInt8) (c : UInt32) (ok : Bool) {x : AV} {b : List UInt8} (hx : Sl 1 (by8 b) x) : limf env 10 [.agg [aI user, a8 v, a32 c, aB ok], x] = some (aB true) := by
  refine limf_of (fn := Try.f10) (c := bd_blindstamplaw07_GrantBack) rfl (by kernel_rfl) (by kernel_rfl) (by kernel_rfl) (by kernel_rfl) ?_; refine vc_blindstamplaw07_GrantBack _ _ _ _ fun g => ?_
  have al := back_alive
  by_cases g1 : (1000 : Int) < b.length
  · simp [new_ne, ne_new, new_ne1, ne_new1, gen_put', *, VC_blindstamplaw07_GrantBack, hx.r]
  have p1 := s_GPut user v c ok
  have pb : (by8 (gBytes user v c ok)).length = 7 := by simp [gBytes]
  -- what the second half says
  have second : ∀ (a' : UInt8) (d : UInt32) (o : Bool) (i j : Int), limf env 32 [x] = some (.tup [.agg [aI i, a8 a', a32 d, aB o], aI j]) → True := fun _ _ _ _ _ _ => trivial
  have got : (limf env 32 [x] = some (.tup [.agg [aI 0, a8 0, a32 0, aB false], aI 8])) ∨ (∃ i a d o, limf env 32 [x] = some (.tup [.agg [aI i, a8 a, a32 d, aB o], aI 0]) ∧ limf env 30 [.agg [aI i, a8 a, a32 d, aB o]] = some (.tup [.isl 1 (by8 b) none, aI 0])) := by
    by_cases h7 : b.length = 7
    · obtain ⟨b0, b1, b2, b3, b4, b5, b6, rfl⟩ : ∃ b0 b1 b2 b3 b4 b5 b6, b = [b0, b1, b2, b3, b4, b5, b6] := by
        match b, h7 with
        | [b0, b1, b2, b3, b4, b5, b6], _ => exact ⟨b0, b1, b2, b3, b4, b5, b6, rfl⟩
      obtain ⟨c', rfl, hc⟩ := hx.islN (by simp)
      have q1 := s_GGet (c := c') (b0 := b0) (b1 := b1) (b2 := b2) (b3 := b3) (b4 := b4) (b5 := b5) (b6 := b6) hc
      simp only [by8, List.map_cons, List.map_nil]
      rw [q1]
      unfold gotG
      split
      · rename_i h
        refine .inr ⟨_, _, _, _, rfl, ?_⟩
        rw [s_GPut, if_pos h.2, put_got h.1]
        rfl
      · exact .inl rfl
    · exact .inl (s_GGetN hx h7 (by omega))
  by_cases hm : mayG user v c ok = true
  · rw [if_pos hm] at p1
    have gp := got_put hm
    generalize by8 (gBytes user v c ok) = pbs at *
    rcases got with got | ⟨i, a, d, o, got, put⟩
    · simp [new_ne, ne_new, new_ne1, ne_new1, gen_put', *, VC_blindstamplaw07_GrantBack, hx.r, eqA, eqFs]
    · simp [new_ne, ne_new, new_ne1, ne_new1, gen_put', *, VC_blindstamplaw07_GrantBack, hx.r, hx.elsOf, hx.bsl, eqA, eqFs]
  · rw [if_neg hm] at p1
    rcases got with got | ⟨i, a, d, o, got, put⟩
    · simp [new_ne, ne_new, new_ne1, ne_new1, gen_put', *, VC_blindstamplaw07_GrantBack, hx.r, eqA, eqFs]
    · simp [new_ne, ne_new, new_ne1, ne_new1, gen_put', *, VC_blindstamplaw07_GrantBack, hx.r, hx.elsOf, hx.bsl, eqA, eqFs]
end Go.Proofs.Ytgooemdlilfkmaa
