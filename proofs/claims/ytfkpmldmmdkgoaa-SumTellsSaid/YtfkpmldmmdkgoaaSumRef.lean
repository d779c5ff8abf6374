/-
  The document's sum: what its functions answer. No statement of a seat is proved here.
-/
import Derived.Test.YtfkpmldmmdkgoaaSumFns
set_option linter.unusedVariables false
set_option linter.unusedSimpArgs false
set_option maxRecDepth 100000
namespace Go.Proofs.Ytfkpmldmmdkgoaa
open Go.Ab

theorem ref_inner {x0 : AV} {i : Int} {H : Heap} {Q : AV → Heap → Prop} : ∀ (d k s x : Nat), k + d = 8 → s < 16777216 → x < 256 * 2 ^ k →
    GoL env Try.f12 0 hd_blindstampref03_Of_3 [(3, aI (refBits d s x)), (4, aI (IntKind.i64.wrap (i + 1))), (0, x0)] H Q →
    GoL env Try.f12 0 hd_blindstampref03_Of_7 [(6, aI k), (5, aI x), (3, aI s), (0, x0), (4, aI i)] H Q := by
  intro d
  induction d with
  | zero =>
    intro k s x hk hs hx h
    refine vc_blindstampref03_Of_7 _ _ _ _ _ _ _ fun g => ?_
    obtain rfl : k = 8 := by omega
    simp [VC_blindstampref03_Of_7]
    exact h
  | succ d ih =>
    intro k s x hk hs hx h
    refine vc_blindstampref03_Of_7 _ _ _ _ _ _ _ fun g => ?_
    have hk8 : (k : Int) < 8 := by omega
    have hxb : x < 65536 := Nat.lt_of_lt_of_le hx (by
      have : 2 ^ k ≤ 2 ^ 8 := Nat.pow_le_pow_right (by decide) (by omega)
      omega)
    have e1 : ∀ xo yo, qBin env.P .quo 3 xo yo (some (aI (s : Nat))) (some (.v (.int .i64 8388608))) = some (aI ((s / 8388608 : Nat) : Int), []) := fun xo yo => qBin_quo_i _ _ xo yo s 8388608 (by omega) (by decide)
    have e2 : ∀ xo yo, qBin env.P .quo 3 xo yo (some (aI (x : Nat))) (some (.v (.int .i64 128))) = some (aI ((x / 128 : Nat) : Int), []) := fun xo yo => qBin_quo_i _ _ xo yo x 128 (by omega) (by decide)
    have e3 : ∀ xo yo, qBin env.P .rem 3 xo yo (some (aI ((x / 128 : Nat) : Int))) (some (.v (.int .i64 2))) = some (aI ((x / 128 % 2 : Nat) : Int), []) := fun xo yo => qBin_rem_i _ _ xo yo (x / 128) 2 (by decide)
    have e4 : ∀ xo yo, qBin env.P .rem 3 xo yo (some (aI (s : Nat))) (some (.v (.int .i64 8388608))) = some (aI ((s % 8388608 : Nat) : Int), []) := fun xo yo => qBin_rem_i _ _ xo yo s 8388608 (by decide)
    have e5 : ∀ xo yo, qBin env.P .mul 3 xo yo (some (aI ((s % 8388608 : Nat) : Int))) (some (.v (.int .i64 2))) = some (aI ((s % 8388608 * 2 : Nat) : Int), []) := fun xo yo => by
      rw [qBin_mul, IntWalk.i64_in _ (by omega)]; rfl
    have e6 : ∀ xo yo, qBin env.P .mul 3 xo yo (some (aI (x : Nat))) (some (.v (.int .i64 2))) = some (aI ((x * 2 : Nat) : Int), []) := fun xo yo => by
      rw [qBin_mul, IntWalk.i64_in _ (by omega)]; rfl
    have e7 : ∀ xo yo, qBin env.P .xor 3 xo yo (some (aI ((s % 8388608 * 2 : Nat) : Int))) (some (.v (.int .i64 8801531))) = some (aI ((s % 8388608 * 2 ^^^ 8801531 : Nat) : Int), []) := fun xo yo => qBin_xor_i _ _ xo yo (s % 8388608 * 2) 8801531 (by omega) (by decide)
    have e8 : ∀ xo yo, qBin env.P .add 3 xo yo (some (aI (k : Nat))) (some (.v (.int .i64 1))) = some (aI ((k + 1 : Nat) : Int), []) := fun xo yo => by
      rw [qBin_add, IntWalk.i64_in _ (by omega)]; rfl
    have e9 : ∀ xo yo, qBin env.P .neq 3 xo yo (some (aI ((s / 8388608 : Nat) : Int))) (some (aI ((x / 128 % 2 : Nat) : Int))) = some (aB (decide (s / 8388608 ≠ x / 128 % 2)), []) := fun xo yo => by
      rw [qBin_neq]; congr 3; by_cases hh : s / 8388608 = x / 128 % 2 <;> simp [hh] <;> omega
    simp only [VC_blindstampref03_Of_7, e1, e2, e3, e4, e5, e6, e7, e8, e9, doQ_some, qBin_lss, decide_eq_true hk8, br_true]
    refine br_dec (fun hb => ?_) (fun hb => ?_)
    · simp only [e7, e8, doQ_some]
      have hr : refBit s x = s % 8388608 * 2 ^^^ 8801531 := if_pos hb
      rw [← hr]
      refine ih (k + 1) (refBit s x) (x * 2) (by omega) (refBit_lt hs) (by rw [Nat.pow_succ]; omega) h
    · simp only [e8, doQ_some]
      have hr : refBit s x = s % 8388608 * 2 := if_neg hb
      rw [← hr]
      refine ih (k + 1) (refBit s x) (x * 2) (by omega) (refBit_lt hs) (by rw [Nat.pow_succ]; omega) h

theorem ref_outer {x0 : AV} {H : Heap} {Q : AV → Heap → Prop} {l : List UInt8} (hx : Sl 1 (by8 l) x0) (hl : l.length < 9000000000000000000) : ∀ (d k : Nat) (s : UInt32), k + d = l.length → Sm s →
    Q (a32 (crcFrom s (l.drop k))) H →
    GoL env Try.f12 0 hd_blindstampref03_Of_3 [(3, aI s.toNat), (4, aI k), (0, x0)] H Q := by
  intro d
  induction d with
  | zero =>
    intro k s hk hs h
    refine vc_blindstampref03_Of_3 _ _ _ _ _ fun g => ?_
    obtain rfl : k = l.length := by omega
    simp [VC_blindstampref03_Of_3, hx.len]
    simpa [crcFrom] using h
  | succ d ih =>
    intro k s hk hs h
    refine vc_blindstampref03_Of_3 _ _ _ _ _ fun g => ?_
    have hk2 : k < l.length := by omega
    have hlen := hx.len
    obtain ⟨c, rfl, _⟩ := hx.isl (i := k) (by simpa using hk2)
    simp [VC_blindstampref03_Of_3, hk2]
    refine ref_inner 8 0 s.toNat (l[k].toNat) rfl hs (by have := l[k].toNat_lt; omega) ?_
    rw [IntWalk.i64_in (k + 1) (by omega), ref_byte hs]
    refine ih (k + 1) _ (by omega) (crcByte_sm hs _) ?_
    rw [List.drop_eq_getElem_cons hk2] at h
    exact h

theorem ref_Of {x : AV} {l : List UInt8} (hx : Sl 1 (by8 l) x) (hl : l.length < 9000000000000000000) : limf env 12 [x] = some (a32 (crc l)) := by
  refine limf_of (fn := Try.f12) (c := bd_blindstampref03_Of) rfl (by kernel_rfl) (by kernel_rfl) (by kernel_rfl) (by kernel_rfl) ?_
  refine vc_blindstampref03_Of _ _ _ fun g => ?_
  refine ref_outer hx hl l.length 0 11994318 (by simp) init_sm ?_
  refine handed0 ?_
  simp [depth_eq, crc]

theorem ref_bytes (s : UInt32) : [(s / 65536 % 256).toUInt8, (s / 256 % 256).toUInt8, (s % 256).toUInt8] = bytesOf s := by
  simp only [bytesOf, List.cons.injEq, and_true]
  refine ⟨UInt8.toNat_inj.1 ?_, UInt8.toNat_inj.1 ?_, UInt8.toNat_inj.1 ?_⟩
  · rw [b0_toNat, UInt32.toNat_toUInt8, UInt32.toNat_mod, UInt32.toNat_div]
    show s.toNat / 65536 % 256 % 256 = _; omega
  · rw [b1_toNat, UInt32.toNat_toUInt8, UInt32.toNat_mod, UInt32.toNat_div]
    show s.toNat / 256 % 256 % 256 = _; omega
  · rw [b2_toNat, UInt32.toNat_toUInt8, UInt32.toNat_mod]
    show s.toNat % 256 % 256 = _; omega

theorem ref_Bytes (s : UInt32) : limf env 13 [a32 s] = some (.isl 1 (by8 (bytesOf s)) (some 3)) := by
  refine limf_of (fn := Try.f13) (c := bd_blindstampref03_Bytes) rfl (by kernel_rfl) (by kernel_rfl) (by kernel_rfl) (by kernel_rfl) ?_
  refine vc_blindstampref03_Bytes _ _ _ fun g => ?_
  rw [← ref_bytes]
  simp [VC_blindstampref03_Bytes]
  refine doW_of (bs_plain (z := 1) (by' := 1) (zz := a8 0) (es := by8 [(s / 65536 % 256).toUInt8, (s / 256 % 256).toUInt8, (s % 256).toUInt8]) (by simp) (by simp) (by simp [viewParts, depth_eq]) rfl (by simp) (by simp) (by simp [fillSlice, by8])) ?_
  refine handed0 ?_
  rw [depth_eq, view_full (z := 1) (es := by8 [(s / 65536 % 256).toUInt8, (s / 256 % 256).toUInt8, (s % 256).toUInt8]) (fz := false) (by simp) (by simp)]

theorem ref_Right {x : AV} {l : List UInt8} (hx : Sl 1 (by8 l) x) (hl : l.length ≤ 100000) : limf env 14 [x] = some (aB (rightB l)) := by
  refine limf_of (fn := Try.f14) (c := bd_blindstampref03_Right) rfl (by kernel_rfl) (by kernel_rfl) (by kernel_rfl) (by kernel_rfl) ?_
  refine vc_blindstampref03_Right _ _ _ fun g => ?_
  simp [VC_blindstampref03_Right, hx.len, IntWalk.i64_in ((l.length : Int) - 3) (by omega)]
  by_cases h3 : 3 ≤ l.length
  · have h3' : (3 : Int) ≤ (l.length : Int) := by omega
    have h30 : (0 : Int) ≤ (l.length : Int) - 3 := by omega
    have hn : ((l.length : Int) - 3).toNat = l.length - 3 := by omega
    have hA := slice_to (P := env.P) (t := 22) elem_22 (Heap.get []) hx h30 (by simp; omega)
    have hB := slice_from (P := env.P) (t := 22) elem_22 (Heap.get []) hx h30 (by simp; omega)
    obtain ⟨y, e2, hy⟩ := hA
    obtain ⟨z, e3, hz⟩ := hB
    rw [hn, by8_take] at hy
    rw [hn, by8_drop] at hz
    simp [h3', e2]
    refine doW_call (xs := [y]) (y := a32 (crc (l.take (l.length - 3)))) rfl (by simp [depth_eq, hy.view]) (ref_Of hy (by simp; omega)) rfl ?_
    simp [h3']
    refine doW_callF (y := .isl 1 (by8 (bytesOf (crc (l.take (l.length - 3))))) (some 3)) rfl (by simp [depth_eq]) (ref_Bytes _) rfl (fun r => rfl) ?_
    have hS : Sl 1 (by8 (bytesOf (crc (l.take (l.length - 3))))) (.isl 1 (by8 (bytesOf (crc (l.take (l.length - 3))))) (some 3)) := .inr ⟨_, rfl, by simp [bytesOf]⟩
    simp [h3', e3, hS.conv (P := env.P) (src := 22) (dst := 9) (by simp) (by simp), hz.conv (P := env.P) (src := 22) (dst := 9) (by simp) (by simp)]
    refine handed0 ?_
    simp only [depth_eq, view_v, rightB]
    have : (bytesOf (crc (l.take (l.length - 3))) = l.drop (l.length - 3)) ↔ (3 ≤ l.length ∧ l.take (l.length - 3) ++ bytesOf (crc (l.take (l.length - 3))) = l) := by
      constructor
      · intro h; exact ⟨h3, by rw [h, List.take_append_drop]⟩
      · intro h
        have := congrArg (List.drop (l.length - 3)) h.2
        rw [List.drop_left' (by simp)] at this
        exact this
    simp [this]
  · have h3' : ¬ (3 : Int) ≤ (l.length : Int) := by omega
    simp [h3', rightB, h3]
    refine handed0 ?_
    simp [depth_eq]

end Go.Proofs.Ytfkpmldmmdkgoaa
