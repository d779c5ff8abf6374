/-
  Handles and ids as bytes: what these functions answer. No statement of a seat is proved here.
-/
import Derived.Test.YtehkjjcdkbcebaaIdsFns
set_option linter.unusedVariables false
set_option linter.unusedSimpArgs false
set_option linter.unusedSectionVars false
set_option linter.unnecessarySimpa false
set_option maxRecDepth 100000
namespace Go.Proofs.Ytehkjjcdkbcebaa
open Go.Ab
attribute [local simp] depth_eq callRes_V callG_frz callG_own keep thr appRes_G appFine_n appFine_s appG_n appG_s roomB appRes_I islFine_some islG_ne List.take_of_length_le
@[simp] theorem s_number4 (n : Int) (h0 : 0 ≤ n) : limf env 83 [aI n, aI 4] = some (.isl 1 (by8 (be 4 n)) none) := by
  refine limf_of (fn := Try.f83) (c := bd_ids_number) rfl (by kernel_rfl) (by kernel_rfl) (by kernel_rfl) (by kernel_rfl) ?_; refine vc_ids_number _ _ _ _ fun g => ?_
  have w5 : IntKind.i64.wrap (-1) = -1 := rfl
  have w4 : IntKind.i64.wrap 0 = 0 := rfl
  simp [new_ne, ne_new, new_ne1, ne_new1, gen_put', *, VC_ids_number]
  refine vc_ids_number_2 _ _ _ _ _ fun g => ?_
  simp [new_ne, ne_new, new_ne1, ne_new1, gen_put', *, VC_ids_number_2, qBin_shr, fdiv_lit]
  refine vc_ids_number_2 _ _ _ _ _ fun g => ?_
  simp [new_ne, ne_new, new_ne1, ne_new1, gen_put', *, VC_ids_number_2, qBin_shr, fdiv_lit]
  refine vc_ids_number_2 _ _ _ _ _ fun g => ?_
  simp [new_ne, ne_new, new_ne1, ne_new1, gen_put', *, VC_ids_number_2, qBin_shr, fdiv_lit]
  refine vc_ids_number_2 _ _ _ _ _ fun g => ?_
  simp [new_ne, ne_new, new_ne1, ne_new1, gen_put', *, VC_ids_number_2, qBin_shr, fdiv_lit]
  refine vc_ids_number_2 _ _ _ _ _ fun g => ?_
  simp [new_ne, ne_new, new_ne1, ne_new1, gen_put', *, VC_ids_number_2, be_4, by8]
@[simp] theorem s_number7 (n : Int) (h0 : 0 ≤ n) : limf env 83 [aI n, aI 7] = some (.isl 1 (by8 (be 7 n)) none) := by
  refine limf_of (fn := Try.f83) (c := bd_ids_number) rfl (by kernel_rfl) (by kernel_rfl) (by kernel_rfl) (by kernel_rfl) ?_; refine vc_ids_number _ _ _ _ fun g => ?_
  have w5 : IntKind.i64.wrap (-1) = -1 := rfl
  have w4 : IntKind.i64.wrap 0 = 0 := rfl
  simp [new_ne, ne_new, new_ne1, ne_new1, gen_put', *, VC_ids_number]
  refine vc_ids_number_2 _ _ _ _ _ fun g => ?_
  simp [new_ne, ne_new, new_ne1, ne_new1, gen_put', *, VC_ids_number_2, qBin_shr, fdiv_lit]
  refine vc_ids_number_2 _ _ _ _ _ fun g => ?_
  simp [new_ne, ne_new, new_ne1, ne_new1, gen_put', *, VC_ids_number_2, qBin_shr, fdiv_lit]
  refine vc_ids_number_2 _ _ _ _ _ fun g => ?_
  simp [new_ne, ne_new, new_ne1, ne_new1, gen_put', *, VC_ids_number_2, qBin_shr, fdiv_lit]
  refine vc_ids_number_2 _ _ _ _ _ fun g => ?_
  simp [new_ne, ne_new, new_ne1, ne_new1, gen_put', *, VC_ids_number_2, qBin_shr, fdiv_lit]
  refine vc_ids_number_2 _ _ _ _ _ fun g => ?_
  simp [new_ne, ne_new, new_ne1, ne_new1, gen_put', *, VC_ids_number_2, qBin_shr, fdiv_lit]
  refine vc_ids_number_2 _ _ _ _ _ fun g => ?_
  simp [new_ne, ne_new, new_ne1, ne_new1, gen_put', *, VC_ids_number_2, qBin_shr, fdiv_lit]
  refine vc_ids_number_2 _ _ _ _ _ fun g => ?_
  simp [new_ne, ne_new, new_ne1, ne_new1, gen_put', *, VC_ids_number_2, qBin_shr, fdiv_lit]
  refine vc_ids_number_2 _ _ _ _ _ fun g => ?_
  simp [new_ne, ne_new, new_ne1, ne_new1, gen_put', *, VC_ids_number_2, be_7, by8]
theorem read_loop {x5 : AV} {Q : AV → Heap → Prop} {l : List UInt8} (hx : Sl 1 (by8 l) x5) (hl : l.length ≤ 7) : ∀ (s : List UInt8) (k : Nat) (i a : Int) (H : Heap), l.drop k = s → k ≤ l.length → i = k → 0 ≤ a → a < 256 ^ k →
    (∀ y H', y = aI (valF a s) → Q y H') →
    GoL env Try.f133 0 hd_ids_read_2 [(7, aI i), (2, aI a), (5, x5), (6, aI l.length)] H Q := by
  intro s
  induction s with
  | nil =>
    rintro k i a H hs hk rfl h0 h1 hQ
    obtain rfl := drop_nil hs hk
    refine vc_ids_read_2 _ _ _ _ _ _ fun g => ?_
    simp [new_ne, ne_new, new_ne1, ne_new1, gen_put', *, VC_ids_read_2]
    exact hQ _ _ rfl
  | cons b s ih =>
    rintro k i a H hs hk rfl h0 h1 hQ
    obtain ⟨hlt, hg, hs', hg'⟩ := drop_cons hs
    refine vc_ids_read_2 _ _ _ _ _ _ fun g => ?_
    have hb := b.toNat_lt
    have h2 := pow256_le (k := k) 6 (by omega)
    have e := or_byte h0 (by omega) b
    have e2 := IntWalk.i64_in (a * 256) (by omega)
    have e3 := IntWalk.i64_in ((k : Int) + 1) (by omega)
    simp [new_ne, ne_new, new_ne1, ne_new1, gen_put', *, VC_ids_read_2, qBin_shl, hx.idx]
    exact ih (k + 1) _ _ _ hs' (by omega) (by simp) (by omega) (by rw [Int.pow_succ]; omega) hQ
@[simp] theorem s_read {x : AV} {l : List UInt8} (hx : Sl 1 (by8 l) x) (hl : l.length ≤ 7) : limf env 133 [x] = some (aI (val l)) := by
  refine limf_of (fn := Try.f133) (c := bd_ids_read) rfl (by kernel_rfl) (by kernel_rfl) (by kernel_rfl) (by kernel_rfl) ?_; refine vc_ids_read _ _ _ fun g => ?_
  have h := hx.len
  simp [new_ne, ne_new, new_ne1, ne_new1, gen_put', *, VC_ids_read]
  exact read_loop hx hl l 0 _ _ _ rfl (by omega) rfl (by omega) (by simp) (fun y H' e => by simp [e, val])
def hBytes (h : Han) : List UInt8 := h.lv :: (be 4 h.cats.toNat ++ [h.num])
@[simp] theorem hBytes_len (h : Han) : (hBytes h).length = 6 := by simp [hBytes]
@[simp] theorem s_PutHandle (a : UInt8) (b : UInt32) (n : UInt8) : limf env 51 [.agg [a8 a, a32 b, a8 n]] = some (if handB ⟨a, b, n⟩ then .tup [.fsl 1 (by8 (hBytes ⟨a, b, n⟩)) none, aI 0] else .tup [aNil, aI 8]) := by
  refine limf_of (fn := Try.f51) (c := bd_ids_PutHandle) rfl (by kernel_rfl) (by kernel_rfl) (by kernel_rfl) (by kernel_rfl) ?_; refine vc_ids_PutHandle _ _ _ fun g => ?_
  cases h : handB ⟨a, b, n⟩ with
  | true => simp [new_ne, ne_new, new_ne1, ne_new1, gen_put', *, VC_ids_PutHandle, bad, by8, hBytes]
  | false => simp [new_ne, ne_new, new_ne1, ne_new1, gen_put', *, VC_ids_PutHandle, bad]
def iBytes (i : Idd) : List UInt8 := hBytes i.h ++ be 7 i.n
@[simp] theorem iBytes_len (i : Idd) : (iBytes i).length = 13 := by simp [iBytes]
@[simp] theorem s_IPut (a : UInt8) (b : UInt32) (n : UInt8) (k : Int) : limf env 52 [.agg [a8 a, a32 b, a8 n, aI k]] = some (if idB ⟨⟨a, b, n⟩, k⟩ then .tup [.isl 1 (by8 (iBytes ⟨⟨a, b, n⟩, k⟩)) none, aI 0] else .tup [aNil, aI 8]) := by
  refine limf_of (fn := Try.f52) (c := bd_ids_Put) rfl (by kernel_rfl) (by kernel_rfl) (by kernel_rfl) (by kernel_rfl) ?_; refine vc_ids_Put _ _ _ fun g => ?_
  cases h : idB ⟨⟨a, b, n⟩, k⟩ with
  | true =>
    have hn := idB_n h
    have h7 := s_number7 k (by simp only at hn; omega)
    have hh : handB ⟨a, b, n⟩ = true := by simp only [idB, Bool.and_eq_true] at h; exact h.1
    simp only at hn
    simp [new_ne, ne_new, new_ne1, ne_new1, gen_put', *, VC_ids_Put, bad, by8, iBytes]
  | false => simp [new_ne, ne_new, new_ne1, ne_new1, gen_put', *, VC_ids_Put, bad]
theorem s_named {c : Option Nat} {a n b1 b2 b3 b4 : UInt8} (hc : 6 ≤ c.getD 6) : limf env 88 [.isl 1 [a8 a, a8 b1, a8 b2, a8 b3, a8 b4, a8 n] c] = some (.agg [a8 a, a32 (u32 (val [b1, b2, b3, b4])), a8 n, aI (bad (handB ⟨a, u32 (val [b1, b2, b3, b4]), n⟩))]) := by
  refine limf_of (fn := Try.f88) (c := bd_ids_named) rfl (by kernel_rfl) (by kernel_rfl) (by kernel_rfl) (by kernel_rfl) ?_; refine vc_ids_named _ _ _ fun g => ?_
  have hr := s_read (l := [b1, b2, b3, b4]) (x := .isl 1 [a8 b1, a8 b2, a8 b3, a8 b4] (c.map (· - 1))) (Sl.mkC (cap_sub hc (by simp))) (by simp)
  have hv := val_bound [b1, b2, b3, b4]
  generalize val [b1, b2, b3, b4] = v at *
  simp [new_ne, ne_new, new_ne1, ne_new1, gen_put', *, VC_ids_named]
theorem s_GetHandle {c : Option Nat} {a n b1 b2 b3 b4 : UInt8} (hc : 6 ≤ c.getD 6) : limf env 57 [.isl 1 [a8 a, a8 b1, a8 b2, a8 b3, a8 b4, a8 n] c] =
    some (if handB ⟨a, u32 (val [b1, b2, b3, b4]), n⟩ then .tup [.agg [a8 a, a32 (u32 (val [b1, b2, b3, b4])), a8 n], aI 0] else .tup [.agg [a8 0, a32 0, a8 0], aI 8]) := by
  refine limf_of (fn := Try.f57) (c := bd_ids_GetHandle) rfl (by kernel_rfl) (by kernel_rfl) (by kernel_rfl) (by kernel_rfl) ?_; refine vc_ids_GetHandle _ _ _ fun g => ?_
  have hr := s_named (a := a) (n := n) (b1 := b1) (b2 := b2) (b3 := b3) (b4 := b4) hc
  generalize val [b1, b2, b3, b4] = v at *
  cases h : handB ⟨a, u32 v, n⟩ <;> simp [new_ne, ne_new, new_ne1, ne_new1, gen_put', *, VC_ids_GetHandle, bad]
theorem s_named13 {c : Option Nat} {a n b1 b2 b3 b4 d1 d2 d3 d4 d5 d6 d7 : UInt8} (hc : 13 ≤ c.getD 13) : limf env 88 [.isl 1 [a8 a, a8 b1, a8 b2, a8 b3, a8 b4, a8 n, a8 d1, a8 d2, a8 d3, a8 d4, a8 d5, a8 d6, a8 d7] c] = some (.agg [a8 a, a32 (u32 (val [b1, b2, b3, b4])), a8 n, aI (bad (handB ⟨a, u32 (val [b1, b2, b3, b4]), n⟩))]) := by
  refine limf_of (fn := Try.f88) (c := bd_ids_named) rfl (by kernel_rfl) (by kernel_rfl) (by kernel_rfl) (by kernel_rfl) ?_; refine vc_ids_named _ _ _ fun g => ?_
  have hr := s_read (l := [b1, b2, b3, b4]) (x := .isl 1 [a8 b1, a8 b2, a8 b3, a8 b4] (c.map (· - 1))) (Sl.mkC (cap_sub hc (by simp))) (by simp)
  have hv := val_bound [b1, b2, b3, b4]
  generalize val [b1, b2, b3, b4] = v at *
  simp [new_ne, ne_new, new_ne1, ne_new1, gen_put', *, VC_ids_named]
theorem s_IGet {c : Option Nat} {a n b1 b2 b3 b4 d1 d2 d3 d4 d5 d6 d7 : UInt8} (hc : 13 ≤ c.getD 13) : limf env 87 [.isl 1 [a8 a, a8 b1, a8 b2, a8 b3, a8 b4, a8 n, a8 d1, a8 d2, a8 d3, a8 d4, a8 d5, a8 d6, a8 d7] c] =
    some (if idB ⟨⟨a, u32 (val [b1, b2, b3, b4]), n⟩, val [d1, d2, d3, d4, d5, d6, d7]⟩ then .tup [.agg [a8 a, a32 (u32 (val [b1, b2, b3, b4])), a8 n, aI (val [d1, d2, d3, d4, d5, d6, d7])], aI 0] else .tup [.agg [a8 0, a32 0, a8 0, aI 0], aI 8]) := by
  refine limf_of (fn := Try.f87) (c := bd_ids_Get) rfl (by kernel_rfl) (by kernel_rfl) (by kernel_rfl) (by kernel_rfl) ?_; refine vc_ids_Get _ _ _ fun g => ?_
  have hr := s_named13 (a := a) (n := n) (b1 := b1) (b2 := b2) (b3 := b3) (b4 := b4) (d1 := d1) (d2 := d2) (d3 := d3) (d4 := d4) (d5 := d5) (d6 := d6) (d7 := d7) hc
  have hs := s_read (l := [d1, d2, d3, d4, d5, d6, d7]) (x := .isl 1 [a8 d1, a8 d2, a8 d3, a8 d4, a8 d5, a8 d6, a8 d7] (c.map (· - 6))) (Sl.mkC (cap_sub hc (by simp))) (by simp)
  generalize val [b1, b2, b3, b4] = v at *
  generalize val [d1, d2, d3, d4, d5, d6, d7] = w at *
  cases h : idB ⟨⟨a, u32 v, n⟩, w⟩ <;> simp [new_ne, ne_new, new_ne1, ne_new1, gen_put', *, VC_ids_Get, bad]
end Go.Proofs.Ytehkjjcdkbcebaa
