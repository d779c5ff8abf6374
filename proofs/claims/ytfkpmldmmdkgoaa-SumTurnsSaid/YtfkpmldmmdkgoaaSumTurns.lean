/-
  'Rows.SumTurnsSaid' is proved. No conditions.
-/
import Derived.Test.YtfkpmldmmdkgoaaSumOf
set_option linter.unusedVariables false
set_option linter.unusedSimpArgs false
set_option maxRecDepth 1000000
namespace Go.Proofs.Ytfkpmldmmdkgoaa.sumTurns
open Go.Ab Go.ChangeShapes Go.WideShapes Go.RowKit

theorem alive : limf env 8 [] = some (aB true) := limf_run_of (n := 20000) (by kernel_rfl)

/-- The bytes behind k turns. -/
def turned (l : List UInt8) (a : Nat) (b : List UInt8) : Nat → List UInt8
  | 0 => l
  | k + 1 => (turned l a b k).set (a + k) ((turned l a b k).getD (a + k) 0 ^^^ b.getD k 0)
theorem turned_len (l : List UInt8) (a : Nat) (b : List UInt8) (k : Nat) : (turned l a b k).length = l.length := by
  induction k with
  | zero => rfl
  | succ k ih => simp [turned, ih]

theorem turned3 (p q : List UInt8) (x0 x1 x2 b0 b1 b2 : UInt8) : turned (p ++ [x0, x1, x2] ++ q) p.length [b0, b1, b2] 3 = p ++ [x0 ^^^ b0, x1 ^^^ b1, x2 ^^^ b2] ++ q := by
  simp only [turned, List.append_assoc, List.cons_append, List.nil_append, List.getD_eq_getElem?_getD]
  simp [List.set_append]
theorem loop {l : List UInt8} {x x8 : AV} {a : Nat} {b0 b1 b2 : UInt8} (hx : Sl 1 (by8 l) x) {r5 r8 : Ref} (hne : r5 ≠ r8) (ha : a + 3 ≤ l.length) (hl : l.length ≤ 10000)
    (hcrc : crc (turned l a [b0, b1, b2] 3) ≠ crc l) (h8 : x8 = .osl r8 0 l.length none) : ∀ (d k : Nat) (H : Heap), k + d = 3 →
    H.get r8 = some ⟨1, by8 (turned l a [b0, b1, b2] k), true, false⟩ → H.get r5 = some ⟨3, [.agg [a8 b0, a8 b1, a8 b2]], false, false⟩ →
    GoL env Try.f3 0 hd_blindstamplaw03_SumTurns_6 [(9, aI k), (5, .ptr r5 0 0), (1, aI a), (8, x8), (0, x), (7, aB true)] H fun x H => handed env 3 x H (aB true) := by
  intro d
  induction d with
  | zero =>
    intro k H hk h1 h2
    refine vc_blindstamplaw03_SumTurns_6 _ _ _ _ _ _ _ _ fun g => ?_
    obtain rfl : k = 3 := by omega
    simp [VC_blindstamplaw03_SumTurns_6]
    subst h8
    have hv : view H.get depth (.osl r8 0 l.length none) = some (.isl 1 (by8 (turned l a [b0, b1, b2] 3)) none) := by
      rw [depth_eq, view_osl h1]; simp [turned_len]
      exact List.take_of_length_le (by simp [turned_len])
    refine doW_call (y := a32 (crc (turned l a [b0, b1, b2] 3))) rfl (by simp [hv]) (sum_Of (Sl.mk 1 _) (by rw [turned_len]; omega)) rfl ?_
    simp
    refine doW_call (y := a32 (crc l)) rfl (by simp [depth_eq, hx.view]) (sum_Of hx (by omega)) rfl ?_
    simp [handed, env, envOf, depth_eq, hcrc]
  | succ d ih =>
    intro k H hk h1 h2
    refine vc_blindstamplaw03_SumTurns_6 _ _ _ _ _ _ _ _ fun g => ?_
    have hk3 : (k : Int) < 3 := by omega
    have hk3' : k < 3 := by omega
    subst h8
    have hi := qIndexAddr_osl (P := env.P) (t := 22) (z := 1) (by simp) H.get h1 rfl 0 l.length none .i64 ((a : Int) + k)
    have hak : ((a : Int) + k).toNat = a + k := by omega
    have hlt : a + k < (turned l a [b0, b1, b2] k).length := by rw [turned_len]; omega
    simp [VC_blindstamplaw03_SumTurns_6, hk3, IntWalk.i64_in ((a : Int) + k) (by omega), hi, hak, h1]
    refine ⟨by omega, ?_⟩
    have hc : ∃ b, [a8 b0, a8 b1, a8 b2][k]? = some (a8 b) ∧ [b0, b1, b2].getD k 0 = b := by
      match k, hk3' with
      | 0, _ => exact ⟨b0, rfl, rfl⟩
      | 1, _ => exact ⟨b1, rfl, rfl⟩
      | 2, _ => exact ⟨b2, rfl, rfl⟩
    obtain ⟨b, hb1, hb2⟩ := hc
    rw [doQ_get8 _ _ _ _ hlt]
    simp [hk3, h2, hb1, hi, hak, store8 (P := env.P) (t := 5) (by simp) h1 hlt, IntWalk.i64_in ((k : Int) + 1) (by omega)]
    refine ⟨by omega, ?_⟩
    refine ih (k + 1) _ (by omega) ?_ ?_
    · simp only [Heap.get_put, if_true, turned, hb2]
      rw [List.getD_eq_getElem?_getD, List.getElem?_eq_getElem hlt]
      rfl
    · rw [Heap.get_put, if_neg hne]; exact h2

theorem law0 (l : List UInt8) (x : AV) (hx : Sl 1 (by8 l) x) (at_ : Int) (h0 : -9223372036854775808 ≤ at_ ∧ at_ ≤ 9223372036854775807) (b0 b1 b2 : UInt8) : limf env 3 [x, aI at_, .agg [a8 b0, a8 b1, a8 b2]] = some (aB true) := by
  refine limf_of (fn := Try.f3) (c := bd_blindstamplaw03_SumTurns) rfl (by kernel_rfl) (by kernel_rfl) (by kernel_rfl) (by kernel_rfl) ?_
  refine vc_blindstamplaw03_SumTurns _ _ _ _ _ fun g => ?_
  have hlen := hx.len
  simp [VC_blindstamplaw03_SumTurns]
  refine doW_call (y := aB true) rfl (by simp) alive rfl ?_
  simp [hlen]
  by_cases h1 : (10000 : Int) < l.length
  · simp [h1, handed, env, envOf, depth_eq]
  simp [h1]
  by_cases h2 : at_ < 0
  · simp [h2, handed, env, envOf, depth_eq]
  simp [h2, hlen, IntWalk.i64_in ((l.length : Int) - 3) (by omega)]
  by_cases h3 : (l.length : Int) - 3 < at_
  · simp [h3, handed, env, envOf, depth_eq]
  simp [h1, h2, h3, qBuild, fillAV, eqA, eqFs, eqRep]
  by_cases hz : (decide (b0 = 0) && (decide (b1 = 0) && decide (b2 = 0))) = true
  · simp [hz, handed, env, envOf, depth_eq]
  simp [hz]
  obtain ⟨n, rfl⟩ := Int.eq_ofNat_of_zero_le (Int.not_lt.1 h2)
  have hne : l ≠ [] := by intro e; subst e; simp at h3; omega
  obtain ⟨s', H', happ, hown, hfr, hpres⟩ := app_own (P := env.P) (t := 22) (t' := 22) (r := ⟨0, 36, _, 0⟩) (by simp : elT env.P 22 1 1 = true) (by simp) (own_nil 1 _) (hx.els (Heap.get [(⟨0, 5, Heap.gen [] 0 5, 0⟩, some ⟨3, [AV.agg [a8 b0, a8 b1, a8 b2]], false, false⟩)])) (by simp [roomB]; omega) (Fr.nil.cons 0 5 _) ⟨0, 36, rfl⟩
  refine doW_of happ ?_
  have hlen' : (3 : Nat) ≤ l.length := by omega
  obtain ⟨r8, rfl, h8⟩ := hown.osl (by intro e; have := congrArg List.length e; simp at this; exact hne this)
  have h5 := hpres ⟨0, 5, Heap.gen [] 0 5, 0⟩ ⟨3, [AV.agg [a8 b0, a8 b1, a8 b2]], false, false⟩ (by simp) (by simp [AV.at?])
  refine loop hx (r5 := ⟨0, 5, Heap.gen [] 0 5, 0⟩) (r8 := r8) (b0 := b0) (b1 := b1) (b2 := b2) ?_ (a := n) (by omega) (by omega) ?_ (by simp) 3 0 H' rfl (by simpa [turned] using h8) h5.1
  · intro e; exact h5.2 (by rw [e]; rfl)
  · intro e
    have hl : l = l.take n ++ [l[n]'(by omega), l[n + 1]'(by omega), l[n + 2]'(by omega)] ++ l.drop (n + 3) := by
      conv => lhs; rw [← List.take_append_drop n l]
      rw [List.drop_eq_getElem_cons (by omega), List.drop_eq_getElem_cons (by omega), List.drop_eq_getElem_cons (by omega)]
      simp
    have ht : turned l n [b0, b1, b2] 3 = l.take n ++ [l[n]'(by omega) ^^^ b0, l[n + 1]'(by omega) ^^^ b1, l[n + 2]'(by omega) ^^^ b2] ++ l.drop (n + 3) := by
      have := turned3 (l.take n) (l.drop (n + 3)) (l[n]'(by omega)) (l[n + 1]'(by omega)) (l[n + 2]'(by omega)) b0 b1 b2
      rwa [← hl, List.length_take, Nat.min_eq_left (by omega)] at this
    rw [ht] at e
    conv at e => rhs; rw [hl]
    have := crc_turn e
    apply hz
    simp [this.1, this.2.1, this.2.2]

theorem law (xs : List AV) (h : ShVs env.P 20 Try.f3.params.toList xs) : limf env 3 xs = some (aB true) := by
  rw [show Try.f3.params.toList = [22, 3, 23] from by kernel_rfl] at h
  obtain ⟨x0, xs, rfl, h0, h⟩ := shvs_cons h
  obtain ⟨x1, xs, rfl, h1, h⟩ := shvs_cons h
  obtain ⟨x2, xs, rfl, h2, h⟩ := shvs_cons h
  obtain rfl := shvs_nil h
  obtain ⟨l, x, e, hx⟩ := sh_bytes telem_22 (by simp) (by simp) (by simp) (h0.cell (by simp))
  cases e
  obtain ⟨i, hi, e⟩ := rep_i64 (by simp) _ _ (h1.cell (by simp))
  cases e
  obtain ⟨ys, e, h2'⟩ := h2.agg (by simp)
  clear h2
  subst e
  obtain ⟨m, ⟨hm, _⟩, rfl⟩ := rep_arr (P := env.P) tarr_23 (rep_8 (by simp)) _ _ h2'
  match m, hm with
  | [b0, b1, b2], _ => exact law0 l _ hx i hi b0 b1 b2

theorem own : ownKnob Try.prog.godebug = none := by kernel_rfl

theorem kids : Kids Try.prog (· < Try.prog.types.size) := kids_rows (by kernel_rfl) (by kernel_rfl)

theorem envOk : env.Ok (regionOk env) := env_ok (by kernel_rfl) fnsFit

theorem lifted (os : Os) (started : os.Started) (H : Type) (enc : TypeId × Value → H) :
    ReturnsInHanded {} Try.checked os 3 .any (Rows.sumTurnsSpec.pre6 enc Try.prog Try.f3 Rows.sumTurnsRow.domain false) (Rows.sumTurnsSpec.post enc Try.prog Try.f3 false true false false) := by
  refine returnsInHanded_of_change (C := Try.checked) own started (by kernel_rfl) Try.func3
    (ChangeSpec.witness6 (enc := enc) (C := Try.checked) false ⟨#[], #[.slice none 0 0, .int .i64 0, .agg #[.int .u8 0, .int .u8 0, .int .u8 0]], []⟩ 8 (by kernel_rfl) (by kernel_rfl) (by kernel_rfl) (by kernel_rfl)) ?_
  intro W base args ds gs before hval hW _ _
  exact open_contract (E := env) envOk kids (slices_full_of Try.prog (by kernel_rfl)) (m := 20) (fun t ht => of_decide_eq_true (List.all_eq_true.1 (show Try.f3.params.toList.all (fun t => decide (t < Try.prog.types.size)) = true by kernel_rfl) t ht)) (by kernel_rfl) rfl
    (fun ds hd => by match ds, hd with | [_, _, _], _ => rfl) (by kernel_rfl) law W base args ds gs before hval hW

theorem over : Rows.sumTurnsRow.holds Try.pinned (OpenSpec.ofChange Rows.sumTurnsSpec) :=
  OpenClaim.holds_of_wide 3 Try.f3 rfl rfl rfl rfl rfl rfl rfl ⟨rfl, rfl, rfl, rfl, rfl⟩ rfl rfl rfl rfl rfl (by kernel_rfl) Try.func3 (by kernel_rfl)
    (of_decide_eq_true (by kernel_rfl)) (by unfold Func.isWrapper; first | (rw [if_pos (by decide +kernel)]; kernel_rfl) | (rw [if_neg (by decide +kernel)]; exact ⟨rfl, rfl⟩))
    (fun os started H enc _ => lifted os started H enc)

theorem proved : Rows.SumTurnsSaid :=
  over
end Go.Proofs.Ytfkpmldmmdkgoaa.sumTurns
