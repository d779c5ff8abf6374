/-
  'Rows.SumThreeSaid' is proved. No conditions.
-/
import Derived.Test.YtfkpmldmmdkgoaaSumFns
set_option linter.unusedVariables false
set_option linter.unusedSimpArgs false
set_option maxRecDepth 1000000
namespace Go.Proofs.Ytfkpmldmmdkgoaa.sumThree
open Go.Ab Go.ChangeShapes Go.WideShapes Go.RowKit

theorem alive : limf env 8 [] = some (aB true) := limf_run_of (n := 20000) (by kernel_rfl)

theorem grow (zs : List UInt8) (n : Nat) (hn : zs.length = n) (k : Nat) (h : k < n) : (zs.take k ++ List.replicate (n - k) 0).set k (zs.getD k 0) = zs.take (k + 1) ++ List.replicate (n - (k + 1)) 0 := by
  subst hn
  have e : zs.length - k = (zs.length - (k + 1)) + 1 := by omega
  rw [e, List.replicate_succ, List.set_append_right _ _ (by simp; omega)]
  rw [List.take_succ_eq_append_getElem h]
  have : k - (zs.take k).length = 0 := by simp; omega
  rw [this, List.getD_eq_getElem?_getD, List.getElem?_eq_getElem h]
  simp only [List.set_cons_zero, List.append_assoc, List.singleton_append, Option.getD_some]

set_option maxHeartbeats 1000000 in
theorem loop {la lb lc : List UInt8} {xa xb xc : AV} (ha : Sl 1 (by8 la) xa) (hb : Sl 1 (by8 lb) xb) (hc : Sl 1 (by8 lc) xc) {n : Nat} (h1 : n ≤ la.length) (h2 : n ≤ lb.length) (h3 : n ≤ lc.length) (hn : n ≤ 10000) {r : Ref} :
    ∀ (d k : Nat) (H : Heap), k + d = n → H.get r = some ⟨1, by8 ((xor3 (la.take n) (lb.take n) (lc.take n)).take k ++ List.replicate (n - k) 0), true, false⟩ →
    GoL env Try.f4 0 hd_blindstamplaw03_SumThree_7 [(10, aI k), (2, xc), (1, xb), (0, xa), (9, .osl r 0 n none), (8, aI n), (7, aB true)] H fun x H => handed env 4 x H (aB true) := by
  have hz : (xor3 (la.take n) (lb.take n) (lc.take n)).length = n := by simp [xor3]; omega
  intro d
  induction d with
  | zero =>
    intro k H hk hr
    refine vc_blindstamplaw03_SumThree_7 _ _ _ _ _ _ _ _ _ fun g => ?_
    obtain rfl : k = n := by omega
    simp [VC_blindstamplaw03_SumThree_7]
    rw [List.take_of_length_le (by omega)] at hr
    simp only [Nat.sub_self, List.replicate_zero, List.append_nil] at hr
    have hv : view H.get depth (.osl r 0 k none) = some (.isl 1 (by8 (xor3 (la.take k) (lb.take k) (lc.take k))) none) := by
      rw [depth_eq]; exact view_full hr (by simp [hz]) 7 none
    refine doW_call (xs := [.isl 1 (by8 (xor3 (la.take k) (lb.take k) (lc.take k))) none]) (y := a32 (crc (xor3 (la.take k) (lb.take k) (lc.take k)))) rfl (by simp [hv]) (sum_Of (Sl.mk 1 _) (by omega)) rfl ?_
    have hA := slice_to (P := env.P) (t := 22) elem_22 H.get ha (n := (k : Int)) (by omega) (by simp; omega)
    have hB := slice_to (P := env.P) (t := 22) elem_22 H.get hb (n := (k : Int)) (by omega) (by simp; omega)
    have hC := slice_to (P := env.P) (t := 22) elem_22 H.get hc (n := (k : Int)) (by omega) (by simp; omega)
    obtain ⟨ya, ea, sa⟩ := hA
    obtain ⟨yb, eb, sb⟩ := hB
    obtain ⟨yc, ec, sc⟩ := hC
    rw [Int.toNat_natCast, by8_take] at sa sb sc
    simp [ea]
    refine doW_call (xs := [ya]) (y := a32 (crc (la.take k))) rfl (by simp [depth_eq, sa.view]) (sum_Of sa (by simp; omega)) rfl ?_
    simp [eb]
    refine doW_call (xs := [yb]) (y := a32 (crc (lb.take k))) rfl (by simp [depth_eq, sb.view]) (sum_Of sb (by simp; omega)) rfl ?_
    simp [ec]
    refine doW_call (xs := [yc]) (y := a32 (crc (lc.take k))) rfl (by simp [depth_eq, sc.view]) (sum_Of sc (by simp; omega)) rfl ?_
    have e := crc_three (a := la.take k) (b := lb.take k) (c := lc.take k) (by simp; omega) (by simp; omega)
    simp [e]
    refine handed0 ?_
    simp [depth_eq]
  | succ d ih =>
    intro k H hk hr
    refine vc_blindstamplaw03_SumThree_7 _ _ _ _ _ _ _ _ _ fun g => ?_
    have hkn : (k : Int) < n := by omega
    have hka : k < la.length := by omega
    have hkb : k < lb.length := by omega
    have hkc : k < lc.length := by omega
    obtain ⟨ca, rfl, _⟩ := ha.isl (i := k) (by simpa using hka)
    obtain ⟨cb, rfl, _⟩ := hb.isl (i := k) (by simpa using hkb)
    obtain ⟨cc, rfl, _⟩ := hc.isl (i := k) (by simpa using hkc)
    have hi := qIndexAddr_osl (P := env.P) (t := 22) (z := 1) elem_22 H.get hr rfl 0 n none .i64 (k : Int)
    have hlt : k < ((xor3 (la.take n) (lb.take n) (lc.take n)).take k ++ List.replicate (n - k) 0).length := by simp [hz]; omega
    simp [VC_blindstamplaw03_SumThree_7, hkn, hka, hkb, hkc, hi, store8 (P := env.P) (t := 5) (by simp) hr hlt, IntWalk.i64_in ((k : Int) + 1) (by omega)]
    refine ih (k + 1) _ (by omega) ?_
    have hg := grow (xor3 (la.take n) (lb.take n) (lc.take n)) n hz k (by omega)
    rw [Heap.get_put, if_pos rfl, ← hg]
    have hv : (xor3 (la.take n) (lb.take n) (lc.take n)).getD k 0 = la[k] ^^^ lb[k] ^^^ lc[k] := by
      rw [List.getD_eq_getElem?_getD, List.getElem?_eq_getElem (by omega)]
      simp [xor3]
    rw [hv]

set_option maxHeartbeats 1000000 in
theorem law0 {la lb lc : List UInt8} {xa xb xc : AV} (ha : Sl 1 (by8 la) xa) (hb : Sl 1 (by8 lb) xb) (hc : Sl 1 (by8 lc) xc) : limf env 4 [xa, xb, xc] = some (aB true) := by
  refine limf_of (fn := Try.f4) (c := bd_blindstamplaw03_SumThree) rfl (by kernel_rfl) (by kernel_rfl) (by kernel_rfl) (by kernel_rfl) ?_
  refine vc_blindstamplaw03_SumThree _ _ _ _ _ fun g => ?_
  simp [VC_blindstamplaw03_SumThree]
  refine doW_call (y := aB true) rfl (by simp) alive rfl ?_
  have hm : ∃ n : Nat, (if (lc.length : Int) < (if lb.length < la.length then (lb.length : Int) else la.length) then (lc.length : Int) else if lb.length < la.length then (lb.length : Int) else la.length) = n ∧ n ≤ la.length ∧ n ≤ lb.length ∧ n ≤ lc.length := by
    refine ⟨min (min la.length lb.length) lc.length, ?_, by omega, by omega, by omega⟩
    split <;> split <;> omega
  obtain ⟨n, e, h1, h2, h3⟩ := hm
  simp [ha.len, hb.len, hc.len, e]
  by_cases hn : (10000 : Int) < n
  · simp [hn]; refine handed0 ?_; simp [depth_eq]
  have hmk := fun r => qMake_of (P := env.P) (r := r) (t := 22) (zz := a8 0) elT_22 (by simp) (n := n) (by simp [roomB]; omega) (by omega)
  simp [hn, hmk]
  refine loop ha hb hc h1 h2 h3 (by omega) n 0 _ (by omega) ?_
  simp [by8, xor3]

theorem law (xs : List AV) (h : ShVs env.P 20 Try.f4.params.toList xs) : limf env 4 xs = some (aB true) := by
  rw [show Try.f4.params.toList = [22, 22, 22] from by kernel_rfl] at h
  obtain ⟨x0, xs, rfl, h0, h⟩ := shvs_cons h
  obtain ⟨x1, xs, rfl, h1, h⟩ := shvs_cons h
  obtain ⟨x2, xs, rfl, h2, h⟩ := shvs_cons h
  obtain rfl := shvs_nil h
  obtain ⟨la, xa, e, ha⟩ := sh_bytes telem_22 (by simp) (by simp) (by simp) (h0.cell (by simp))
  cases e
  obtain ⟨lb, xb, e, hb⟩ := sh_bytes telem_22 (by simp) (by simp) (by simp) (h1.cell (by simp))
  cases e
  obtain ⟨lc, xc, e, hc⟩ := sh_bytes telem_22 (by simp) (by simp) (by simp) (h2.cell (by simp))
  cases e
  exact law0 ha hb hc

theorem own : ownKnob Try.prog.godebug = none := by kernel_rfl

theorem kids : Kids Try.prog (· < Try.prog.types.size) := kids_rows (by kernel_rfl) (by kernel_rfl)

theorem envOk : env.Ok (regionOk env) := env_ok (by kernel_rfl) fnsFit

theorem lifted (os : Os) (started : os.Started) (H : Type) (enc : TypeId × Value → H) :
    ReturnsInHanded {} Try.checked os 4 .any (Rows.sumThreeSpec.pre6 enc Try.prog Try.f4 Rows.sumThreeRow.domain false) (Rows.sumThreeSpec.post enc Try.prog Try.f4 false true false false) := by
  refine returnsInHanded_of_change (C := Try.checked) own started (by kernel_rfl) Try.func4
    (ChangeSpec.witness6 (enc := enc) (C := Try.checked) false ⟨#[], #[.slice none 0 0, .slice none 0 0, .slice none 0 0], []⟩ 8 (by kernel_rfl) (by kernel_rfl) (by kernel_rfl) (by kernel_rfl)) ?_
  intro W base args ds gs before hval hW _ _
  exact open_contract (E := env) envOk kids (slices_full_of Try.prog (by kernel_rfl)) (m := 20) (fun t ht => of_decide_eq_true (List.all_eq_true.1 (show Try.f4.params.toList.all (fun t => decide (t < Try.prog.types.size)) = true by kernel_rfl) t ht)) (by kernel_rfl) rfl
    (fun ds hd => by match ds, hd with | [_, _, _], _ => rfl) (by kernel_rfl) law W base args ds gs before hval hW

theorem over : Rows.sumThreeRow.holds Try.pinned (OpenSpec.ofChange Rows.sumThreeSpec) :=
  OpenClaim.holds_of_wide 4 Try.f4 rfl rfl rfl rfl rfl rfl rfl ⟨rfl, rfl, rfl, rfl, rfl⟩ rfl rfl rfl rfl rfl (by kernel_rfl) Try.func4 (by kernel_rfl)
    (of_decide_eq_true (by kernel_rfl)) (by unfold Func.isWrapper; first | (rw [if_pos (by decide +kernel)]; kernel_rfl) | (rw [if_neg (by decide +kernel)]; exact ⟨rfl, rfl⟩))
    (fun os started H enc _ => lifted os started H enc)

theorem proved : Rows.SumThreeSaid :=
  over
end Go.Proofs.Ytfkpmldmmdkgoaa.sumThree
