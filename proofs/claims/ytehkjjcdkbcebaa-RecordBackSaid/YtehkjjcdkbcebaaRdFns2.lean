/-
  A reader of bytes: what it takes. No statement of a seat is proved here.
-/
import Derived.Test.YtehkjjcdkbcebaaRdFns
set_option linter.unusedVariables false
set_option linter.unusedSimpArgs false
set_option linter.unusedSectionVars false
set_option linter.unnecessarySimpa false
set_option maxRecDepth 100000
namespace Go.Proofs.Ytehkjjcdkbcebaa
open Go.Ab
attribute [local simp] depth_eq callRes_V callG_frz callG_own keep thr appRes_G appFine_n appFine_s appG_n appG_s roomB appRes_I islFine_some islG_ne List.take_of_length_le
theorem callRes_T {f : FuncId} (hm : (env.mode f == 2) = true) (dep : Nat) (H : Heap) (r : Ref) (first args captured : List AV) :
    callRes env true (limf env) (limt env dep) H r (some (.fn (.func f) first captured)) args = limt env dep (.fn f) (first ++ args ++ captured) H := by
  have h : env.mode f = 2 := by simpa using hm
  simp [callRes, qCall, wCall, nRes, orW, h]
def hanOf (l : List UInt8) : Han := ⟨l.getD 0 0, u32 (val ((l.drop 1).take 4)), l.getD 5 0⟩
def iddOf (l : List UInt8) : Idd := ⟨hanOf l, val (l.drop 6)⟩
theorem six_of {l : List UInt8} (h : l.length = 6) : ∃ a b c d e f, l = [a, b, c, d, e, f] := by
  match l, h with
  | [a, b, c, d, e, f], _ => exact ⟨a, b, c, d, e, f, rfl⟩
theorem thirteen_of {l : List UInt8} (h : l.length = 13) : ∃ a b c d e f g i j k m n o, l = [a, b, c, d, e, f, g, i, j, k, m, n, o] := by
  match l, h with
  | [a, b, c, d, e, f, g, i, j, k, m, n, o], _ => exact ⟨a, b, c, d, e, f, g, i, j, k, m, n, o, rfl⟩
theorem sl_isl {z : Nat} {es : List AV} {x : AV} (h : Sl z es x) (hne : 0 < es.length) : ∃ c, x = .isl z es c ∧ es.length ≤ c.getD es.length := by
  rcases h with ⟨rfl, rfl⟩ | ⟨c, rfl, h⟩
  · simp at hne
  · exact ⟨c, rfl, h⟩
theorem g_GetHandle {v : AV} {l : List UInt8} (hv : Sl 1 (by8 l) v) (hl : l.length = 6) : limf env 57 [v] =
    some (if handB (hanOf l) then .tup [.agg [a8 (hanOf l).lv, a32 (hanOf l).cats, a8 (hanOf l).num], aI 0] else .tup [.agg [a8 0, a32 0, a8 0], aI 8]) := by
  obtain ⟨a, b, c, d, e, f, rfl⟩ := six_of hl
  obtain ⟨cp, rfl, hc⟩ := sl_isl hv (by simp [by8])
  exact s_GetHandle (by simpa [by8] using hc)
theorem g_IGet {v : AV} {l : List UInt8} (hv : Sl 1 (by8 l) v) (hl : l.length = 13) : limf env 87 [v] =
    some (if idB (iddOf l) then .tup [.agg [a8 (iddOf l).h.lv, a32 (iddOf l).h.cats, a8 (iddOf l).h.num, aI (iddOf l).n], aI 0] else .tup [.agg [a8 0, a32 0, a8 0, aI 0], aI 8]) := by
  obtain ⟨a, b, c, d, e, f, g, i, j, k, m, n, o, rfl⟩ := thirteen_of hl
  obtain ⟨cp, rfl, hc⟩ := sl_isl hv (by simp [by8])
  exact s_IGet (by simpa [by8] using hc)
def tkB (l : List UInt8) (a : Nat) (b : Bool) (n : Nat) : Bool := b || decide (l.length < a + n)
def tkA (l : List UInt8) (a : Nat) (b : Bool) (n : Nat) : Nat := if tkB l a b n then a else a + n
def tkL (l : List UInt8) (a : Nat) (b : Bool) (n : Nat) : List UInt8 := if tkB l a b n then List.replicate n 0 else (l.drop a).take n
theorem tkA_le {l : List UInt8} {a : Nat} (b : Bool) (n : Nat) (h : a ≤ l.length) : tkA l a b n ≤ l.length := by
  unfold tkA tkB
  split
  · exact h
  · rename_i hh; simp at hh; omega
theorem tkL_len {l : List UInt8} {a : Nat} (b : Bool) (n : Nat) : (tkL l a b n).length = n := by
  unfold tkL
  split
  · simp
  · rename_i hh; simp [tkB] at hh; simp; omega
def rdBlk (x : AV) (a : Nat) (b : Bool) : Blk := ⟨3, [.agg [x, aI a, aB b]], false, false⟩
structure Tk (H H' : Heap) (r : Ref) (x : AV) (l bs : List UInt8) (a : Nat) (b : Bool) (y v : AV) : Prop where
  seen : SeenS 1 (by8 bs) H' y v
  fr : Fr H'
  box : H'.get r = some (rdBlk x a b)
  old : ∀ q c, q ≠ r → H.get q = some c → H'.get q = some c
  spot : ∀ q, y.at? = some q → q.t = 31
theorem tk_new (d : Nat) {H : Heap} {r : Ref} {x : AV} {l : List UInt8} {a n : Nat} {c : Blk} (hF : Fr H) (hb : H.get r = some c) :
    ∃ v, Tk H ((⟨d, 31, H.gen d 31, 0⟩, some ⟨1, List.replicate n (a8 0), true, false⟩) :: H.put r (some ⟨3, [.agg [x, aI a, aB true]], false, false⟩)) r x l (List.replicate n 0) a true (.osl ⟨d, 31, H.gen d 31, 0⟩ 0 n none) v := by
  have l1 : (H.get r).isSome = true := by rw [hb]; rfl
  have h31 : by8 (List.replicate n 0) = List.replicate n (a8 0) := by simp [by8]
  refine ⟨.isl 1 (by8 (List.replicate n 0)) none, ?_, by simp (maxDischargeDepth := 12) [Heap.get_put, Fr_cons, Fr_consK, Fr.nil, Fr_put, new_ne, ne_new, new_ne1, ne_new1, get_new, get_new1, gen_put', *], ?_, ?_, ?_⟩
  · refine .inr ⟨⟨d, 31, H.gen d 31, 0⟩, none, false, ?_, ?_, rfl, ?_⟩
    · rw [h31]; simp
    · rw [h31]; simp
    · simp
  · rw [Heap.get_cons, if_neg (live_ne hF l1 _ _ _), Heap.get_put, if_pos rfl]; rfl
  · intro q c' hq hc
    rw [Heap.get_cons, if_neg (live_ne hF (by rw [hc]; rfl) _ _ _), Heap.get_put, if_neg (fun e => hq e)]
    exact hc
  · intro q e; cases e; rfl
theorem tk_old {H : Heap} {r : Ref} {x y : AV} {l bs : List UInt8} {a : Nat} {c : Blk} {b1 b2 : Option Blk} (hF : Fr H) (hb : H.get r = some c) (hy : Sl 1 (by8 bs) y) (hb1 : ∃ c1, b1 = some c1) (hb2 : b2 = some ⟨3, [.agg [x, aI a, aB false]], false, false⟩) :
    ∃ v, Tk H ((H.put r b1).put r b2) r x l bs a false y v := by
  have l1 : (H.get r).isSome = true := by rw [hb]; rfl
  subst hb2
  refine ⟨y, SeenS.of hy _, ?_, ?_, ?_, ?_⟩
  · obtain ⟨c1, rfl⟩ := hb1
    exact by simp (maxDischargeDepth := 12) [Heap.get_put, Fr_cons, Fr_consK, Fr.nil, Fr_put, new_ne, ne_new, new_ne1, ne_new1, get_new, get_new1, gen_put', *]
  · rw [Heap.get_put, if_pos rfl]; rfl
  · intro q c' hq hc
    rw [Heap.get_put, if_neg (fun e => hq e), Heap.get_put, if_neg (fun e => hq e)]
    exact hc
  · intro q e
    rcases hy with ⟨rfl, _⟩ | ⟨c, rfl, _⟩ <;> cases e
theorem take_at (dep : Nat) {H : Heap} {r : Ref} {x : AV} {l : List UInt8} {a : Nat} {b : Bool} (n : Nat) (hF : Fr H) (hx : Sl 1 (by8 l) x) (hb : H.get r = some (rdBlk x a b)) (ha : a ≤ l.length) (hl : l.length < 1000000000) (hn : n < 1000000) :
    ∃ y H', limt env dep (.fn 55) [.ptr r 0 0, aI n] H = some (y, H') ∧ ∃ v, Tk H H' r x l (tkL l a b n) (tkA l a b n) (tkB l a b n) y v := by
  refine limtQ_of (fn := Try.f55) (c := bd___blindstamp_op_reader__take) (by kernel_rfl) (by kernel_rfl) (by kernel_rfl) (by kernel_rfl) (by kernel_rfl) ?_
  refine vc___blindstamp_op_reader__take _ _ _ _ _ fun g => ?_
  unfold rdBlk at hb
  have hlen := hx.len
  have w1 := IntWalk.i64_in ((l.length : Int) - a) (by omega)
  have hm := fun r => qMake_of (P := env.P) (r := r) (t := 34) (z := 1) (by' := 1) (zz := a8 0) (by kernel_rfl) (by kernel_rfl) (n := n) (by unfold roomB; omega) (by omega)
  have h31 : by8 (List.replicate n 0) = List.replicate n (a8 0) := by simp [by8]
  cases b with
  | true =>
    have hB : tkB l a true n = true := rfl
    have hA : tkA l a true n = a := rfl
    have hL : tkL l a true n = List.replicate n 0 := rfl
    simp [new_ne, ne_new, new_ne1, ne_new1, gen_put', *, VC___blindstamp_op_reader__take, hb]
    exact tk_new _ hF hb
  | false =>
    by_cases hlt : (l.length : Int) - a < n
    · have hB : tkB l a false n = true := by simp only [tkB, Bool.false_or, decide_eq_true_eq]; omega
      have hA : tkA l a false n = a := by unfold tkA; rw [hB]; rfl
      have hL : tkL l a false n = List.replicate n 0 := by unfold tkL; rw [hB]; rfl
      have hd : decide ((l.length : Int) - a < n) = true := decide_eq_true hlt
      clear hlt
      simp [new_ne, ne_new, new_ne1, ne_new1, gen_put', *, VC___blindstamp_op_reader__take, hb]
      exact tk_new _ hF hb
    · have hB : tkB l a false n = false := by simp only [tkB, Bool.false_or, decide_eq_false_iff_not]; omega
      have hA : tkA l a false n = a + n := by unfold tkA; rw [hB]; rfl
      have hL : tkL l a false n = (l.drop a).take n := by unfold tkL; rw [hB]; rfl
      have hd : decide ((l.length : Int) - a < n) = false := decide_eq_false hlt
      have w2 := IntWalk.i64_in ((a : Int) + n) (by omega)
      have w4 := IntWalk.i64_in (a : Int) (by omega)
      have w3 := IntWalk.i64_in ((a : Int) + n - n) (by omega)
      have e3 : (a : Int) + n - n = a := by omega
      rw [e3] at w3
      have hlt' : a + n ≤ l.length := by omega
      have hsl := fun g => slice_mid (P := env.P) (t := 34) (z := 1) (by kernel_rfl) g hx (lo := (a : Int)) (hi := (a : Int) + n) (by omega) (by omega) (by simp; omega)
      have et : ((a : Int) + n).toNat - (a : Int).toNat = n := by omega
      rw [et, Int.toNat_natCast] at hsl
      clear hlt et e3
      simp [new_ne, ne_new, new_ne1, ne_new1, gen_put', *, VC___blindstamp_op_reader__take, hb]
      obtain ⟨y, hy, hyS⟩ := hsl _
      refine doQ_of hy ?_
      have hS : Sl 1 (by8 ((l.drop a).take n)) y := by simpa [by8] using hyS
      rw [hA, hB, hL]
      exact tk_old hF hb hS ⟨_, rfl⟩ rfl
end Go.Proofs.Ytehkjjcdkbcebaa
