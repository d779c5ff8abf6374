/-
  A reader of bytes: the ids that it takes. No statement of a seat is proved here.
-/
import Derived.Test.YtehkjjcdkbcebaaOpRead
set_option linter.unusedVariables false
set_option linter.unusedSimpArgs false
set_option linter.unusedSectionVars false
set_option linter.unnecessarySimpa false
set_option maxRecDepth 100000
namespace Go.Proofs.Ytehkjjcdkbcebaa
open Go.Ab
attribute [local simp] depth_eq callRes_V callG_frz callG_own keep thr appRes_G appFine_n appFine_s appG_n appG_s roomB appRes_I islFine_some islG_ne List.take_of_length_le
def idG (bs : List UInt8) : Idd := if idB (iddOf bs) then iddOf bs else zeroI
def idBad (bs : List UInt8) (zero : Bool) : Bool := !idB (iddOf bs) && !(zero && decide (bs = List.replicate 13 0))
structure Ti (H H' : Heap) (r : Ref) (x : AV) (bs : List UInt8) (a : Nat) (b : Bool) (y : AV) : Prop where
  val : y = .agg [a8 (idG bs).h.lv, a32 (idG bs).h.cats, a8 (idG bs).h.num, aI (idG bs).n]
  fr : Fr H'
  box : H'.get r = some (rdBlk x a b)
  old : ∀ q c, q ≠ r → H.get q = some c → H'.get q = some c
theorem take_w (dep : Nat) {H : Heap} {r : Ref} {x : AV} {l : List UInt8} {a : Nat} {b : Bool} (n : Nat) {i : Int} {K : AV → Heap → Prop} {m : Mk K} (hi : i = n) (hx : Sl 1 (by8 l) x) (ha : a ≤ l.length) (hl : l.length < 1000000000) (hn : n < 1000000)
    (hF : Fr H) (hb : H.get r = some (rdBlk x a b)) (h : ∀ y v H', Tk H H' r x l (tkL l a b n) (tkA l a b n) (tkB l a b n) y v → K y H') : doW (limt env dep (.fn 55) [.ptr r 0 0, aI i] H) K m := by
  subst hi
  obtain ⟨y, H', hy, v, hk⟩ := take_at dep n hF hx hb ha hl hn
  exact doW_of hy (h y v H' hk)
theorem id_at (dep : Nat) {H : Heap} {r : Ref} {x : AV} {l : List UInt8} {a : Nat} {b : Bool} (zero : Bool) (hF : Fr H) (hx : Sl 1 (by8 l) x) (hb : H.get r = some (rdBlk x a b)) (ha : a ≤ l.length) (hl : l.length < 1000000000) :
    ∃ y H', limt env dep (.fn 56) [.ptr r 0 0, aB zero] H = some (y, H') ∧ Ti H H' r x (tkL l a b 13) (tkA l a b 13) (tkB l a b 13 || idBad (tkL l a b 13) zero) y := by
  refine limtQ_of (fn := Try.f56) (c := bd___blindstamp_op_reader__id) (by kernel_rfl) (by kernel_rfl) (by kernel_rfl) (by kernel_rfl) (by kernel_rfl) ?_
  refine vc___blindstamp_op_reader__id _ _ _ _ _ fun g => ?_
  have l1 : (H.get r).isSome = true := by rw [hb]; rfl
  have hT := callRes_T (f := 55) (by kernel_rfl)
  simp [new_ne, ne_new, new_ne1, ne_new1, gen_put', *, VC___blindstamp_op_reader__id, hT, -callRes_V]
  refine take_w (dep + 1) 13 rfl hx ha hl (by omega) (by simp (maxDischargeDepth := 12) [Heap.get_put, Fr_cons, Fr_consK, Fr.nil, Fr_put, new_ne, ne_new, new_ne1, ne_new1, get_new, get_new1, gen_put', *]) (by rw [Heap.get_cons, if_neg (live_ne hF l1 _ _ _)]; exact hb) fun y v H1 hk => ?_
  obtain ⟨hs, fr, hbox, old, spot⟩ := hk
  have hlen := tkL_len (l := l) (a := a) b 13
  have hG := g_IGet hs.sl hlen
  have hE : limf env 80 [v, .isl 1 [a8 0, a8 0, a8 0, a8 0, a8 0, a8 0, a8 0, a8 0, a8 0, a8 0, a8 0, a8 0, a8 0] none] = some (aB (decide (tkL l a b 13 = List.replicate 13 0))) := s_BEqual hs.sl (Sl.mk 1 (by8 (List.replicate 13 0)))
  have h1 := old ⟨dep + 1, 4, H.gen (dep + 1) 4, 0⟩ ⟨4, [.agg [a8 0, a32 0, a8 0, aI 0]], false, false⟩ (live_ne hF l1 _ _ _) (by simp)
  have n1 : (⟨dep + 1, 4, H.gen (dep + 1) 4, 0⟩ : Ref) ≠ r := live_ne hF l1 _ _ _
  have n2 := n1.symm
  have l2 : (H1.get r).isSome = true := by rw [hbox]; rfl
  have l3 : (H1.get ⟨dep + 1, 4, H.gen (dep + 1) 4, 0⟩).isSome = true := by rw [h1]; rfl
  unfold rdBlk at hbox
  have hfin : ∀ (Hx : Heap) (y : AV) (z : Bool), y = .agg [a8 (idG (tkL l a b 13)).h.lv, a32 (idG (tkL l a b 13)).h.cats, a8 (idG (tkL l a b 13)).h.num, aI (idG (tkL l a b 13)).n] → Fr Hx → Hx.get r = some ⟨3, [.agg [x, aI (tkA l a b 13), aB z]], false, false⟩ →
      (∀ q c, q ≠ r → q ≠ ⟨dep + 1, 4, H.gen (dep + 1) 4, 0⟩ → H1.get q = some c → Hx.get q = some c) → Ti H Hx r x (tkL l a b 13) (tkA l a b 13) z y := by
    intro Hx y z hy hFx hbx ho
    refine ⟨hy, hFx, hbx, fun q c hq hc => ?_⟩
    have nq : q ≠ ⟨dep + 1, 4, H.gen (dep + 1) 4, 0⟩ := fun e => live_ne hF (by rw [hc]; rfl) _ _ _ e.symm
    exact ho q c hq nq (old q c hq (by rw [Heap.get_cons, if_neg (fun e => nq e.symm)]; exact hc))
  have e1 : idG (tkL l a b 13) = if idB (iddOf (tkL l a b 13)) then iddOf (tkL l a b 13) else zeroI := rfl
  have e2 : idBad (tkL l a b 13) zero = (!idB (iddOf (tkL l a b 13)) && !(zero && decide (tkL l a b 13 = List.replicate 13 0))) := rfl
  generalize tkL l a b 13 = bs at *
  generalize tkA l a b 13 = a' at *
  generalize tkB l a b 13 = b' at *
  clear ha old
  generalize decide (bs = List.replicate 13 0) = dz at *
  generalize hi : iddOf bs = i at *
  obtain ⟨⟨k1, k2, k3⟩, k4⟩ := i
  rcases hs with ⟨rfl, hs⟩ | ⟨q, c, fz, rfl, hq, rfl, hc⟩
  · have hr := hs.r
    cases hI : idB ⟨⟨k1, k2, k3⟩, k4⟩ <;> cases zero <;> cases b'
    all_goals simp [new_ne, ne_new, new_ne1, ne_new1, gen_put', *, VC___blindstamp_op_reader__id, zeroI]
    all_goals
      refine hfin _ _ _ ?_ (by simp (maxDischargeDepth := 12) [Heap.get_put, Fr_cons, Fr_consK, Fr.nil, Fr_put, new_ne, ne_new, new_ne1, ne_new1, get_new, get_new1, gen_put', *]) ?_ ?_
      · simp [e1, hI, zeroI]
      · simp [Heap.get_put, new_ne, ne_new, *]
      · intro q c hq hq1 hc
        have l5 : (H1.get q).isSome = true := by rw [hc]; rfl
        have hq' := hq.symm
        have hq1' := hq1.symm
        simp [Heap.get_put, new_ne, ne_new, *]
  · have l4 : (H1.get q).isSome = true := by rw [hq]; rfl
    cases hI : idB ⟨⟨k1, k2, k3⟩, k4⟩ <;> cases zero <;> cases b'
    all_goals simp [new_ne, ne_new, new_ne1, ne_new1, gen_put', *, VC___blindstamp_op_reader__id, zeroI]
    all_goals
      refine hfin _ _ _ ?_ (by simp (maxDischargeDepth := 12) [Heap.get_put, Fr_cons, Fr_consK, Fr.nil, Fr_put, new_ne, ne_new, new_ne1, ne_new1, get_new, get_new1, gen_put', *]) ?_ ?_
      · simp [e1, hI, zeroI]
      · simp [Heap.get_put, new_ne, ne_new, *]
      · intro q c hq hq1 hc
        have l5 : (H1.get q).isSome = true := by rw [hc]; rfl
        have hq' := hq.symm
        have hq1' := hq1.symm
        simp [Heap.get_put, new_ne, ne_new, *]
end Go.Proofs.Ytehkjjcdkbcebaa
