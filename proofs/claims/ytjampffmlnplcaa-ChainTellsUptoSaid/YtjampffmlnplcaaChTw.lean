/-
  Operations in new memory, and whether two are the same. No statement of a seat is proved here.
-/
import Derived.Test.YtjampffmlnplcaaChRef
import Derived.Test.YtjampffmlnplcaaRunesFns
set_option linter.unusedVariables false
set_option linter.unusedSimpArgs false
set_option linter.unusedSectionVars false
set_option linter.unnecessarySimpa false
set_option maxRecDepth 100000
namespace Go.Proofs.Ytjampffmlnplcaa
open Go.Ab
attribute [local simp] depth_eq callRes_V callG_data callG_frz callG_own keep thr appRes_G appFine_n appFine_s appG_n appG_s roomB appRes_I islFine_some islG_ne List.take_of_length_le sB_lit

theorem s_R9Twin (a_1 : UInt8) (a_2 : UInt8) (a_3 : UInt32) (a_4 : UInt8) (a_5 : Int) (a_6 : UInt8) (a_7 : UInt32) (a_8 : UInt8) (a_9 : Int) (a_10 : Int) (a_11 : UInt8) (a_12 : UInt32) (a_13 : UInt8) (a_14 : Int) (a_15 : UInt8) (a_16 : UInt32) {x : AV} {al : List Int} (hx : Sl 1 (rows al) x) (hl : al.length < 1000000000) : limf env 25 [.agg [a8 a_1, a8 a_2, a32 a_3, a8 a_4, aI a_5, a8 a_6, a32 a_7, a8 a_8, aI a_9, aI a_10, a8 a_11, a32 a_12, a8 a_13, aI a_14, a8 a_15, a32 a_16, x]] = some (.agg [a8 a_1, a8 a_2, a32 a_3, a8 a_4, aI a_5, a8 a_6, a32 a_7, a8 a_8, aI a_9, aI a_10, a8 a_11, a32 a_12, a8 a_13, aI a_14, a8 a_15, a32 a_16, outI 1 (rows al)]) := by
  refine limf_of (fn := Try.f25) (c := bd_blindstampref09_Twin) rfl (by kernel_rfl) (by kernel_rfl) (by kernel_rfl) (by kernel_rfl) ?_; refine vc_blindstampref09_Twin _ _ _ fun g => ?_
  have hlen := hx.len
  have f2 : al.length * 4 ≤ 140737488355328 := by omega
  by_cases h : rows al = []
  · rw [h]
    simp [new_ne, ne_new, new_ne1, ne_new1, gen_put', *, VC_blindstampref09_Twin, hx.r, hx.elsOf, outI]
  · rw [outI_ne 1 h]
    have f4 : (rows al).length = al.length := by simp [rows]
    simp [new_ne, ne_new, new_ne1, ne_new1, gen_put', *, VC_blindstampref09_Twin, hx.r, hx.elsOf, appN]

/-- The same operation, in new memory. -/
def twinO (p : Opn × AV) : Opn × AV := (p.1, outI 1 (rows p.1.l))
def twinOs (l : List (Opn × AV)) : List (Opn × AV) := l.map twinO
theorem opsOf_twin (l : List (Opn × AV)) : opsOf (twinOs l) = opsOf l := by simp [opsOf, twinOs, twinO]
theorem twin_ok {l : List (Opn × AV)} (h : ∀ p ∈ l, okO p) : ∀ p ∈ twinOs l, okO p := by
  intro p hp
  obtain ⟨q, hq, rfl⟩ := List.mem_map.1 hp
  exact ⟨outI_sl _ _, (h q hq).2⟩
theorem twinOs_len (l : List (Opn × AV)) : (twinOs l).length = l.length := List.length_map _
theorem twin_loop {l : List (Opn × AV)} {x0 : AV} (hx : Sl 17 (encOs l) x0) (hall : ∀ p ∈ l, okO p) (hl : l.length < 100000) {Q : AV → Heap → Prop} :
    ∀ (s : List (Opn × AV)) (k : Nat) (i : Int) (acc : List (Opn × AV)) (x3 : AV) (H : Heap), l.drop k = s → k ≤ l.length → i = k → acc.length = k → Fr H → OwnAt [18] 17 (encOs acc) H x3 → (acc = [] → x3 = aNil) →
    (∀ y H', OwnAt [18] 17 (encOs (acc ++ twinOs s)) H' y → (acc ++ twinOs s = [] → y = aNil) → Q y H') →
    GoL env Try.f48 0 hd_blindstampref18_TwinOps_3 [(4, aI i), (0, x0), (3, x3)] H Q := by
  intro s
  induction s with
  | nil =>
    rintro k i acc x3 H hs hk rfl ha hF hO hN hQ
    obtain rfl := drop_nil hs hk
    refine vc_blindstampref18_TwinOps_3 _ _ _ _ _ fun g => ?_
    have hQ' := hQ x3 H (by simpa [twinOs] using hO) (by simpa [twinOs] using hN)
    clear hQ hO hN
    simp [new_ne, ne_new, new_ne1, ne_new1, gen_put', *, VC_blindstampref18_TwinOps_3, hx.len]
    all_goals exact hQ'
  | cons p s ih =>
    rintro k i acc x3 H hs hk rfl ha hF hO hN hQ
    obtain ⟨hlt, hg, hs', hg'⟩ := drop_cons hs
    have hp := hall p (by rw [← hg]; exact List.getElem_mem _)
    obtain ⟨⟨a_1, ⟨a_2, a_3, a_4⟩, a_5, ⟨⟨⟨a_6, a_7, a_8⟩, a_9⟩, a_10⟩, ⟨⟨a_11, a_12, a_13⟩, a_14⟩, ⟨a_15, a_16⟩, al⟩, x⟩ := p
    obtain ⟨hpx, hpl⟩ := hp
    simp only at hpx hpl
    have e3 := IntWalk.i64_in ((k : Int) + 1) (by omega)
    have hc := s_R9Twin a_1 a_2 a_3 a_4 a_5 a_6 a_7 a_8 a_9 a_10 a_11 a_12 a_13 a_14 a_15 a_16 hpx (by omega)
    have hrd : readAt (encOs l) k 0 17 true = some (.agg [a8 a_1, a8 a_2, a32 a_3, a8 a_4, aI a_5, a8 a_6, a32 a_7, a8 a_8, aI a_9, aI a_10, a8 a_11, a32 a_12, a8 a_13, aI a_14, a8 a_15, a32 a_16, x]) := by simp [encOs, encO, hg']
    have hih := fun x3' H' => ih (k + 1) ((k : Int) + 1) (acc ++ [((⟨a_1, ⟨a_2, a_3, a_4⟩, a_5, ⟨⟨⟨a_6, a_7, a_8⟩, a_9⟩, a_10⟩, ⟨⟨a_11, a_12, a_13⟩, a_14⟩, ⟨a_15, a_16⟩, al⟩ : Opn), outI 1 (rows al))]) x3' H' hs' (by omega) (by simp) (by simp; omega)
    clear ih
    have htw : twinOs (((⟨a_1, ⟨a_2, a_3, a_4⟩, a_5, ⟨⟨⟨a_6, a_7, a_8⟩, a_9⟩, a_10⟩, ⟨⟨a_11, a_12, a_13⟩, a_14⟩, ⟨a_15, a_16⟩, al⟩ : Opn), x) :: s) = ((⟨a_1, ⟨a_2, a_3, a_4⟩, a_5, ⟨⟨⟨a_6, a_7, a_8⟩, a_9⟩, a_10⟩, ⟨⟨a_11, a_12, a_13⟩, a_14⟩, ⟨a_15, a_16⟩, al⟩ : Opn), outI 1 (rows al)) :: twinOs s := rfl
    rw [htw] at hQ
    have hQ' : ∀ y H', OwnAt [18] 17 (encOs ((acc ++ [((⟨a_1, ⟨a_2, a_3, a_4⟩, a_5, ⟨⟨⟨a_6, a_7, a_8⟩, a_9⟩, a_10⟩, ⟨⟨a_11, a_12, a_13⟩, a_14⟩, ⟨a_15, a_16⟩, al⟩ : Opn), outI 1 (rows al))]) ++ twinOs s)) H' y → (((acc ++ [((⟨a_1, ⟨a_2, a_3, a_4⟩, a_5, ⟨⟨⟨a_6, a_7, a_8⟩, a_9⟩, a_10⟩, ⟨⟨a_11, a_12, a_13⟩, a_14⟩, ⟨a_15, a_16⟩, al⟩ : Opn), outI 1 (rows al))]) ++ twinOs s) = [] → y = aNil) → Q y H' := fun y H' h hn => hQ y H' (by simpa using h) (fun e => by simp at e)
    clear hQ hN htw
    have hst : ∀ (g m : Nat) (H' : Heap), m = acc.length + 1 → H'.get ⟨0, 18, g, 0⟩ = some ⟨17, encOs acc ++ [.agg [a8 a_1, a8 a_2, a32 a_3, a8 a_4, aI a_5, a8 a_6, a32 a_7, a8 a_8, aI a_9, aI a_10, a8 a_11, a32 a_12, a8 a_13, aI a_14, a8 a_15, a32 a_16, outI 1 (rows al)]], true, false⟩ → OwnAt [18] 17 (encOs (acc ++ [((⟨a_1, ⟨a_2, a_3, a_4⟩, a_5, ⟨⟨⟨a_6, a_7, a_8⟩, a_9⟩, a_10⟩, ⟨⟨a_11, a_12, a_13⟩, a_14⟩, ⟨a_15, a_16⟩, al⟩ : Opn), outI 1 (rows al))])) H' (.osl ⟨0, 18, g, 0⟩ 0 m none) := by
      intro g m H' hm h
      subst hm
      exact .inr ⟨18, g, by simp, by simp [ha], by rw [h]; simp [encOs, encO]⟩
    have hsl := outI_sl 1 (rows al)
    generalize outI 1 (rows al) = xo at *
    refine vc_blindstampref18_TwinOps_3 _ _ _ _ _ fun g => ?_
    clear hall
    rcases hO with ⟨rfl, hz⟩ | ⟨t, gg, ht, rfl, hrr⟩
    · have hz' : acc = [] := by simpa [encOs] using hz
      subst hz'
      have hst' := hst (H.gen 0 18) 1
      clear hst
      rcases hsl with ⟨rfl, hn⟩ | ⟨c, rfl, hcc⟩
      · simp [new_ne, ne_new, new_ne1, ne_new1, gen_put', *, VC_blindstampref18_TwinOps_3, hx.r, hx.idx, hpx.r]
        exact hih _ _ (by simp (maxDischargeDepth := 12) [Heap.get_put, Fr_cons, Fr_consK, Fr.nil, Fr_put, new_ne, ne_new, new_ne1, ne_new1, get_new, get_new1, gen_put', *]) (hst' _ rfl (by simp [encOs])) (fun e => by simp at e) hQ'
      · simp [new_ne, ne_new, new_ne1, ne_new1, gen_put', *, VC_blindstampref18_TwinOps_3, hx.r, hx.idx, hpx.r]
        exact hih _ _ (by simp (maxDischargeDepth := 12) [Heap.get_put, Fr_cons, Fr_consK, Fr.nil, Fr_put, new_ne, ne_new, new_ne1, ne_new1, get_new, get_new1, gen_put', *]) (hst' _ rfl (by simp [encOs])) (fun e => by simp at e) hQ'
    · rw [List.mem_singleton] at ht
      subst ht
      have l6 : (H.get ⟨0, 18, gg, 0⟩).isSome = true := by rw [hrr]; rfl
      have f4 : appFine 17 112 acc.length true none (some ⟨17, encOs acc, true, false⟩) (some [.agg [a8 a_1, a8 a_2, a32 a_3, a8 a_4, aI a_5, a8 a_6, a32 a_7, a8 a_8, aI a_9, aI a_10, a8 a_11, a32 a_12, a8 a_13, aI a_14, a8 a_15, a32 a_16, xo]]) := by
        simp; omega
      have hst' := hst (H.gen 0 18) (acc.length + 1)
      clear hst
      have hk1 : acc.length + 1 = k + 1 := by rw [ha]
      have hst'' := fun H' => hst' H' rfl
      clear ha hst' hk1
      rcases hsl with ⟨rfl, hn⟩ | ⟨c, rfl, hcc⟩
      · simp [new_ne, ne_new, new_ne1, ne_new1, gen_put', *, VC_blindstampref18_TwinOps_3, hx.r, hx.idx, hpx.r]
        exact hih _ _ (by simp (maxDischargeDepth := 12) [Heap.get_put, Fr_cons, Fr_consK, Fr.nil, Fr_put, new_ne, ne_new, new_ne1, ne_new1, get_new, get_new1, gen_put', *]) (hst'' _ (by simp)) (fun e => by simp at e) hQ'
      · simp [new_ne, ne_new, new_ne1, ne_new1, gen_put', *, VC_blindstampref18_TwinOps_3, hx.r, hx.idx, hpx.r]
        exact hih _ _ (by simp (maxDischargeDepth := 12) [Heap.get_put, Fr_cons, Fr_consK, Fr.nil, Fr_put, new_ne, ne_new, new_ne1, ne_new1, get_new, get_new1, gen_put', *]) (hst'' _ (by simp)) (fun e => by simp at e) hQ'
theorem s_TwinOps {l : List (Opn × AV)} {x0 : AV} (hx : Sl 17 (encOs l) x0) (hall : ∀ p ∈ l, okO p) (hl : l.length < 100000) : limf env 48 [x0] = some (outI 17 (encOs (twinOs l))) := by
  refine limf_of (fn := Try.f48) (c := bd_blindstampref18_TwinOps) rfl (by kernel_rfl) (by kernel_rfl) (by kernel_rfl) (by kernel_rfl) ?_; refine vc_blindstampref18_TwinOps _ _ _ fun g => ?_
  simp [new_ne, ne_new, new_ne1, ne_new1, gen_put', *, VC_blindstampref18_TwinOps]
  refine twin_loop hx hall hl l 0 _ [] _ _ rfl (by omega) rfl rfl (by simp (maxDischargeDepth := 12) [Fr_cons, Fr_consK, Fr.nil, Fr_put, new_ne, ne_new, new_ne1, ne_new1, get_new, get_new1, gen_put', *]) (.inl ⟨rfl, rfl⟩) (fun _ => rfl) (fun y H' h hN => ?_)
  rw [List.nil_append] at h hN
  rcases h with ⟨rfl, hz⟩ | ⟨t, gg, ht, rfl, hrr⟩
  · rw [hz]; simp [outI]
  · have hne : encOs (twinOs l) ≠ [] := by
      intro e
      have : twinOs l = [] := by simpa [encOs] using e
      cases hN this
    rw [outI_ne 17 hne]
    rw [encOs_len] at *
    simp [hrr]
theorem s_R9Same (a_1 : UInt8) (a_2 : UInt8) (a_3 : UInt32) (a_4 : UInt8) (a_5 : Int) (a_6 : UInt8) (a_7 : UInt32) (a_8 : UInt8) (a_9 : Int) (a_10 : Int) (a_11 : UInt8) (a_12 : UInt32) (a_13 : UInt8) (a_14 : Int) (a_15 : UInt8) (a_16 : UInt32) {x y : AV} {al : List Int} (hx : Sl 1 (rows al) x) (hy : Sl 1 (rows al) y) (hl : al.length < 1000000000) : limf env 34 [.agg [a8 a_1, a8 a_2, a32 a_3, a8 a_4, aI a_5, a8 a_6, a32 a_7, a8 a_8, aI a_9, aI a_10, a8 a_11, a32 a_12, a8 a_13, aI a_14, a8 a_15, a32 a_16, x], .agg [a8 a_1, a8 a_2, a32 a_3, a8 a_4, aI a_5, a8 a_6, a32 a_7, a8 a_8, aI a_9, aI a_10, a8 a_11, a32 a_12, a8 a_13, aI a_14, a8 a_15, a32 a_16, y]] = some (aB true) := by
  refine limf_of (fn := Try.f34) (c := bd_blindstampref09_Same) rfl (by kernel_rfl) (by kernel_rfl) (by kernel_rfl) (by kernel_rfl) ?_; refine vc_blindstampref09_Same _ _ _ _ fun g => ?_
  have h := s_RuSame hx hy (by omega)
  rw [decide_eq_true rfl] at h
  simp [new_ne, ne_new, new_ne1, ne_new1, gen_put', *, VC_blindstampref09_Same, hx.r, hy.r, eqA, eqFs]
theorem sameO_loop {l m : List (Opn × AV)} {x0 x1 : AV} (hx : Sl 17 (encOs l) x0) (hy : Sl 17 (encOs m) x1) (hxa : ∀ p ∈ l, okO p) (hya : ∀ p ∈ m, okO p) (hl : l.length < 100000) (hlm : m.length = l.length) {Q : AV → Heap → Prop} {H : Heap} :
    ∀ (s t : List (Opn × AV)) (k : Nat) (i : Int), l.drop k = s → m.drop k = t → opsOf s = opsOf t → k ≤ l.length → i = k → (∀ y, y = aB true → Q y H) →
    GoL env Try.f53 0 hd_blindstampref18_SameOps_4 [(5, aI i), (1, x1), (0, x0)] H Q := by
  intro s
  induction s with
  | nil =>
    rintro t k i hs ht ho hk rfl hQ
    obtain rfl := drop_nil hs hk
    refine vc_blindstampref18_SameOps_4 _ _ _ _ _ fun g => ?_
    clear ho hlm
    simp [new_ne, ne_new, new_ne1, ne_new1, gen_put', *, VC_blindstampref18_SameOps_4, hx.len]
    all_goals exact hQ _ rfl
  | cons p s ih =>
    rintro t k i hs ht ho hk rfl hQ
    cases t with
    | nil => simp [opsOf] at ho
    | cons q t =>
    obtain ⟨hlt, hg, hs', hg'⟩ := drop_cons hs
    obtain ⟨hlt2, hg2, ht', hg2'⟩ := drop_cons ht
    have hp := hxa p (by rw [← hg]; exact List.getElem_mem _)
    have hq := hya q (by rw [← hg2]; exact List.getElem_mem _)
    obtain ⟨op, x⟩ := p
    obtain ⟨oq, y⟩ := q
    have ho' : op = oq ∧ opsOf s = opsOf t := by simpa [opsOf] using ho
    obtain ⟨rfl, ho2⟩ := ho'
    obtain ⟨a_1, ⟨a_2, a_3, a_4⟩, a_5, ⟨⟨⟨a_6, a_7, a_8⟩, a_9⟩, a_10⟩, ⟨⟨a_11, a_12, a_13⟩, a_14⟩, ⟨a_15, a_16⟩, al⟩ := op
    obtain ⟨hpx, hpl⟩ := hp
    obtain ⟨hqx, _⟩ := hq
    simp only at hpx hpl hqx
    have e3 := IntWalk.i64_in ((k : Int) + 1) (by omega)
    have hc := s_R9Same a_1 a_2 a_3 a_4 a_5 a_6 a_7 a_8 a_9 a_10 a_11 a_12 a_13 a_14 a_15 a_16 hpx hqx (by omega)
    have hrd : readAt (encOs l) k 0 17 true = some (.agg [a8 a_1, a8 a_2, a32 a_3, a8 a_4, aI a_5, a8 a_6, a32 a_7, a8 a_8, aI a_9, aI a_10, a8 a_11, a32 a_12, a8 a_13, aI a_14, a8 a_15, a32 a_16, x]) := by simp [encOs, encO, hg']
    have hrd2 : readAt (encOs m) k 0 17 true = some (.agg [a8 a_1, a8 a_2, a32 a_3, a8 a_4, aI a_5, a8 a_6, a32 a_7, a8 a_8, aI a_9, aI a_10, a8 a_11, a32 a_12, a8 a_13, aI a_14, a8 a_15, a32 a_16, y]) := by simp [encOs, encO, hg2']
    have hfin := ih t (k + 1) ((k : Int) + 1) hs' ht' ho2 (by omega) (by simp) hQ
    clear ih hQ ho ho2 hxa hya
    refine vc_blindstampref18_SameOps_4 _ _ _ _ _ fun g => ?_
    simp [new_ne, ne_new, new_ne1, ne_new1, gen_put', *, VC_blindstampref18_SameOps_4, hx.r, hx.idx, hy.r, hy.idx, hpx.r, hqx.r]
theorem s_SameOps {l m : List (Opn × AV)} {x0 x1 : AV} (hx : Sl 17 (encOs l) x0) (hy : Sl 17 (encOs m) x1) (hxa : ∀ p ∈ l, okO p) (hya : ∀ p ∈ m, okO p) (hl : l.length < 100000) (ho : opsOf l = opsOf m) : limf env 53 [x0, x1] = some (aB true) := by
  refine limf_of (fn := Try.f53) (c := bd_blindstampref18_SameOps) rfl (by kernel_rfl) (by kernel_rfl) (by kernel_rfl) (by kernel_rfl) ?_; refine vc_blindstampref18_SameOps _ _ _ _ fun g => ?_
  have h1 := hx.len
  have h2 := hy.len
  have hlm : m.length = l.length := by have := congrArg List.length ho; simpa [opsOf] using this.symm
  have hfin := fun Q hQ => sameO_loop hx hy hxa hya hl hlm (H := []) (Q := Q) l m 0 0 rfl rfl ho (by omega) rfl hQ
  have h' : (m.length : Int) = l.length := by omega
  clear ho hlm hxa hya
  simp [new_ne, ne_new, new_ne1, ne_new1, gen_put', *, VC_blindstampref18_SameOps]
end Go.Proofs.Ytjampffmlnplcaa
