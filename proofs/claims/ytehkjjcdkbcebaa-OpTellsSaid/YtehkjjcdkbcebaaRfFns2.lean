/-
  The document's answers on operations' bytes. No statement of a seat is proved here.
-/
import Derived.Test.YtehkjjcdkbcebaaRfFns
set_option linter.unusedVariables false
set_option linter.unusedSimpArgs false
set_option linter.unnecessarySimpa false
set_option maxRecDepth 100000
namespace Go.Proofs.Ytehkjjcdkbcebaa
open Go.Ab
attribute [local simp] depth_eq callRes_V callG_data callG_frz callG_own keep thr appRes_G appFine_n appFine_s appG_n appG_s roomB appRes_I islFine_some islG_ne List.take_of_length_le sB_lit

/-- 'append(s, make(.., n)..)', where s is the call's own. -/
theorem appRes_makeO {P : Program} {t t' : TypeId} (hT : elOk P t = true) (hA : isInt P t' = true) (hz : (elZero P t).cells.all AV.one = true) (H : Heap) (r q : Ref) (n : Int) (m : Nat) {es : List AV} {fz : Bool} (hq : H.get q = some ⟨elZ P t, es, true, fz⟩) (hm : m = es.length) (h0 : 0 < n) (h1 : n ≤ roomB) (hb : (m + n.toNat) * elBy P t ≤ roomB) :
    appRes P true H r (some t) (some t') (.osl q 0 m none) (aI n) = some (.osl ⟨q.d, q.t, H.gen q.d q.t, 0⟩ 0 (m + n.toNat) none, (⟨q.d, q.t, H.gen q.d q.t, 0⟩, some ⟨elZ P t, es ++ List.replicate n.toNat (elZero P t), true, fz⟩) :: H.put q none) := by
  subst hm
  unfold elOk at hT
  obtain ⟨e, zz, e1, e2, e3, e4, e5, e6, e7, e8⟩ := elT_some hT
  have ez : elZero P t = zz := by unfold elZero; rw [e1, Option.bind_some, e4]; rfl
  rw [ez] at hz ⊢
  have hun : (P.underlying t').isNone = false := by
    unfold isInt at hA
    cases h : P.underlying t' with
    | none => rw [h] at hA; cases hA
    | some d => rfl
  have hc : ¬ ((P.underlying t').isNone = true ∨ isInt P t' ≠ isNum (aI n)) := by rw [hun, hA]; simp [isNum]
  have hd : ¬ (elZ P t ≠ elZ P t ∨ elZ P t = 0 ∨ elBy P t = 0 ∨ zz.cells.length ≠ elZ P t) := by simp [e5, e7, e8]
  have hnew : newOf P H.get e (aI n) = some (elZ P t, List.replicate n.toNat zz) := by
    show (match tzero P e, tsize P e with | some w, some z => if 0 ≤ n ∧ n ≤ roomB ∧ w.cells.length = z ∧ w.cells.all AV.one then some (z, List.replicate n.toNat w) else none | _, _ => none) = _
    rw [e4, e2]
    exact if_pos ⟨by omega, h1, by simp [e5, e7, e8], hz⟩
  have hn : List.replicate n.toNat zz ≠ [] := by
    intro h
    have := congrArg List.length h
    simp only [List.length_replicate, List.length_nil] at this
    omega
  have hd2 : ¬ (elZ P t ≠ elZ P t ∨ elZ P t = 0 ∨ elBy P t = 0 ∨ List.replicate n.toNat zz = [] ∨ zz.cells.length ≠ elZ P t) := by simp only [hn, false_or]; exact hd
  have hq1 : qAppend P H.get r (some t) (some t') (.osl q 0 es.length none) (aI n) = none := by
    simp only [qAppend, Option.bind_some, e1, Option.map_some, Option.getD_some, if_neg hc, e2, e3, e4, hnew, if_neg hd, if_neg hn, hq]
    simp [hn]
  simp only [appRes, hq1]
  simp only [nRes, orW, Option.map_none, wAppend, Option.bind_some, e1, Option.map_some, Option.getD_some, if_neg hc, e2, e3, e4, hnew, if_neg hd2, hq, List.length_replicate]
  unfold roomB at hb
  simp [hb]
theorem rwide_loop {l : List Int} {x0 : AV} (hx : Sl 1 (rows l) x0) (hl : l.length < 100000) (hR : ∀ n ∈ l, runeB n = true) {Q : AV → Heap → Prop} :
    ∀ (s : List Int) (k : Nat) (i : Int) (acc : List Int) (x3 : AV) (H : Heap), l.drop k = s → k ≤ l.length → i = k → acc.length = k → Fr H → OwnAt [35] 1 (by8 (rBytes acc)) H x3 → (acc = [] → x3 = aNil) →
    (∀ y H', OwnAt [35] 1 (by8 (rBytes (acc ++ s))) H' y → (acc ++ s = [] → y = aNil) → Q y H') →
    GoL env Try.f109 0 hd_q4_Wide_3 [(4, aI i), (3, x3), (0, x0)] H Q := by
  intro s
  induction s with
  | nil =>
    rintro k i acc x5 H hs hk rfl ha hF hO hN hQ
    obtain rfl := drop_nil hs hk
    refine vc_q4_Wide_3 _ _ _ _ _ fun g => ?_
    have hQ' := hQ x5 H (by simpa using hO) (by simpa using hN)
    clear hQ hO hN
    simp [new_ne, ne_new, new_ne1, ne_new1, gen_put', *, VC_q4_Wide_3, hx.len]
    all_goals exact hQ'
  | cons n s ih =>
    rintro k i acc x5 H hs hk rfl ha hF hO hN hQ
    obtain ⟨hlt, hg, hs', hg'⟩ := drop_cons hs
    have hn := hR n (by rw [← hg]; exact List.getElem_mem _)
    have e3 := IntWalk.i64_in ((k : Int) + 1) (by omega)
    refine vc_q4_Wide_3 _ _ _ _ _ fun g => ?_
    have hrd : readAt (rows l) k 0 1 false = some (.v (.int .i32 n)) := by simp [rows, hg', aR]
    have hih := fun x5' H' => ih (k + 1) ((k : Int) + 1) (acc ++ [n]) x5' H' hs' (by omega) (by simp) (by simp; omega)
    have hQ' : ∀ y H', OwnAt [35] 1 (by8 (rBytes ((acc ++ [n]) ++ s))) H' y → ((acc ++ [n]) ++ s = [] → y = aNil) → Q y H' := fun y H' h hn => hQ y H' (by simpa using h) (fun e => by simp at e)
    have hbl := rBytes_len acc
    have hb8 : (by8 (rBytes acc)).length = 4 * acc.length := by rw [show (by8 (rBytes acc)).length = (rBytes acc).length from by simp, hbl]
    have hst : ∀ (g m : Nat) (H' : Heap), m = 4 * acc.length + 4 → H'.get ⟨0, 35, g, 0⟩ = some ⟨1, by8 (rBytes acc) ++ [a8 (u8 (n / 16777216)), a8 (u8 (n / 65536)), a8 (u8 (n / 256)), a8 (u8 n)], true, false⟩ → OwnAt [35] 1 (by8 (rBytes (acc ++ [n]))) H' (.osl ⟨0, 35, g, 0⟩ 0 m none) := by
      intro g m H' hm h
      subst hm
      have e : by8 (rBytes (acc ++ [n])) = by8 (rBytes acc) ++ [a8 (u8 (n / 16777216)), a8 (u8 (n / 65536)), a8 (u8 (n / 256)), a8 (u8 n)] := by simp [rBytes, be_4, by8]
      rw [e]
      exact .inr ⟨35, g, by simp, by rw [List.length_append, hb8]; rfl, h⟩
    clear hQ hN ih
    have hcase : n = -1 ∨ (0 ≤ n ∧ n ≤ 1114111) := by
      simp only [runeB, Bool.or_eq_true, Bool.and_eq_true, decide_eq_true_eq] at hn; omega
    have q1 := fun t xo yo => quoLit t xo yo (n := 4294967295) 16777216 (by decide) (by omega) (by omega)
    have q2 := fun t xo yo => quoLit t xo yo (n := 4294967295) 65536 (by decide) (by omega) (by omega)
    have q3 := fun t xo yo => quoLit t xo yo (n := 4294967295) 256 (by decide) (by omega) (by omega)
    have q4 := fun t xo yo => rem256 t xo yo (n := 4294967295) (by omega)
    have q5 := fun t xo yo => rem256 t xo yo (n := 65535) (by omega)
    have q6 := fun t xo yo => rem256 t xo yo (n := 16777215) (by omega)
    simp only [show (4294967295 : Int) / 16777216 = 255 by decide, show (4294967295 : Int) / 65536 = 65535 by decide, show (4294967295 : Int) / 256 = 16777215 by decide, show (4294967295 : Int) % 256 = 255 by decide, show (65535 : Int) % 256 = 255 by decide, show (16777215 : Int) % 256 = 255 by decide] at q1 q2 q3 q4 q5 q6
    have hu : u8 255 = 255 := rfl
    have hu1 : u8 (-1) = 255 := rfl
    rcases hcase with rfl | ⟨p0, p1⟩
    · have d1 : (-1 : Int) / 16777216 = -1 := by decide
      have d2 : (-1 : Int) / 65536 = -1 := by decide
      have d3 : (-1 : Int) / 256 = -1 := by decide
      rw [d1, d2, d3, hu1] at hst
      have w1 : IntKind.i64.wrap (-1) = -1 := rfl
      rcases hO with ⟨rfl, hz⟩ | ⟨t, gg, ht, rfl, hr⟩
      · have hz' : acc = [] := by
          have := congrArg List.length hz
          rw [hb8] at this
          simp only [List.length_nil] at this
          exact List.eq_nil_of_length_eq_zero (by omega)
        subst hz'
        have hst' := hst (H.gen 0 35) 4
        clear hst
        simp [new_ne, ne_new, new_ne1, ne_new1, gen_put', *, VC_q4_Wide_3, hx.r, hx.idx]
        exact hih _ _ (by simp (maxDischargeDepth := 12) [Heap.get_put, Fr_cons, Fr_consK, Fr.nil, Fr_put, new_ne, ne_new, new_ne1, ne_new1, get_new, get_new1, gen_put', *]) (hst' _ rfl (by simp [rBytes])) (fun e => by simp at e) hQ'
      · rw [List.mem_singleton] at ht
        subst ht
        have l6 : (H.get ⟨0, 35, gg, 0⟩).isSome = true := by rw [hr]; rfl
        have f4 : appFine 1 1 (by8 (rBytes acc)).length true none (some ⟨1, by8 (rBytes acc), true, false⟩) (some [a8 255, a8 255, a8 255, a8 255]) := by
          rw [appFine_n, hb8]; refine ⟨rfl, hb8.symm ▸ rfl, .inr ⟨?_, rfl⟩⟩; simp; omega
        have hst' := fun H' => hst (H.gen 0 35) ((by8 (rBytes acc)).length + 4) H' (by rw [hb8])
        clear hst ha hb8 hbl
        generalize by8 (rBytes acc) = bs at *
        simp [new_ne, ne_new, new_ne1, ne_new1, gen_put', *, VC_q4_Wide_3, hx.r, hx.idx]
        exact hih _ _ (by simp (maxDischargeDepth := 12) [Heap.get_put, Fr_cons, Fr_consK, Fr.nil, Fr_put, new_ne, ne_new, new_ne1, ne_new1, get_new, get_new1, gen_put', *]) (hst' _ (by simp)) (fun e => by simp at e) hQ'
    · have w1 := IntWalk.i64_in n (by omega)
      have p0' : ¬ n < 0 := by omega
      have p2 : 0 ≤ n / 65536 := by omega
      have p3 : 0 ≤ n / 256 := by omega
      have t1 := fun t xo yo => quoLit t xo yo (n := n) 16777216 (by decide) (by omega) (by omega)
      have t2 := fun t xo yo => quoLit t xo yo (n := n) 65536 (by decide) (by omega) (by omega)
      have t3 := fun t xo yo => quoLit t xo yo (n := n) 256 (by decide) (by omega) (by omega)
      have t4 := fun t xo yo => rem256 t xo yo (n := n) (by omega)
      have t5 := fun t xo yo => rem256 t xo yo (n := n / 65536) (by omega)
      have t6 := fun t xo yo => rem256 t xo yo (n := n / 256) (by omega)
      rcases hO with ⟨rfl, hz⟩ | ⟨t, gg, ht, rfl, hr⟩
      · have hz' : acc = [] := by
          have := congrArg List.length hz
          rw [hb8] at this
          simp only [List.length_nil] at this
          exact List.eq_nil_of_length_eq_zero (by omega)
        subst hz'
        have hst' := hst (H.gen 0 35) 4
        clear hst
        simp [new_ne, ne_new, new_ne1, ne_new1, gen_put', *, VC_q4_Wide_3, hx.r, hx.idx, u8_mod]
        exact hih _ _ (by simp (maxDischargeDepth := 12) [Heap.get_put, Fr_cons, Fr_consK, Fr.nil, Fr_put, new_ne, ne_new, new_ne1, ne_new1, get_new, get_new1, gen_put', *]) (hst' _ rfl (by simp [rBytes])) (fun e => by simp at e) hQ'
      · rw [List.mem_singleton] at ht
        subst ht
        have l6 : (H.get ⟨0, 35, gg, 0⟩).isSome = true := by rw [hr]; rfl
        have f4 : appFine 1 1 (by8 (rBytes acc)).length true none (some ⟨1, by8 (rBytes acc), true, false⟩) (some [a8 (u8 (n / 16777216)), a8 (u8 (n / 65536)), a8 (u8 (n / 256)), a8 (u8 n)]) := by
          rw [appFine_n, hb8]; refine ⟨rfl, hb8.symm ▸ rfl, .inr ⟨?_, rfl⟩⟩; simp; omega
        have hst' := fun H' => hst (H.gen 0 35) ((by8 (rBytes acc)).length + 4) H' (by rw [hb8])
        clear hst ha hb8 hbl
        generalize by8 (rBytes acc) = bs at *
        simp [new_ne, ne_new, new_ne1, ne_new1, gen_put', *, VC_q4_Wide_3, hx.r, hx.idx, u8_mod]
        exact hih _ _ (by simp (maxDischargeDepth := 12) [Heap.get_put, Fr_cons, Fr_consK, Fr.nil, Fr_put, new_ne, ne_new, new_ne1, ne_new1, get_new, get_new1, gen_put', *]) (hst' _ (by simp)) (fun e => by simp at e) hQ'
theorem s_R4Wide {l : List Int} {x : AV} (hx : Sl 1 (rows l) x) (hl : l.length < 100000) (hR : ∀ n ∈ l, runeB n = true) : limf env 109 [x] = some (outI 1 (by8 (rBytes l))) := by
  refine limf_of (fn := Try.f109) (c := bd_q4_Wide) rfl (by kernel_rfl) (by kernel_rfl) (by kernel_rfl) (by kernel_rfl) ?_; refine vc_q4_Wide _ _ _ fun g => ?_
  have hloop := fun H Q => rwide_loop hx hl hR (H := H) (Q := Q) l 0 0 [] aNil rfl (by omega) rfl rfl
  have hfin : ∀ y H', OwnAt [35] 1 (by8 (rBytes ([] ++ l))) H' y → ([] ++ l = [] → y = aNil) → view H'.get 8 y = some (outI 1 (by8 (rBytes l))) := by
    intro y H' ho hnil
    rw [List.nil_append] at ho hnil
    rcases ho with ⟨rfl, hz⟩ | ⟨t, gg, ht, rfl, hr⟩
    · rw [hz]; simp [outI]
    · have hne : by8 (rBytes l) ≠ [] := by
        intro e
        have h1 := congrArg List.length e
        have h2 := rBytes_len l
        have h3 : (by8 (rBytes l)).length = (rBytes l).length := by simp
        simp only [List.length_nil] at h1
        have : l = [] := List.eq_nil_of_length_eq_zero (by omega)
        cases hnil this
      rw [outI_ne 1 hne]
      generalize by8 (rBytes l) = bs at *
      simp [hr]
  simp [new_ne, ne_new, new_ne1, ne_new1, gen_put', *, VC_q4_Wide]
  exact hloop _ _ Fr.nil (.inl ⟨rfl, rfl⟩) (fun _ => rfl) hfin
end Go.Proofs.Ytehkjjcdkbcebaa
