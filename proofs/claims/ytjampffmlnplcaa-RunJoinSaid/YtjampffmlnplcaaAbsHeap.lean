/-
  Own memory in the conditions: appends, stores, loads, what is seen of it. No statement of a seat is proved here.
-/
import Derived.Test.YtjampffmlnplcaaAbsSimp
set_option linter.unusedVariables false
set_option linter.unusedSimpArgs false
namespace Go.Ab

@[simp] theorem Heap.get_cons (r q : Ref) (b : Option Blk) (H : Heap) : Heap.get ((r, b) :: H) q = if r = q then b else Heap.get H q := id rfl
@[simp] theorem Heap.get_nil (q : Ref) : Heap.get [] q = none := id rfl
attribute [simp] Heap.get_put
theorem Ref.eq_iff (d t g k d' t' g' k' : Nat) : ((⟨d, t, g, k⟩ : Ref) = ⟨d', t', g', k'⟩) ↔ (d = d' ∧ t = t' ∧ g = g' ∧ k = k') := by
  constructor
  · intro e; injection e; simp_all
  · rintro ⟨rfl, rfl, rfl, rfl⟩; rfl
/-- A new box. -/
@[simp] theorem qBox_if (P : Program) (r : Ref) (e : TypeId) (x : AV) (h0 : 0 < (tsize P e).getD 0) : qBox P r e (some x) = if some x.cells.length = tsize P e ∧ x.cells.all AV.one = true then some (.ptr r 0 0, [⟨(tsize P e).getD 0, [x], false, false⟩]) else none := by
  unfold qBox
  cases h : tsize P e with
  | none => simp
  | some n => rw [h] at h0; simp only [Option.getD_some] at h0; simp [h0]

/-- What stands has been made: places to come are free. -/
def Fr (H : Heap) : Prop := ∀ d t g k, H.gen d t ≤ g → H.get ⟨d, t, g, k⟩ = none
theorem Fr.nil : Fr [] := fun _ _ _ _ _ => rfl
theorem Fr.keyed {H : Heap} (h : Fr H) (bs : List Blk) (d t : Nat) : Fr (Ab.keyed ⟨d, t, H.gen d t, 0⟩ 0 bs H) := by
  intro d' t' g k hg
  rw [Heap.gen_keyed] at hg
  rw [Heap.get_keyed]
  by_cases hb : bs = []
  · subst hb
    rw [if_neg (by simp)] at hg
    simp [h _ _ _ _ hg]
  · by_cases hd : d' = d ∧ t' = t
    · obtain ⟨rfl, rfl⟩ := hd
      rw [if_pos ⟨rfl, rfl, hb⟩] at hg
      dsimp only at hg ⊢
      rw [if_neg (by intro hh; have := hh.2.2.1; omega)]
      exact h _ _ _ _ (by omega)
    · rw [if_neg (by intro hh; exact hd ⟨hh.1, hh.2.1⟩)] at hg
      dsimp only at hg ⊢
      rw [if_neg (by intro hh; exact hd ⟨hh.1, hh.2.1⟩)]
      exact h _ _ _ _ hg
theorem Fr.put {H : Heap} (h : Fr H) {r : Ref} (b : Option Blk) (hr : (H.get r).isSome = true) : Fr (H.put r b) := by
  intro d t g k hg
  rw [Heap.gen_put H r b hr] at hg
  rw [Heap.get_put]
  split
  · rename_i e
    subst e
    rw [h _ _ _ _ hg] at hr
    cases hr
  · exact h _ _ _ _ hg
theorem Fr.cons {H : Heap} (h : Fr H) (d t : Nat) (b : Option Blk) : Fr ((⟨d, t, H.gen d t, 0⟩, b) :: H) := by
  intro d' t' g k hg
  simp only [Heap.gen] at hg
  rw [Heap.get_cons]
  split at hg
  · rename_i e
    obtain ⟨rfl, rfl⟩ := e
    rw [if_neg (by intro e; injection e; omega)]
    exact h _ _ _ _ (by omega)
  · rename_i e
    rw [if_neg (by intro e'; injection e' with e1 e2; exact e ⟨e1, e2⟩)]
    exact h _ _ _ _ hg

/-- A live place is no new one. -/
theorem live_ne {H : Heap} (hF : Fr H) {q : Ref} (h : (H.get q).isSome = true) (d t k : Nat) : (⟨d, t, H.gen d t, k⟩ : Ref) ≠ q := by
  intro e; subst e; rw [hF _ _ _ _ (Nat.le_refl _)] at h; cases h

/-- A slice type's elements: how many cells, how many bytes. -/
def elT (P : Program) (t z by' : Nat) : Bool := match telem P t with
  | some e => tsize P e == some z && tbytes P e == some by' && (match tzero P e with | some zz => zz.cells.length == z && zz.cells.all AV.one | none => false) && z != 0 && by' != 0
  | none => false
/-- What is appended is no number (so: a slice). -/
def apT (P : Program) (t : TypeId) : Bool := (P.underlying t).isSome && !isInt P t

theorem elT_some {P : Program} {t z by' : Nat} (h : elT P t z by' = true) : ∃ e zz, telem P t = some e ∧ tsize P e = some z ∧ tbytes P e = some by' ∧ tzero P e = some zz ∧ zz.cells.length = z ∧ zz.cells.all AV.one = true ∧ z ≠ 0 ∧ by' ≠ 0 := by
  unfold elT at h
  split at h
  · rename_i e he
    simp only [Bool.and_eq_true, beq_iff_eq, bne_iff_ne] at h
    obtain ⟨⟨⟨⟨h1, h2⟩, h3⟩, h4⟩, h5⟩ := h
    split at h3
    · rename_i zz hz
      simp only [Bool.and_eq_true, beq_iff_eq] at h3
      exact ⟨e, zz, he, h1, h2, hz, h3.1, h3.2, h4, h5⟩
    · cases h3
  · cases h

/-- The elements that are appended. -/
def Els (g : Get) (z : Nat) (new : List AV) (x : AV) : Prop := (x = aNil ∧ new = []) ∨ (isNum x = false ∧ x ≠ aNil ∧ elemsOf g x = some (z, new))

theorem Els.newOf {P : Program} {t z by' : Nat} (h : elT P t z by' = true) {e : TypeId} (he : telem P t = some e) {g : Get} {new : List AV} {x : AV} (hx : Els g z new x) : newOf P g e x = some (z, new) := by
  obtain ⟨e', zz, h1, h2, h3, h4, h5, h6, h7, h8⟩ := elT_some h
  rw [he] at h1; cases h1
  rcases hx with ⟨rfl, rfl⟩ | ⟨hn, hne, hx⟩
  · simp only [Ab.newOf, h2, Option.map_some]
  · unfold Ab.newOf
    split
    · exact (hne rfl).elim
    · simp [isNum] at hn
    · exact hx
theorem Els.num {g : Get} {z : Nat} {new : List AV} {x : AV} (hx : Els g z new x) : isNum x = false := by
  rcases hx with ⟨rfl, _⟩ | ⟨hn, _⟩
  · rfl
  · exact hn

theorem Sl.els {z : Nat} {es : List AV} {x : AV} (h : Sl z es x) (g : Get) : Els g z es x := by
  rcases h with ⟨rfl, rfl⟩ | ⟨c, rfl, _⟩
  · exact .inl ⟨rfl, rfl⟩
  · exact .inr ⟨rfl, (by intro e; cases e), rfl⟩

/-- Own slices, from their block's beginning, of a capacity that nobody knows; or nil. -/
def Own (z : Nat) (es : List AV) (H : Heap) (x : AV) : Prop := (x = aNil ∧ es = []) ∨ ∃ r, x = .osl r 0 es.length none ∧ H.get r = some ⟨z, es, true, false⟩

theorem own_nil (z : Nat) (H : Heap) : Own z [] H aNil := .inl ⟨rfl, rfl⟩
theorem Own.len {z : Nat} {es : List AV} {H : Heap} {x : AV} (h : Own z es H x) : lenAV x = some es.length := by
  rcases h with ⟨rfl, rfl⟩ | ⟨r, rfl, _⟩ <;> rfl
theorem Own.view {z : Nat} {es : List AV} {H : Heap} {x : AV} (h : Own z es H x) (n : Nat) : ∃ y, view H.get (n + 1) x = some y ∧ Sl z es y := by
  rcases h with ⟨rfl, rfl⟩ | ⟨r, rfl, hr⟩
  · exact ⟨aNil, rfl, .inl ⟨rfl, rfl⟩⟩
  · refine ⟨.isl z es none, ?_, Sl.mk z es⟩
    rw [view_osl hr]
    simp
theorem Own.els {z : Nat} {es : List AV} {H : Heap} {x : AV} (h : Own z es H x) : Els H.get z es x := by
  rcases h with ⟨rfl, rfl⟩ | ⟨r, rfl, hr⟩
  · exact .inl ⟨rfl, rfl⟩
  · refine .inr ⟨rfl, (by intro e; cases e), ?_⟩
    simp [elemsOf, hr]

/-- Which place a slice has. -/
def AV.at? : AV → Option Ref
  | .osl r _ _ _ => some r
  | .ptr r _ _ => some r
  | _ => none

/-- An append to a slice that only the function knows. -/
theorem app_own {P : Program} {t t' z by' : Nat} (hT : elT P t z by' = true) (hA : apT P t' = true) {H : Heap} {r : Ref} {es new : List AV} {s x : AV} (hs : Own z es H s) (hx : Els H.get z new x)
    (hb : (es.length + new.length) * by' ≤ roomB) (hF : Fr H) (hr : ∃ d t, r = ⟨d, t, H.gen d t, 0⟩) :
    ∃ s' H', appRes P true H r (some t) (some t') s x = some (s', H') ∧ Own z (es ++ new) H' s' ∧ Fr H' ∧ ∀ q b, H.get q = some b → s.at? ≠ some q → H'.get q = some b ∧ s'.at? ≠ some q := by
  obtain ⟨e, zz, h1, h2, h3, h4, h5, h6, h7, h8⟩ := elT_some hT
  have hnew := hx.newOf hT h1
  unfold apT at hA
  simp only [Bool.and_eq_true, Bool.not_eq_true'] at hA
  have hun : (P.underlying t').isNone = false := by cases h : P.underlying t' with | none => rw [h] at hA; simp at hA | some d => rfl
  have hc : ¬ ((P.underlying t').isNone = true ∨ isInt P t' ≠ isNum x) := by
    rw [hun, hA.2, hx.num]; simp
  have hd : ¬ (z ≠ z ∨ z = 0 ∨ by' = 0 ∨ zz.cells.length ≠ z) := by simp [h5, h7, h8]
  obtain ⟨dd, tt, rfl⟩ := hr
  rcases hs with ⟨rfl, rfl⟩ | ⟨q, rfl, hq⟩
  · -- nil
    by_cases hn : new = []
    · subst hn
      refine ⟨aNil, H, ?_, own_nil z H, hF, fun q b hq _ => ⟨hq, by simp [AV.at?]⟩⟩
      simp only [appRes, qAppend, Option.bind_some, h1, Option.map_some, Option.getD_some, if_neg hc, h2, h3, h4, hnew, if_neg hd, if_true]
      rfl
    · refine ⟨.osl ⟨dd, tt, H.gen dd tt, 0⟩ 0 new.length none, (⟨dd, tt, H.gen dd tt, 0⟩, some ⟨z, new, true, false⟩) :: H, ?_, .inr ⟨⟨dd, tt, H.gen dd tt, 0⟩, by simp, by simp⟩, hF.cons dd tt _, fun q b hq _ => ?_⟩
      · simp only [List.length_nil, Nat.zero_add] at hb
        simp only [appRes, qAppend, Option.bind_some, h1, Option.map_some, Option.getD_some, if_neg hc, h2, h3, h4, hnew, if_neg hd, if_neg hn, if_pos hb]
        rfl
      · have hne := live_ne hF (q := q) (by rw [hq]; rfl) dd tt 0
        rw [Heap.get_cons, if_neg hne]
        exact ⟨hq, by intro e; simp only [AV.at?, Option.some.injEq] at e; exact hne e⟩
  · by_cases hn : new = []
    · subst hn
      refine ⟨.osl q 0 es.length none, H, ?_, .inr ⟨q, by simp, by simpa using hq⟩, hF, fun q b hq hne => ⟨hq, hne⟩⟩
      simp only [appRes, qAppend, Option.bind_some, h1, Option.map_some, Option.getD_some, if_neg hc, h2, h3, h4, hnew, if_neg hd, hq, if_true]
      simp
    · have hd' : ¬ (z ≠ z ∨ z = 0 ∨ by' = 0 ∨ new = [] ∨ zz.cells.length ≠ z) := by simp [h5, h7, h8, hn]
      have hqs : (H.get q).isSome = true := by rw [hq]; rfl
      have hgen : H.gen q.d q.t = (H.put q none).gen q.d q.t := (Heap.gen_put H q none hqs _ _).symm
      refine ⟨.osl ⟨q.d, q.t, H.gen q.d q.t, 0⟩ 0 (es.length + new.length) none, (⟨q.d, q.t, H.gen q.d q.t, 0⟩, some ⟨z, es ++ new, true, false⟩) :: H.put q none, ?_, .inr ⟨⟨q.d, q.t, H.gen q.d q.t, 0⟩, by simp, by simp⟩, ?_, fun q' b hq' hne => ?_⟩
      · have hqa : qAppend P H.get ⟨dd, tt, H.gen dd tt, 0⟩ (some t) (some t') (.osl q 0 es.length none) x = none := by
          simp only [qAppend, Option.bind_some, h1, Option.map_some, Option.getD_some, if_neg hc, h2, h3, h4, hnew, if_neg hd, hq, if_neg hn]
          simp
        simp only [appRes, hqa, nRes_none, orW_none]
        simp only [wAppend, Option.bind_some, h1, Option.map_some, Option.getD_some, if_neg hc, h2, h3, h4, hnew, if_neg hd', hq, hb, and_self, if_true, true_and]
      · rw [hgen]
        exact (hF.put none hqs).cons _ _ _
      · have hx : q' ≠ q := by intro e; subst e; exact hne rfl
        have hnew' := live_ne hF (q := q') (by rw [hq']; rfl) q.d q.t 0
        rw [Heap.get_cons, if_neg hnew', Heap.get_put, if_neg hx]
        exact ⟨hq', by intro e; simp only [AV.at?, Option.some.injEq] at e; exact hnew' e⟩

/-- A store into own elements. -/
theorem store_own {P : Program} {t : TypeId} {z n : Nat} {H : Heap} {r : Ref} {es : List AV} {i j : Nat} {x y : AV} (hr : H.get r = some ⟨z, es, true, false⟩) (hn : tsize P t = some n) (hx : x.cells.length = n) (h1 : x.cells.all AV.one = true)
    (hv : view H.get depth x = some y) (hrf : viewRefs H.get depth x = []) (hy : y.cells.all AV.one = true) {es' : List AV} (hw : writeAt es i j y.cells = some es') :
    wStore P H t (some (.ptr r i j)) (some x) = some (AV.undef, H.put r (some ⟨z, es', true, false⟩)) := by
  simp only [wStore, hn, hr, hx, h1, and_self, if_true, hv, hrf, hy, hw, Option.map_some, freezeAll]
  simp

theorem writeAt_by8 {m : List UInt8} {i : Nat} (h : i < m.length) (v : UInt8) : writeAt (by8 m) i 0 (a8 v).cells = some (by8 (m.set i v)) := by
  unfold writeAt by8
  rw [List.getElem?_map, List.getElem?_eq_getElem h]
  show (writeElem (a8 m[i]) 0 [a8 v]).map _ = _
  show some ((m.map a8).set i (a8 v)) = _
  rw [List.map_set]

theorem store8 {P : Program} {t : TypeId} {H : Heap} {r : Ref} {m : List UInt8} {i : Nat} (hz : tsize P t = some 1) (hr : H.get r = some ⟨1, by8 m, true, false⟩) (hi : i < m.length) (v : UInt8) :
    wStore P H t (some (.ptr r i 0)) (some (a8 v)) = some (AV.undef, H.put r (some ⟨1, by8 (m.set i v), true, false⟩)) :=
  store_own (y := a8 v) hr hz rfl rfl rfl rfl rfl (writeAt_by8 hi v)

theorem Own.osl {z : Nat} {es : List AV} {H : Heap} {x : AV} (h : Own z es H x) (hn : es ≠ []) : ∃ r, x = .osl r 0 es.length none ∧ H.get r = some ⟨z, es, true, false⟩ := by
  rcases h with ⟨_, rfl⟩ | h
  · exact (hn rfl).elim
  · exact h

end Go.Ab
