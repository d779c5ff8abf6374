/-
  What the abstract machine's operations give is what the model's give: appends, stores, copies. No statement of a seat is proved here.
-/
import Derived.Test.YtjampffmlnplcaaAbsOps6
set_option linter.unusedVariables false
set_option linter.unusedSimpArgs false
namespace Go.Ab

section
variable {P : Program} {M : Mem} {ι : Map} {g : Get} {w : World} {r : Ref}

theorem newOf_ok (hS : Sim M ι g w) {t' : Option TypeId} {e z : Nat} (hz : tsize P e = some z) (hz0 : 0 < z) {x : AV} {ux : Value} (hx : VR M ι x ux) {new : List AV}
    (hc : ¬ ((t'.bind P.underlying).isNone = true ∨ (t'.map (isInt P)).getD false ≠ isNum x)) (h : newOf P g e x = some (z, new)) : ∃ us, Row M z new us ∧ App P w t' ux e z new.length us := by
  have hc' : ∃ d, t'.bind P.underlying = some d ∧ (isNum x = false → ∀ k, d ≠ .int k) ∧ (isNum x = true → ∃ k, d = .int k) := by
    have h1 : ¬ (t'.bind P.underlying).isNone = true := fun h => hc (.inl h)
    have h2 : (t'.map (isInt P)).getD false = isNum x := Classical.not_not.1 fun h => hc (.inr h)
    cases t' with
    | none => simp at h1
    | some t =>
      simp only [Option.bind_some] at h1 ⊢
      cases hu : P.underlying t with
      | none => simp [hu] at h1
      | some d =>
        simp only [Option.map_some, Option.getD_some] at h2
        refine ⟨d, rfl, ?_, ?_⟩
        · intro hn k hk
          subst hk
          rw [hn] at h2
          simp [isInt, hu] at h2
        · intro hn
          rw [hn] at h2
          obtain ⟨k, hk⟩ := isInt_ok h2
          rw [hu] at hk
          exact ⟨k, by simpa using hk⟩
  obtain ⟨d, hd, hd1, hd2⟩ := hc'
  unfold newOf at h
  split at h
  · simp only [Option.map_eq_some_iff] at h
    obtain ⟨z', hz', h⟩ := h
    injection h with h1 h2
    subst h2
    cases hx
    exact ⟨[], Row.nil, .src hd (hd1 rfl) (fun w' => rfl) (fun w' _ => rfl)⟩
  · rename_i k n
    split at h
    · rename_i wv z' hw hz'
      obtain ⟨hcond, h⟩ := Option.ite_none_right_eq_some.1 h
      injection h with h
      injection h with h1 h2
      subst h1; subst h2
      obtain ⟨c1, c2, c3, c4⟩ := hcond
      obtain ⟨m, rfl⟩ := Int.eq_ofNat_of_zero_le c1
      obtain ⟨k', rfl⟩ := hd2 rfl
      cases hx
      obtain ⟨u, hu1, hu2⟩ := run_zero hw w
      have hur : ∀ w' : World, (zeroValue e).run P w' = .ok u w' := by
        intro w'
        obtain ⟨u', h1, h2⟩ := run_zero hw w'
        obtain ⟨it, v, hit, hiz, hv⟩ := tzero_info hw
        have e1 : (zeroValue e).run P w = .ok v w := by simp [zeroValue, typeInfo, hit, hiz]
        have e2 : (zeroValue e).run P w' = .ok v w' := by simp [zeroValue, typeInfo, hit, hiz]
        rw [e1] at hu1
        cases hu1
        exact e2
      have hv := ofValue_ok (M := M) (ι := noMap) hu2
      have hus : u.cells.size = z' := by have := hv.cells.1; simp at this; omega
      refine ⟨_, Row.replicate hv c3 c4 m, ?_⟩
      rw [Int.toNat_natCast]
      exact .zeros (kx := k) u hd (by simp) (by simpa using c2) hur hus (by simp)
    · cases h
  · rename_i hne1 hne2
    have hnum : isNum x = false := by
      unfold isNum
      split
      · exact absurd rfl (hne2 _ _)
      · rfl
    obtain ⟨us, hsrc⟩ := elemsOf_ok (P := P) hS hx hz0 h
    refine ⟨us, hsrc.row, .src hd (hd1 hnum) hsrc.lenOf fun w' hw' => ?_⟩
    have := hsrc.first new.length w' (Nat.le_refl _) hw'
    rwa [List.take_of_length_le (by rw [hsrc.len]; exact Nat.le_refl _)] at this

theorem zero_cells {e z : Nat} (hz : tsize P e = some z) {y : AV} (hy : tzero P e = some y) (hl : y.cells.length = z) : ∃ u, (∀ w' : World, (zeroValue e).run P w' = .ok u w') ∧ u.cells.size = z := by
  obtain ⟨it, v, hit, hiz, hv⟩ := tzero_info hy
  refine ⟨v, fun w' => by simp [zeroValue, typeInfo, hit, hiz], ?_⟩
  have := (ofValue_ok (M := fun _ _ => none) (ι := noMap) hv).cells.1
  simp at this
  omega

/-- The cells of a new row behind an append. -/
theorem grown_cells {olds us : List Value} {zv : Value} {z n1 n2 cap : Nat} (h1 : olds.length = n1 * z) (h2 : us.length = n2 * z) (hz : zv.cells.size = z) (hc : n1 + n2 ≤ cap) :
    (olds.toArray ++ us.toArray ++ Builtin.zeroCells zv.cells (cap - (n1 + n2))).size = cap * z ∧
    ∀ (k : Nat) u, (olds ++ us)[k]? = some u → (olds.toArray ++ us.toArray ++ Builtin.zeroCells zv.cells (cap - (n1 + n2)))[k]? = some u := by
  constructor
  · simp only [Array.size_append, List.size_toArray, size_zeroCells, hz, h1, h2, ← Nat.add_mul]
    congr 1
    omega
  · intro k u hk
    have hlt := (List.getElem?_eq_some_iff.1 hk).1
    rw [Array.getElem?_append_left (by simpa using hlt)]
    simpa using hk

/-- An own or not written slice's elements, as old cells. -/
theorem old_cells {a : Option Addr} {len c z : Nat} {es : List AV} {us : List Value} {u : Value} (hu : u = .slice a len c) (hl : es.length = len) (h : Src P M w u z es us) :
    ∀ w' : World, w'.heap = w.heap → (Builtin.firstCells z len (.slice a len c)).run P w' = .ok us.toArray w' := by
  intro w' hw'
  have := h.first es.length w' (Nat.le_refl _) hw'
  rw [List.take_of_length_le (by rw [h.len]; exact Nat.le_refl _), hu, hl] at this
  exact this

theorem qAppend_ok (hS : Sim M ι g w) (hr : r.k = 0) (hq : ι r = none) {ts : Array TypeId} {ty : TypeId} {s x y : AV} {us ux : Value} (hs : VR M ι s us) (hx : VR M ι x ux) {bs : List Blk}
    (h : qAppend P g r ts[0]? ts[1]? s x = some (y, bs)) : ∃ u w', (Builtin.append_ ts ty #[us, ux]).run P w = .ok u w' ∧ QOut M ι g w r y bs u w' := by
  unfold qAppend at h
  split at h
  · cases h
  · rename_i e he
    simp only [Option.bind_eq_some_iff] at he
    obtain ⟨t, ht, he⟩ := he
    have hu := telem_ok he
    split at h
    · cases h
    · rename_i hc
      split at h
      · rename_i z by' zz ez new hz hb hzz hnew
        split at h
        · cases h
        · rename_i hcond
          have hez : ez = z := Classical.not_not.1 fun h => hcond (.inl h)
          have hz0 : 0 < z := Nat.pos_of_ne_zero fun h => hcond (.inr (.inl h))
          have hb0 : 0 < by' := Nat.pos_of_ne_zero fun h => hcond (.inr (.inr (.inl h)))
          have hzl : zz.cells.length = z := Classical.not_not.1 fun h => hcond (.inr (.inr (.inr h)))
          have hez' := hez
          subst hez
          obtain ⟨us', hrow, hA⟩ := newOf_ok (w := w) hS hz hz0 hx hc hnew
          -- nothing is appended
          have nothing : new = [] → ∀ a len c, len ≤ c → us = .slice a len c → (Builtin.append_ ts ty #[us, ux]).run P w = .ok us w := by
            intro hn a len c hlc hus
            subst hn
            have : us' = [] := List.eq_nil_of_length_eq_zero (by rw [hrow.len]; simp)
            subst this
            rw [hus]
            exact run_append_none ht hu hz hb hlc hA
          -- a new row
          have fresh : ∀ {a : Option Addr} {len c : Nat} {es : List AV} {us0 : List Value}, us = .slice a len c → es.length = len → Row M ez es us0 →
              (∀ w' : World, w'.heap = w.heap → (Builtin.firstCells ez len (.slice a len c)).run P w' = .ok us0.toArray w') → c < len + new.length → (len + new.length) * by' ≤ roomB →
              ∃ u w', (Builtin.append_ ts ty #[us, ux]).run P w = .ok u w' ∧ QOut M ι g w r (.osl r 0 (len + new.length) none) [⟨ez, es ++ new, true, false⟩] u w' := by
            intro a len c es us0 hus hel hrow0 hold hlt hroom
            -- the zero value is known where the element's size is
            obtain ⟨zv, hzv, hzs⟩ := zero_cells hz hzz hzl
            obtain ⟨cap, w', hcap, hrun, hgrew⟩ := run_append_new (P := P) (w := w) (ty := ty) ht hu hz hb hzv hzs hold hA hlt hroom hb0
            obtain ⟨h1, h2⟩ := grown_cells (olds := us0) (us := us') (n1 := len) (n2 := new.length) (cap := cap) (by rw [hrow0.len, hel]) hrow.len hzs hcap
            refine ⟨_, w', by rw [hus]; exact hrun, ?_⟩
            have := alloc_row hS hr hq hgrew (hrow0.append hrow) h2 (n := cap) (c := cap) h1 (by intro o ho hf; simp at hf) (by simp; omega) (Nat.le_refl _) (cap := none) (by intro k hk; cases hk) hz0
            simp only [List.length_append, hel] at this
            exact this
          split at h
          · -- nil
            cases hs
            split at h
            · rename_i hn
              injection h with h; injection h with h1 h2; subst h1; subst h2
              exact ⟨_, w, nothing hn none 0 0 (Nat.le_refl _) rfl, QOut.same hS (.v rfl)⟩
            · rename_i hn
              obtain ⟨hroom, h⟩ := Option.ite_none_right_eq_some.1 h
              injection h with h; injection h with h1 h2; subst h1; subst h2
              have hpos : 0 < new.length := List.length_pos_iff.2 hn
              have := fresh (a := none) (len := 0) (c := 0) (es := []) (us0 := []) rfl rfl Row.nil (fun w' _ => rfl) (by omega) (by simpa using hroom)
              simpa using this
          · -- memory that nobody writes
            rename_i n es cap
            split at h
            · cases h
            · rename_i hnz
              have hnz : n = ez := Classical.not_not.1 hnz
              subst hnz
              have hs0 := hs
              cases hs with | isl cell hsp hcc hk hm hes hh =>
              rename_i a c
              split at h
              · rename_i hn
                injection h with h; injection h with h1 h2; subst h1; subst h2
                exact ⟨_, w, nothing hn _ _ _ hcc rfl, QOut.same hS hs0⟩
              · cases cap with
                | some k =>
                  obtain ⟨⟨hlt, hroom⟩, h⟩ := Option.ite_none_right_eq_some.1 h
                  injection h with h; injection h with h1 h2; subst h1; subst h2
                  have hck := hk k rfl
                  obtain ⟨us0, hsrc⟩ := elemsOf_ok (P := P) (g := g) (z := n) (es := es) hS hs0 hz0 rfl
                  exact fresh rfl rfl hsrc.row (old_cells rfl rfl hsrc) (by omega) hroom
                | none => cases h
          · -- a block of the call's own
            rename_i r' off len cap
            split at h
            · rename_i b hb'
              split at h
              · cases h
              · rename_i hcond'
                have hbz : b.esz = ez := Classical.not_not.1 fun h => hcond' (.inl h)
                have harr : b.arr = true := by
                  cases hh : b.arr with
                  | true => rfl
                  | false => exact absurd (.inr hh) hcond'
                have hs0 := hs
                cases hs with | osl hrl hbb hsp ha hcc hn hk hzl =>
                rename_i l a c
                split at h
                · rename_i hn'
                  injection h with h; injection h with h1 h2; subst h1; subst h2
                  exact ⟨_, w, nothing hn' _ _ _ hcc rfl, QOut.same hS hs0⟩
                · cases cap with
                  | some k =>
                    obtain ⟨⟨hle, hlt, hroom⟩, h⟩ := Option.ite_none_right_eq_some.1 h
                    injection h with h; injection h with h1 h2; subst h1; subst h2
                    have hck := hk k rfl
                    have hel : elemsOf g (.osl r' off len (some k)) = some (ez, (b.es.drop off).take len) := by
                      simp only [elemsOf, hb', harr, hle, and_self, if_true, hbz]
                    obtain ⟨us0, hsrc⟩ := elemsOf_ok (P := P) hS hs0 hz0 hel
                    have hl := (getElems b.es off len hle).1
                    exact fresh rfl hl hsrc.row (old_cells rfl hl hsrc) (by omega) hroom
                  | none => cases h
            · cases h
          · cases h
      · cases h

end
end Go.Ab
