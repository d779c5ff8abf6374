/-
  What the abstract machine's writing operations give is what the model's give. No statement of a seat is proved here.
-/
import Derived.Test.YtjampffmlnplcaaAbsOps7
set_option linter.unusedVariables false
set_option linter.unusedSimpArgs false
namespace Go.Ab

/- ## The heap as a list -/
theorem Heap.get_put (H : Heap) (r q : Ref) (b : Option Blk) : (H.put r b).get q = if q = r then b else H.get q := by
  induction H with
  | nil =>
    simp only [Heap.put, Heap.get]
    by_cases h : q = r
    · rw [if_pos h.symm, if_pos h]
    · rw [if_neg (Ne.symm h), if_neg h]
  | cons p H ih =>
    obtain ⟨r', b'⟩ := p
    simp only [Heap.put]
    by_cases h1 : r' = r
    · rw [if_pos h1]
      simp only [Heap.get]
      by_cases h2 : q = r
      · rw [if_pos h2.symm, if_pos h2]
      · rw [if_neg (Ne.symm h2), if_neg h2, if_neg (by rw [h1]; exact Ne.symm h2)]
    · rw [if_neg h1]
      simp only [Heap.get]
      by_cases h3 : r' = q
      · rw [if_pos h3, if_neg (by rw [← h3]; exact h1), if_pos h3]
      · rw [if_neg h3, ih, if_neg h3]

theorem Heap.gen_put (H : Heap) (r : Ref) (b : Option Blk) (h : (H.get r).isSome = true) (d t : Nat) : (H.put r b).gen d t = H.gen d t := by
  induction H with
  | nil => simp [Heap.get] at h
  | cons p H ih =>
    obtain ⟨r', b'⟩ := p
    simp only [Heap.put]
    by_cases h1 : r' = r
    · rw [if_pos h1, h1]; rfl
    · rw [if_neg h1]
      simp only [Heap.gen]
      simp only [Heap.get, if_neg h1] at h
      rw [ih h]

theorem Heap.get_freezeAll (R : List Ref) : ∀ (H : Heap), (freezeAll H R).get = frzG H.get R := by
  induction R with
  | nil => intro H; funext q; simp [freezeAll, frzG]
  | cons r R ih =>
    intro H
    funext q
    simp only [freezeAll]
    split
    · rename_i b hb
      rw [ih]
      unfold frzG
      simp only [List.mem_cons, Heap.get_put]
      by_cases hq : q = r
      · subst hq
        simp [hb]
      · simp only [if_neg hq]
        by_cases hR : q ∈ R
        · simp [hR]
        · simp [hR, hq]
    · rename_i hb
      rw [ih]
      unfold frzG
      simp only [List.mem_cons]
      by_cases hq : q = r
      · subst hq
        simp [hb]
      · by_cases hR : q ∈ R
        · simp [hR]
        · simp [hR, hq]

theorem Heap.gen_freezeAll (R : List Ref) : ∀ (H : Heap) (d t : Nat), (freezeAll H R).gen d t = H.gen d t := by
  induction R with
  | nil => intro H d t; rfl
  | cons r R ih =>
    intro H d t
    simp only [freezeAll]
    split
    · rename_i b hb
      rw [ih, Heap.gen_put H r _ (by rw [hb]; rfl)]
    · exact ih H d t

theorem Heap.get_keyed (r : Ref) : ∀ (bs : List Blk) (k : Nat) (H : Heap) (q : Ref), (keyed r k bs H).get q = if q.d = r.d ∧ q.t = r.t ∧ q.g = r.g ∧ k ≤ q.k ∧ q.k < k + bs.length then bs[q.k - k]? else H.get q := by
  intro bs
  induction bs with
  | nil => intro k H q; rw [if_neg (by intro h; simp only [List.length_nil] at h; omega)]; rfl
  | cons b bs ih =>
    intro k H q
    simp only [keyed, ih, Heap.get, List.length_cons]
    by_cases h1 : q.d = r.d ∧ q.t = r.t ∧ q.g = r.g
    · by_cases h2 : q.k = k
      · rw [if_neg (by omega), if_pos (by cases q; cases r; simp_all), if_pos ⟨h1.1, h1.2.1, h1.2.2, by omega, by omega⟩]
        simp [h2]
      · by_cases h3 : k + 1 ≤ q.k ∧ q.k < k + 1 + bs.length
        · rw [if_pos ⟨h1.1, h1.2.1, h1.2.2, h3⟩, if_pos ⟨h1.1, h1.2.1, h1.2.2, by omega, by omega⟩]
          rw [show q.k - k = (q.k - (k + 1)) + 1 by omega]
          simp
        · rw [if_neg (by omega), if_neg (by intro h; apply h2; rw [← h]), if_neg (by omega)]
    · rw [if_neg (by intro h; exact h1 ⟨h.1, h.2.1, h.2.2.1⟩), if_neg (by intro h; apply h1; rw [← h]; exact ⟨rfl, rfl, rfl⟩), if_neg (by intro h; exact h1 ⟨h.1, h.2.1, h.2.2.1⟩)]

theorem Heap.get_keyed0 (r : Ref) (bs : List Blk) (H : Heap) : (keyed r 0 bs H).get = addK H.get r bs := by
  funext q
  rw [Heap.get_keyed]
  unfold addK
  simp

theorem Heap.gen_keyed (r : Ref) : ∀ (bs : List Blk) (k : Nat) (H : Heap) (d t : Nat), (keyed r k bs H).gen d t = if d = r.d ∧ t = r.t ∧ bs ≠ [] then r.g + 1 else H.gen d t := by
  intro bs
  induction bs with
  | nil => intro k H d t; simp [keyed]
  | cons b bs ih =>
    intro k H d t
    simp only [keyed, ih, Heap.gen]
    by_cases h : d = r.d ∧ t = r.t
    · obtain ⟨rfl, rfl⟩ := h
      by_cases hb : bs = []
      · simp [hb]
      · simp [hb]
    · have h' : ¬ (r.d = d ∧ r.t = t) := fun hh => h ⟨hh.1.symm, hh.2.symm⟩
      rw [if_neg (by intro hh; exact h ⟨hh.1, hh.2.1⟩), if_neg h', if_neg (by intro hh; exact h ⟨hh.1, hh.2.1⟩)]

/-- Where something stands, it has been made. -/
def Dom (ι : Map) (H : Heap) : Prop := ∀ q l, ι q = some l → q.g < H.gen q.d q.t

theorem Dom.fresh {ι : Map} {H : Heap} (h : Dom ι H) (d t k : Nat) : ι ⟨d, t, H.gen d t, k⟩ = none := by
  cases hi : ι ⟨d, t, H.gen d t, k⟩ with
  | none => rfl
  | some l => exact absurd (h _ l hi) (Nat.lt_irrefl _)

section
variable {P : Program} {M : Mem} {ι : Map} {g : Get} {w : World} {r : Ref}

/-- What a writing operation leaves. -/
def WOut (M : Mem) (ι : Map) (H : Heap) (w : World) (x : AV) (H' : Heap) (u : Value) (w' : World) : Prop :=
  ∃ M' ι', VR M' ι' x u ∧ Sim M' ι' H'.get w' ∧ Fwd M ι H.get w M' ι' H'.get w' ∧ Dom ι' H'

theorem QOut.toW {H : Heap} {x : AV} {bs : List Blk} {u : Value} {w' : World} (hD : Dom ι H) {d t : Nat} (h : QOut M ι H.get w ⟨d, t, H.gen d t, 0⟩ x bs u w') : WOut M ι H w x (keyed ⟨d, t, H.gen d t, 0⟩ 0 bs H) u w' := by
  obtain ⟨M', ι', h1, h2, h3, h4⟩ := h
  refine ⟨M', ι', h1, by rw [Heap.get_keyed0]; exact h2, by rw [Heap.get_keyed0]; exact h3, ?_⟩
  intro q l hq
  rw [Heap.gen_keyed]
  cases hi : ι q with
  | some l0 =>
    have := hD q l0 hi
    split
    · rename_i hc; rw [hc.1, hc.2.1] at this; exact Nat.lt_succ_of_lt this
    · exact this
  | none =>
    by_cases hk : ∃ k, k < bs.length ∧ q = { (⟨d, t, H.gen d t, 0⟩ : Ref) with k := k }
    · obtain ⟨k, hk, rfl⟩ := hk
      rw [if_pos ⟨rfl, rfl, by intro e; rw [e] at hk; simp at hk⟩]
      exact Nat.lt_succ_self _
    · rw [h4 q hi (fun k hlt e => hk ⟨k, hlt, e⟩)] at hq
      cases hq

/- ## Stores -/
theorem patch_at {cs new : List AV} {j : Nat} (h : j + new.length ≤ cs.length) (k : Nat) : (patch cs j new)[k]? = if j ≤ k ∧ k < j + new.length then new[k - j]? else cs[k]? := by
  unfold patch
  have hj : (cs.take j).length = j := by simp; omega
  rcases Nat.lt_or_ge k j with h1 | h1
  · rw [List.append_assoc, List.getElem?_append_left (by omega), List.getElem?_take, if_pos h1, if_neg (by omega)]
  · rcases Nat.lt_or_ge k (j + new.length) with h2 | h2
    · rw [List.append_assoc, List.getElem?_append_right (by omega), List.getElem?_append_left (by omega), if_pos ⟨h1, h2⟩, hj]
    · rw [List.getElem?_append_right (by simp; omega), List.getElem?_drop, if_neg (by omega)]
      simp only [List.length_append, hj]
      congr 1
      omega

theorem one_cells {x : AV} (h : x.one = true) : x.cells = [x] := by
  cases x <;> first | rfl | (simp [AV.one] at h)

theorem writeElem_ok {e e' : AV} {j : Nat} {new : List AV} (h : writeElem e j new = some e') (h1 : new.all AV.one = true) : j + new.length ≤ e.cells.length ∧ e'.cells = patch e.cells j new := by
  have single : ∀ x, (∀ cs, e ≠ .agg cs) → j = 0 → new = [x] → e' = x → j + new.length ≤ e.cells.length ∧ e'.cells = patch e.cells j new := by
    intro x hne h0 hn he
    have hc : e.cells = [e] := by cases e <;> first | rfl | exact absurd rfl (hne _)
    subst h0; subst hn; subst he
    simp only [List.all_cons, List.all_nil, Bool.and_true] at h1
    rw [hc, one_cells h1]
    exact ⟨by simp, by simp [patch]⟩
  unfold writeElem at h
  split at h
  · obtain ⟨hc, h⟩ := Option.ite_none_right_eq_some.1 h
    injection h with h
    subst h
    exact ⟨hc, rfl⟩
  · rename_i hne
    split at h
    · injection h with h
      exact single _ (fun cs he => hne cs he) rfl rfl h.symm
    · cases h

/-- Cells put into an element of a block. -/
theorem write_ok (hS : Sim M ι g w) {k : Blk} {l : Loc} {i j : Nat} {new es' : List AV} (hk : g r = some k) (hl : ι r = some l) (hzl : 0 < l.esz) (hfr : k.frz = false) (hw : writeAt k.es i j new = some es') (h1 : new.all AV.one = true)
    {us : List Value} (hus : VRs M (k.map ι) new us) :
    ∃ arr T fz, w.heap[l.b]? = some (.cells arr T fz) ∧ i * k.esz + j + us.length ≤ arr.size ∧ (∀ o, o < arr.size → ¬ (fz.1 ≤ o ∧ (o < fz.2 ∨ fz.2 < fz.1))) ∧ (∀ u ∈ us, u.oneCell' = true) ∧
      Sim M ι (updG g r { k with es := es' }) (setBlk w l.b (.cells (putCells arr (i * k.esz + j) us) T fz)) ∧ Fwd M ι g w M ι (updG g r { k with es := es' }) (setBlk w l.b (.cells (putCells arr (i * k.esz + j) us) T fz)) := by
  have hb := hS.at hl hzl hk
  obtain ⟨arr, T, fz, hh, hsz, hfz, hc⟩ := hb.heap
  unfold writeAt at hw
  split at hw
  · cases hw
  · rename_i e he
    simp only [Option.map_eq_some_iff] at hw
    obtain ⟨e', he', rfl⟩ := hw
    obtain ⟨hle, hcells⟩ := writeElem_ok he' h1
    have hi : i < k.es.length := (List.getElem?_eq_some_iff.1 he).1
    have hel := hb.cells e (List.mem_of_getElem? he)
    have hul := hus.1
    have hroom : i * k.esz + j + us.length ≤ arr.size := by
      have h2 : (i + 1) * k.esz ≤ l.n * k.esz := Nat.mul_le_mul_right _ (by have := hb.len; omega)
      rw [Nat.add_mul] at h2
      rw [hsz]
      omega
    have hone : ∀ u ∈ us, u.oneCell' = true := by
      intro u hu
      obtain ⟨m, hm, hmu⟩ := List.getElem_of_mem hu
      have hm' : m < new.length := by omega
      have := hus.2 m _ u (List.getElem?_eq_getElem hm') (by rw [← hmu]; exact List.getElem?_eq_getElem hm)
      exact this.one (by simp only [List.all_eq_true] at h1; exact h1 _ (List.getElem_mem hm'))
    obtain ⟨h3, h4⟩ := hS.write (k' := { k with es := k.es.set i e' }) hk hl hzl (arr := putCells arr (i * k.esz + j) us) (T := T) (fz := fz) rfl rfl rfl (by rw [putCells_size hroom]; exact hsz)
      (by rw [putCells_size hroom]; exact hfz) (by simp; exact hb.len)
      (by
        intro e1 he1
        rcases List.mem_or_eq_of_mem_set he1 with h | h
        · exact hb.cells e1 h
        · rw [h, hcells, ← hel]
          simp [patch]
          omega)
      (by
        intro o x hx
        have := (hb.frozen o x hx).1
        rw [hfr] at this
        cases this)
      (by
        intro i' j' e1 x hi' hx
        rw [putCells_at hroom]
        by_cases hii : i = i'
        · subst hii
          rw [List.getElem?_set_self hi] at hi'
          injection hi' with hi'
          subst hi'
          rw [hcells, patch_at hle] at hx
          split at hx
          · rename_i hr
            rw [if_pos (by omega), show i * k.esz + j' - (i * k.esz + j) = j' - j by omega]
            have hlt : j' - j < us.length := by omega
            exact ⟨us[j' - j], List.getElem?_eq_getElem hlt, hone _ (List.getElem_mem hlt), hus.2 _ _ _ hx (List.getElem?_eq_getElem hlt)⟩
          · rename_i hr
            rw [if_neg (by omega)]
            exact hc i j' e x he hx
        · rw [List.getElem?_set_ne hii] at hi'
          have hj' : j' < k.esz := by
            rw [← hb.cells e1 (List.mem_of_getElem? hi')]
            exact (List.getElem?_eq_some_iff.1 hx).1
          rw [if_neg]
          · exact hc i' j' e1 x hi' hx
          · rcases Nat.lt_or_gt_of_ne hii with h | h
            · have : (i + 1) * k.esz ≤ i' * k.esz := Nat.mul_le_mul_right _ h
              rw [Nat.add_mul] at this
              omega
            · have : (i' + 1) * k.esz ≤ i * k.esz := Nat.mul_le_mul_right _ h
              rw [Nat.add_mul] at this
              omega)
    exact ⟨arr, T, fz, hh, hroom, hfz, hone, h3, h4⟩

theorem run_storeAt {t : TypeId} {n : Nat} (hn : tsize P t = some n) {b o : Nat} {u : Value} (hu : u.cells.size = n) {arr : Array Value} {T : TypeId} {fz : Nat × Nat} (hw : w.heap[b]? = some (.cells arr T fz))
    (hroom : o + u.cells.toList.length ≤ arr.size) (hfz : ∀ o, o < arr.size → ¬ (fz.1 ≤ o ∧ (o < fz.2 ∨ fz.2 < fz.1))) (h1 : ∀ x ∈ u.cells.toList, x.oneCell' = true) :
    (Instr.storeAt t (.pointer (some ⟨b, o, none⟩)) u).run P w = .ok () (setBlk w b (.cells (putCells arr o u.cells.toList) T fz)) := by
  have := run_storeCells_gen (P := P) o u.cells.toList 0 arr w hw (by simpa using hroom) hfz h1
  simp only [Nat.add_zero] at this
  simp [Instr.storeAt, Instr.sureAddr, storeVar, run_sizeOf hn, hu, this]

theorem updG_put (H : Heap) (r : Ref) (k : Blk) : (H.put r (some k)).get = updG H.get r k := by
  funext q
  rw [Heap.get_put]
  rfl

theorem wStore_ok {H : Heap} (hS : Sim M ι H.get w) (hD : Dom ι H) {t : TypeId} {a x y : AV} {ua ux : Value} (ha : VR M ι a ua) (hx : VR M ι x ux) {H' : Heap} (h : wStore P H t (some a) (some x) = some (y, H')) :
    ∃ w', (Instr.storeAt t ua ux).run P w = .ok () w' ∧ WOut M ι H w y H' undef w' := by
  unfold wStore at h
  split at h
  · rename_i r' i j x' n e1 e2 hn
    injection e1 with e1; injection e2 with e2
    subst e1; subst e2
    cases ha with | ptr hl hzl =>
    rename_i l
    split at h
    · rename_i b hb
      obtain ⟨⟨hxn, hx1, hfr⟩, h⟩ := Option.ite_none_right_eq_some.1 h
      obtain ⟨l', hl', hbk⟩ := hS.live r' b hb
      rw [hl] at hl'; cases hl'
      have hxs := hx.cells
      have hun : ux.cells.size = n := by have := hxs.1; simp at this; omega
      split at h
      · rename_i harr
        split at h
        · rename_i y' hy'
          split at h
          · cases h
          · rename_i hnr
            obtain ⟨hy1, h⟩ := Option.ite_none_right_eq_some.1 h
            simp only [Option.map_eq_some_iff] at h
            obtain ⟨es', hes, h⟩ := h
            injection h with h1 h2
            subst h1; subst h2
            obtain ⟨hS1, hF1⟩ := frz_ok (R := viewRefs H.get depth x) hS
            have hv := view_ok hS depth x y' ux hy' (fun r hr => hr) hx
            have hb1 : frzG H.get (viewRefs H.get depth x) r' = some b := by unfold frzG; rw [if_neg hnr]; exact hb
            have hyc := hv.cells
            obtain ⟨arr, T, fz, h3, h4, h5, h6, h7, h8⟩ := write_ok hS1 hb1 hl hzl hfr hes hy1 (us := ux.cells.toList) (by rw [Blk.map, if_pos harr]; exact hyc)
            refine ⟨setBlk w l.b (.cells (putCells arr (i * b.esz + j) ux.cells.toList) T fz), ?_, addM M ι H.get w (viewRefs H.get depth x), ι, .v rfl, ?_, ?_, ?_⟩
            · rw [hbk.esz]
              exact run_storeAt hn hun h3 h4 h5 h6
            · rw [updG_put, Heap.get_freezeAll]; exact h7
            · rw [updG_put, Heap.get_freezeAll]; exact hF1.trans h8
            · intro q lq hq
              rw [Heap.gen_put _ _ _ (by rw [Heap.get_freezeAll, hb1]; rfl), Heap.gen_freezeAll]
              exact hD q lq hq
        · cases h
      · rename_i harr
        simp only [Option.map_eq_some_iff] at h
        obtain ⟨es', hes, h⟩ := h
        injection h with h1 h2
        subst h1; subst h2
        obtain ⟨arr, T, fz, h3, h4, h5, h6, h7, h8⟩ := write_ok hS hb hl hzl hfr hes hx1 (us := ux.cells.toList) (by rw [Blk.map, if_neg harr]; exact hxs)
        refine ⟨setBlk w l.b (.cells (putCells arr (i * b.esz + j) ux.cells.toList) T fz), ?_, M, ι, .v rfl, ?_, ?_, ?_⟩
        · rw [hbk.esz]
          exact run_storeAt hn hun h3 h4 h5 h6
        · rw [updG_put]; exact h7
        · rw [updG_put]; exact h8
        · intro q lq hq
          rw [Heap.gen_put _ _ _ (by rw [hb]; rfl)]
          exact hD q lq hq
    · cases h
  · cases h

end
end Go.Ab
