/-
  What the abstract machine's writing operations give is what the model's give: the second part. No statement of a seat is proved here.
-/
import Derived.Test.YtjampffmlnplcaaAbsOps8
set_option linter.unusedVariables false
set_option linter.unusedSimpArgs false
namespace Go.Ab

section
variable {P : Program} {M : Mem} {ι : Map} {g : Get} {w : World} {r : Ref}

/-- A block that is left alone from here on. -/
def killG (g : Get) (r : Ref) : Get := fun q => if q = r then none else g q

theorem kill_ok (hS : Sim M ι g w) (r : Ref) : Sim M ι (killG g r) w ∧ Fwd M ι g w M ι (killG g r) w := by
  have back : ∀ {q k}, killG g r q = some k → g q = some k := by
    intro q k h
    unfold killG at h
    split at h
    · cases h
    · exact h
  exact ⟨⟨hS.mem, fun q k h => hS.live q k (back h), fun q q' k k' l l' h h' => hS.inj q q' k k' l l' (back h) (back h')⟩,
    ⟨rfl, rfl, rfl, Nat.le_refl _, fun _ _ _ => rfl, fun _ _ _ h => h, fun _ _ h => h, fun q k l h hl => .inr ⟨q, k, l, back h, hl, rfl⟩, fun _ _ _ h => .inl h⟩⟩

/-- A block goes under a new name, and what stands behind its end may be written. -/
theorem rename_ok (hS : Sim M ι g w) {r q : Ref} {k k' : Blk} {l : Loc} (hk : g r = some k) (hl : ι r = some l) (hq : ι q = none) {arr' : Array Value} {w' : World}
    (hw : ∃ arr T fz, w.heap[l.b]? = some (.cells arr T fz) ∧ arr.size = arr'.size ∧ w' = setBlk w l.b (.cells arr' T fz)) (hesz : k'.esz = k.esz) (harr : k'.arr = true) (harr0 : k.arr = true) (hfrz : k'.frz = k.frz)
    (hkeep : ∀ (o : Nat) u, o < k.es.length * k.esz → ∀ arr T fz, w.heap[l.b]? = some (.cells arr T fz) → arr[o]? = some u → arr'[o]? = some u)
    (hlen : k'.es.length ≤ l.n) (hle : k.es.length ≤ k'.es.length) (hcells : ∀ e ∈ k'.es, e.cells.length = k.esz)
    (hc : ∀ (i j : Nat) e x, k'.es[i]? = some e → e.cells[j]? = some x → ∃ u, arr'[i * k.esz + j]? = some u ∧ u.oneCell' = true ∧ VR M noMap x u) :
    Sim M (updM ι q l) (updG (killG g r) q k') w' ∧ Fwd M ι g w M (updM ι q l) (updG (killG g r) q k') w' := by
  obtain ⟨arr, T, fz, hh, hsz, hw'⟩ := hw
  obtain ⟨l', hl', hb⟩ := hS.live r k hk
  rw [hl] at hl'; cases hl'
  have hkz := hb.pos harr0
  replace hb := hb.cellsOk hkz
  obtain ⟨arr0, T0, fz0, hh0, h1, h2, h3⟩ := hb.heap
  rw [hh] at hh0; cases hh0
  have hlt := hb.lt
  have hle' := updM_le (l := l) hq
  have hqr : q ≠ r := by intro e; rw [e, hl] at hq; cases hq
  refine ⟨⟨?_, ?_, ?_⟩, ?_⟩
  · intro b o x hx
    by_cases hbb : l.b = b
    · subst hbb
      have ho := (hb.frozen o x hx).2
      have hx' := hS.mem _ _ _ hx
      rw [cell_of_heap hh] at hx'
      rw [cell_of_heap (by rw [hw']; exact setBlk_same hlt)]
      exact hkeep o x ho arr T fz hh hx'
    · rw [World.cell?_of_block (w := w) (by rw [hw']; exact setBlk_other hbb)]
      exact hS.mem b o x hx
  · intro r' k1 hr
    unfold updG at hr
    split at hr
    · rename_i e
      subst e
      injection hr with hr
      subst hr
      refine ⟨l, by simp [updM], CellsOk.blk ⟨by rw [hb.esz, hesz], ⟨arr', T, fz, by rw [hw']; exact setBlk_same hlt, by rw [← hsz, hesz]; exact h1, by rw [← hsz]; exact h2, ?_⟩, hlen, by rw [hesz]; exact hcells, ?_⟩ (by rw [hesz]; exact hkz)⟩
      · intro i j e x he hx
        rw [hesz]
        obtain ⟨u, hu, ho, hv⟩ := hc i j e x he hx
        refine ⟨u, hu, ho, ?_⟩
        rw [Blk.map, if_pos harr]
        exact hv
      · intro o x hx
        rw [hfrz, hesz]
        have := hb.frozen o x hx
        exact ⟨this.1, Nat.lt_of_lt_of_le this.2 (Nat.mul_le_mul_right _ hle)⟩
    · rename_i hne
      unfold killG at hr
      split at hr
      · cases hr
      · rename_i hne'
        obtain ⟨l1, hl1, hb1⟩ := hS.live r' k1 hr
        have hnb : l.b ≠ l1.b := fun e => hne' (hS.inj r' r k1 k l1 l hr hk hl1 hl e.symm)
        exact ⟨l1, hle' r' l1 hl1, hb1.keep (fun _ _ _ h => h) hle' (by rw [hw']; exact setBlk_other hnb) hb1.frozen⟩
  · have back : ∀ {r1 k1 l1}, updG (killG g r) q k' r1 = some k1 → updM ι q l r1 = some l1 → (r1 = q ∧ l1 = l) ∨ (r1 ≠ q ∧ r1 ≠ r ∧ g r1 = some k1 ∧ ι r1 = some l1) := by
      intro r1 k1 l1 h h'
      unfold updG at h
      unfold updM at h'
      split at h
      · rename_i e; rw [if_pos e] at h'; injection h' with h'; exact .inl ⟨e, h'.symm⟩
      · rename_i e
        rw [if_neg e] at h'
        unfold killG at h
        split at h
        · cases h
        · rename_i e'; exact .inr ⟨e, e', h, h'⟩
    intro r1 r2 k1 k2 l1 l2 h1 h2 h3 h4 h5
    rcases back h1 h3 with ⟨e1, e2⟩ | ⟨e1, e2, e3, e4⟩ <;> rcases back h2 h4 with ⟨e1', e2'⟩ | ⟨e1', e2', e3', e4'⟩
    · rw [e1, e1']
    · exact absurd (hS.inj r r2 k k2 l l2 hk e3' hl e4' (by rw [← e2]; exact h5)).symm e2'
    · exact absurd (hS.inj r r1 k k1 l l1 hk e3 hl e4 (by rw [← e2']; exact h5.symm)).symm e2
    · exact hS.inj r1 r2 k1 k2 l1 l2 e3 e3' e4 e4' h5
  · refine ⟨by rw [hw']; rfl, by rw [hw']; rfl, by rw [hw']; rfl, by rw [hw']; simp [setBlk], ?_, fun _ _ _ h => h, hle', ?_, fun _ _ _ h => .inl h⟩
    · intro b _ hno
      rw [hw']
      exact setBlk_other (hno r k l hk hl)
    · intro r1 k1 l1 h h'
      unfold updG at h
      unfold updM at h'
      split at h
      · rename_i e; rw [if_pos e] at h'; injection h' with h'; subst h'; exact .inr ⟨r, k, l, hk, hl, rfl⟩
      · rename_i e
        rw [if_neg e] at h'
        unfold killG at h
        split at h
        · cases h
        · exact .inr ⟨r1, k1, l1, h, h', rfl⟩

theorem get_append (H : Heap) (q r : Ref) (k : Blk) (hqr : q ≠ r) : Heap.get ((q, some k) :: H.put r none) = updG (killG H.get r) q k := by
  funext x
  simp only [Heap.get, Heap.get_put]
  unfold updG killG
  by_cases h1 : q = x
  · subst h1; simp
  · rw [if_neg h1, if_neg (Ne.symm h1)]

theorem gen_append (H : Heap) (r : Ref) (k : Blk) (hr : (H.get r).isSome = true) (d t : Nat) :
    Heap.gen ((⟨r.d, r.t, H.gen r.d r.t, 0⟩, some k) :: H.put r none) d t = if r.d = d ∧ r.t = t then H.gen r.d r.t + 1 else H.gen d t := by
  simp only [Heap.gen]
  split
  · rfl
  · rw [Heap.gen_put H r none hr]

theorem wAppend_ok {H : Heap} (hS : Sim M ι H.get w) (hD : Dom ι H) {ts : Array TypeId} {ty : TypeId} {s x y : AV} {us ux : Value} (hs : VR M ι s us) (hx : VR M ι x ux) {H' : Heap}
    (h : wAppend P H ts[0]? ts[1]? s x = some (y, H')) : ∃ u w', (Builtin.append_ ts ty #[us, ux]).run P w = .ok u w' ∧ WOut M ι H w y H' u w' := by
  unfold wAppend at h
  split at h
  · cases h
  · rename_i e he
    simp only [Option.bind_eq_some_iff] at he
    obtain ⟨t, ht, he⟩ := he
    have hu := telem_ok he
    split at h
    · cases h
    · rename_i hc
      split at h
      · rename_i z by' zz ez new hz hb hzz hnew
        split at h
        · cases h
        · rename_i hcond
          have hez : ez = z := Classical.not_not.1 fun h => hcond (.inl h)
          have hz0 : 0 < z := Nat.pos_of_ne_zero fun h => hcond (.inr (.inl h))
          have hb0 : 0 < by' := Nat.pos_of_ne_zero fun h => hcond (.inr (.inr (.inl h)))
          have hn0 : new ≠ [] := fun h => hcond (.inr (.inr (.inr (.inl h))))
          have hzl : zz.cells.length = z := Classical.not_not.1 fun h => hcond (.inr (.inr (.inr (.inr h))))
          subst hez
          obtain ⟨us', hrow, hA⟩ := newOf_ok (w := w) hS hz hz0 hx hc hnew
          split at h
          · rename_i r' off len
            split at h
            · rename_i b hb'
              obtain ⟨⟨hoff, harr, hbz, hlen, hroom⟩, h⟩ := Option.ite_none_right_eq_some.1 h
              injection h with h; injection h with h1 h2; subst h1; subst h2
              subst hoff
              subst hlen
              subst hbz
              have hs0 := hs
              cases hs with | osl hrl hbb hsp ha hcc hn hk hzl' =>
              rename_i l a c
              have hq := hD.fresh r'.d r'.t 0
              have hqr : (⟨r'.d, r'.t, H.gen r'.d r'.t, 0⟩ : Ref) ≠ r' := by intro e; rw [e, hrl] at hq; cases hq
              have hbk := hS.at hrl hzl' hb'
              obtain ⟨arr, T, fz, hh, hsz, hfz, hcells⟩ := hbk.heap
              have hpos : 0 < new.length := List.length_pos_iff.2 hn0
              have hel : elemsOf H.get (.osl r' 0 b.es.length none) = some (b.esz, (b.es.drop 0).take b.es.length) := by
                simp [elemsOf, hb', harr]
              obtain ⟨us0, hsrc⟩ := elemsOf_ok (P := P) hS hs0 hz0 hel
              have hee : (b.es.drop 0).take b.es.length = b.es := by simp
              rw [hee] at hsrc
              have hDom : ∀ ι' : Map, (∀ q, ι q = none → q ≠ ⟨r'.d, r'.t, H.gen r'.d r'.t, 0⟩ → ι' q = none) → Dom ι' ((⟨r'.d, r'.t, H.gen r'.d r'.t, 0⟩, some ⟨b.esz, b.es ++ new, true, b.frz⟩) :: H.put r' none) := by
                intro ι' hι q lq hql
                rw [gen_append H r' _ (by rw [hb']; rfl)]
                cases hi : ι q with
                | some l0 =>
                  have := hD q l0 hi
                  split
                  · rename_i hcc'; rw [← hcc'.1, ← hcc'.2] at this; exact Nat.lt_succ_of_lt this
                  · exact this
                | none =>
                  by_cases hqq : q = ⟨r'.d, r'.t, H.gen r'.d r'.t, 0⟩
                  · subst hqq
                    rw [if_pos ⟨rfl, rfl⟩]
                    exact Nat.lt_succ_self _
                  · rw [hι q hi hqq] at hql
                    cases hql
              by_cases hfit : b.es.length + new.length ≤ c
              · -- there is room
                have haoff : a.off = 0 := by
                  rcases ha with h | h
                  · omega
                  · simpa using h
                have hcn : 0 + c ≤ l.n := by
                  rcases hn with h | h
                  · omega
                  · exact h
                have hae : a = ⟨l.b, 0, none⟩ := by rw [addr_eta hsp, hbb, haoff]
                have hle : 0 + b.es.length * b.esz + us'.length ≤ arr.size := by
                  rw [hrow.len, hsz, Nat.zero_add, ← Nat.add_mul]
                  exact Nat.mul_le_mul_right _ (by omega)
                have hrun := run_append_in (P := P) (w := w) (ty := ty) ht hu hz hb (b := l.b) (o := 0) hA hfit hroom hh hle hfz hrow.one
                rw [Nat.zero_add] at hrun hle
                obtain ⟨h3, h4⟩ := rename_ok (M := M) (q := ⟨r'.d, r'.t, H.gen r'.d r'.t, 0⟩) (k' := ⟨b.esz, b.es ++ new, true, b.frz⟩) hS hb' hrl hq (arr' := putCells arr (b.es.length * b.esz) us')
                  ⟨arr, T, fz, hh, (putCells_size hle).symm, rfl⟩ rfl rfl harr rfl
                  (by
                    intro o u ho arr1 T1 fz1 hh1 hu1
                    rw [hh] at hh1; cases hh1
                    rw [putCells_at hle, if_neg (by omega)]
                    exact hu1)
                  (by simp; omega) (by simp) (by
                    intro e1 he1
                    rcases List.mem_append.1 he1 with h | h
                    · exact hbk.cells e1 h
                    · exact hrow.els e1 h)
                  (by
                    intro i j e1 x1 hi hx1
                    rw [putCells_at hle]
                    rcases Nat.lt_or_ge i b.es.length with hlt | hge
                    · rw [List.getElem?_append_left hlt] at hi
                      have hj : j < b.esz := by
                        rw [← hbk.cells e1 (List.mem_of_getElem? hi)]
                        exact (List.getElem?_eq_some_iff.1 hx1).1
                      have := idx_lt hlt hj
                      rw [if_neg (by omega)]
                      obtain ⟨u, hu1, ho, hv⟩ := hcells i j e1 x1 hi hx1
                      rw [Blk.map, if_pos harr] at hv
                      exact ⟨u, hu1, ho, hv⟩
                    · rw [List.getElem?_append_right hge] at hi
                      obtain ⟨u, hu1, hv⟩ := hrow.vr _ j e1 x1 hi hx1
                      have hlt := (List.getElem?_eq_some_iff.1 hu1).1
                      have hge' : b.es.length * b.esz ≤ i * b.esz := Nat.mul_le_mul_right _ hge
                      have hii : (i - b.es.length) * b.esz = i * b.esz - b.es.length * b.esz := Nat.sub_mul _ _ _
                      rw [if_pos (by omega), show i * b.esz + j - b.es.length * b.esz = (i - b.es.length) * b.esz + j by omega]
                      exact ⟨u, hu1, hrow.one u (List.mem_of_getElem? hu1), hv⟩)
                refine ⟨.slice (some a) (b.es.length + new.length) c, _, by rw [hae]; exact hrun, M, _, ?_, by rw [get_append H _ r' _ hqr]; exact h3, by rw [get_append H _ r' _ hqr]; exact h4, ?_⟩
                · exact .osl (l := l) (by simp [updM]) hbb hsp (.inr (by rw [haoff]; simp)) hfit (.inr hcn) (by intro k hk; cases hk) hzl'
                · exact hDom _ (by intro q hq' hne; simp [updM, hne, hq'])
              · -- a new row
                obtain ⟨zv, hzv, hzs⟩ := zero_cells hz hzz hzl
                obtain ⟨cap, w', hcap, hrun, hgrew⟩ := run_append_new (P := P) (w := w) (ty := ty) ht hu hz hb hzv hzs (old_cells (a := some a) (len := b.es.length) (c := c) rfl rfl hsrc) hA (by omega) hroom hb0
                obtain ⟨h1, h2⟩ := grown_cells (olds := us0) (us := us') (n1 := b.es.length) (n2 := new.length) (cap := cap) hsrc.len hrow.len hzs hcap
                obtain ⟨h3, h4⟩ := kill_ok hS r'
                have hrow2 := hsrc.row.append hrow
                have hnew : ∀ (i j : Nat) e x, (b.es ++ new)[i]? = some e → e.cells[j]? = some x → ∃ u, (us0.toArray ++ us'.toArray ++ Builtin.zeroCells zv.cells (cap - (b.es.length + new.length)))[i * b.esz + j]? = some u ∧ u.oneCell' = true ∧ VR M noMap x u := by
                  intro i j e1 x1 hi hx1
                  obtain ⟨u, hu1, hv⟩ := hrow2.vr i j e1 x1 hi hx1
                  exact ⟨u, h2 _ _ hu1, hrow2.one u (List.mem_of_getElem? hu1), hv⟩
                obtain ⟨h5, h6⟩ := h3.alloc (q := ⟨r'.d, r'.t, H.gen r'.d r'.t, 0⟩) hq hgrew ⟨b.esz, b.es ++ new, true, b.frz⟩ hz0 cap h1 (by intro o ho hf; simp at hf) (by simpa using hcap) hrow2.els
                  (by intro i j e1 x1 hi hx1; rw [Blk.map, if_pos rfl]; exact hnew i j e1 x1 hi hx1)
                refine ⟨_, w', hrun, M, _, ?_, by rw [get_append H _ r' _ hqr]; exact h5, by rw [get_append H _ r' _ hqr]; exact h4.trans h6, ?_⟩
                · exact .osl (l := ⟨w.heap.size, b.esz, cap⟩) (by simp [updM]) rfl rfl (.inr (by simp)) hcap (.inr (by simp)) (by intro k hk; cases hk) hz0
                · exact hDom _ (by intro q hq' hne; simp [updM, hne, hq'])
            · cases h
          · cases h
      · cases h

theorem wBuildSlice_ok {H : Heap} (hS : Sim M ι H.get w) (hD : Dom ι H) {d tt : Nat} {t : TypeId} {n : Nat} {vs : List (Nat × AV)} {qs : Array (Nat × Value)} {x : AV} {H' : Heap}
    (h : wBuildSlice P H ⟨d, tt, H.gen d tt, 0⟩ t n (some vs) = some (x, H')) (hl : vs.length = qs.toList.length)
    (hp : ∀ (i : Nat) p q, vs[i]? = some p → qs.toList[i]? = some q → p.1 = q.1 ∧ VR M ι p.2 q.2) :
    ∃ u w', (Instr.buildSlice t n qs).run P w = .ok u w' ∧ WOut M ι H w x H' u w' := by
  simp only [wBuildSlice, Option.map_eq_some_iff] at h
  obtain ⟨b, hb, h⟩ := h
  injection h with e1 e2
  subst e1; subst e2
  obtain ⟨h1, h2, h3, e, arr, h4, h5, h6⟩ := mkSlice_ok hS hb hl hp
  obtain ⟨hS', hF⟩ := frz_ok (R := refsAll H.get (vs.map (·.2))) hS
  have hbb : b = ⟨b.esz, b.es, true, false⟩ := by cases b; simp_all
  have hgrew : Grew w (w.alloc (.cells arr e)) (.cells arr e (0, 0)) := ⟨rfl, rfl, rfl, rfl⟩
  have hq := hD.fresh d tt 0
  have hout := alloc_row (r := ⟨d, tt, H.gen d tt, 0⟩) hS' rfl hq hgrew h6 (fun k u hu => by simpa using hu) (n := n) (c := n) h5 (by simp) (by omega) (Nat.le_refl _) (cap := some n) (by intro k hk; cases hk; rfl) (mkSlice_pos hb)
  rw [h3, ← hbb] at hout
  have hD' : Dom ι (freezeAll H (refsAll H.get (vs.map (·.2)))) := by
    intro q l hq
    rw [Heap.gen_freezeAll]
    exact hD q l hq
  obtain ⟨M', ι', g1, g2, g3, g4⟩ := hout
  have hget : Heap.get (((⟨d, tt, H.gen d tt, 0⟩ : Ref), some b) :: freezeAll H (refsAll H.get (vs.map (·.2)))) = addK (frzG H.get (refsAll H.get (vs.map (·.2)))) ⟨d, tt, H.gen d tt, 0⟩ [b] := by
    rw [addK_one _ _ rfl]
    funext q
    simp only [Heap.get, Heap.get_freezeAll]
    unfold updG
    by_cases hh : q = ⟨d, tt, H.gen d tt, 0⟩
    · rw [if_pos hh.symm, if_pos hh]
    · rw [if_neg (Ne.symm hh), if_neg hh]
  refine ⟨_, _, h4, M', ι', g1, ?_, ?_, ?_⟩
  · show Sim M' ι' (Heap.get (_ :: _)) _
    rw [hget]; exact g2
  · show Fwd M ι H.get w M' ι' (Heap.get (_ :: _)) _
    rw [hget]; exact hF.trans g3
  · intro q l hq'
    simp only [Heap.gen, Heap.gen_freezeAll]
    cases hi : ι q with
    | some l0 =>
      have := hD q l0 hi
      split
      · rename_i hc; rw [← hc.1, ← hc.2] at this; exact Nat.lt_succ_of_lt this
      · exact this
    | none =>
      by_cases hk : q = ⟨d, tt, H.gen d tt, 0⟩
      · subst hk
        rw [if_pos ⟨rfl, rfl⟩]
        exact Nat.lt_succ_self _
      · rw [g4 q hi (fun k hlt e => hk (by rw [e]; simp at hlt; rw [hlt]))] at hq'
        cases hq'

theorem Row.sub {z es us} (h : Row M z es us) (n : Nat) : Row M z (es.take n) (us.take (n * z)) := by
  refine ⟨?_, fun e he => h.els e (List.mem_of_mem_take he), fun x hx => h.one x (List.mem_of_mem_take hx), ?_⟩
  · rw [List.length_take, List.length_take, h.len]
    rcases Nat.le_total n es.length with hle | hle
    · rw [Nat.min_eq_left hle, Nat.min_eq_left (Nat.mul_le_mul_right _ hle)]
    · rw [Nat.min_eq_right hle, Nat.min_eq_right (Nat.mul_le_mul_right _ hle)]
  · intro i j e x he hx
    rw [List.getElem?_take] at he
    split at he
    · rename_i hi
      obtain ⟨u, hu, hv⟩ := h.vr i j e x he hx
      have hj : j < z := by
        rw [← h.els e (List.mem_of_getElem? he)]
        exact (List.getElem?_eq_some_iff.1 hx).1
      refine ⟨u, ?_, hv⟩
      rw [List.getElem?_take, if_pos (idx_lt hi hj)]
      exact hu
    · cases he

theorem wCopy_ok {H : Heap} (hS : Sim M ι H.get w) (hD : Dom ι H) {ts : Array TypeId} {ty : TypeId} {s x y : AV} {us ux : Value} (hs : VR M ι s us) (hx : VR M ι x ux) {H' : Heap}
    (h : wCopy P H ts[0]? s x = some (y, H')) : ∃ u w', (Builtin.copy_ ts ty #[us, ux]).run P w = .ok u w' ∧ WOut M ι H w y H' u w' := by
  unfold wCopy at h
  split at h
  · cases h
  · rename_i e he
    simp only [Option.bind_eq_some_iff] at he
    obtain ⟨t, ht, he⟩ := he
    have hu := telem_ok he
    split at h
    · cases h
    · rename_i z hz
      split at h
      · cases h
      · rename_i ez src hsrc
        split at h
        · cases h
        · rename_i hcond
          have hez : ez = z := Classical.not_not.1 fun h => hcond (.inl h)
          have hz0 : 0 < z := Nat.pos_of_ne_zero fun h => hcond (.inr h)
          subst hez
          have hS0 : ∃ us', Src P M w ux ez src us' := by
            split at hsrc
            · rename_i hn
              injection hsrc with hsrc
              injection hsrc with h1 h2
              subst h2
              have : ux = .slice none 0 0 := by
                cases hx <;> simp [nilSlice] at hn
                split at hn <;> simp_all
              subst this
              exact ⟨[], by simp, by simp, by simp, by intro i j e x h; simp at h, fun w' => rfl, fun n w' hn' _ => by simp [Builtin.firstCells]⟩
            · exact elemsOf_ok hS hx hz0 hsrc
          obtain ⟨us', hrow⟩ := hS0
          split at h
          · -- into a nil slice
            cases hs
            injection h with h; injection h with h1 h2; subst h1; subst h2
            have hf := hrow.first 0 w (Nat.zero_le _) rfl
            have hl := hrow.lenOf w
            refine ⟨.int .i64 0, w, ?_, M, ι, .v rfl, hS, Fwd.refl, hD⟩
            simp only [Nat.zero_mul, List.take_zero] at hf
            have hm : src.length.min 0 = 0 := Nat.min_zero _
            simp [Builtin.copy_, ht, run_und hu, run_sizeOf hz, hl, hm, hf, goInt]
          · rename_i r' off len cap
            split at h
            · rename_i b hb
              obtain ⟨⟨harr, hbz, hfr, hle⟩, h⟩ := Option.ite_none_right_eq_some.1 h
              injection h with h; injection h with h1 h2; subst h1; subst h2
              subst hbz
              cases hs with | osl hrl hbb hsp ha hcc hn hk hzl' =>
              rename_i l a c
              have hbk := hS.at hrl hzl' hb
              obtain ⟨arr, T, fz, hh, hsz, hfz, hcells⟩ := hbk.heap
              obtain ⟨n, hn0⟩ : ∃ n, n = Nat.min src.length len := ⟨_, rfl⟩
              have hn1 : n ≤ src.length := by rw [hn0]; exact Nat.min_le_left _ _
              have hn2 : n ≤ len := by rw [hn0]; exact Nat.min_le_right _ _
              rw [← hn0]
              have hf := hrow.first n w hn1 rfl
              have hl := hrow.lenOf w
              have hsub := hrow.row.sub n
              have htl : (src.take n).length = n := by rw [List.length_take, Nat.min_eq_left hn1]
              have hul : (us'.take (n * b.esz)).length = n * b.esz := by rw [hsub.len, htl]
              have hbl := hbk.len
              have hroom : off * b.esz + (us'.take (n * b.esz)).length ≤ arr.size := by
                rw [hul, hsz, ← Nat.add_mul]
                exact Nat.mul_le_mul_right _ (by omega)
              -- the new content
              have hes : ∀ i, (b.es.take off ++ src.take n ++ b.es.drop (off + n))[i]? = if off ≤ i ∧ i < off + n then (src.take n)[i - off]? else b.es[i]? := by
                intro i
                have := patch_at (cs := b.es) (new := src.take n) (j := off) (by rw [htl]; omega) i
                rw [htl] at this
                rw [← this]
                unfold patch
                rw [htl]
              obtain ⟨h3, h4⟩ := hS.write (k' := { b with es := b.es.take off ++ src.take n ++ b.es.drop (off + n) }) hb hrl hzl' (arr := putCells arr (off * b.esz) (us'.take (n * b.esz))) (T := T) (fz := fz) rfl rfl rfl
                (by rw [putCells_size hroom]; exact hsz) (by rw [putCells_size hroom]; exact hfz) (by simp; omega)
                (by
                  intro e1 he1
                  simp only [List.mem_append] at he1
                  rcases he1 with (h | h) | h
                  · exact hbk.cells e1 (List.mem_of_mem_take h)
                  · exact hsub.els e1 h
                  · exact hbk.cells e1 (List.mem_of_mem_drop h))
                (by
                  intro o v hv
                  have := (hbk.frozen o v hv).1
                  rw [hfr] at this
                  cases this)
                (by
                  intro i j e1 x1 hi hx1
                  rw [Blk.map, if_pos harr]
                  simp only at hi
                  rw [hes i] at hi
                  rw [putCells_at hroom, hul]
                  by_cases hr : off ≤ i ∧ i < off + n
                  · rw [if_pos hr] at hi
                    obtain ⟨u, hu1, hv⟩ := hsub.vr (i - off) j e1 x1 hi hx1
                    have hlt := (List.getElem?_eq_some_iff.1 hu1).1
                    rw [hul] at hlt
                    have h5 : off * b.esz ≤ i * b.esz := Nat.mul_le_mul_right _ hr.1
                    have h6 : (i - off) * b.esz = i * b.esz - off * b.esz := Nat.sub_mul _ _ _
                    rw [if_pos (by omega), show i * b.esz + j - off * b.esz = (i - off) * b.esz + j by omega]
                    exact ⟨u, hu1, hsub.one u (List.mem_of_getElem? hu1), hv⟩
                  · rw [if_neg hr] at hi
                    have hj : j < b.esz := by
                      rw [← hbk.cells e1 (List.mem_of_getElem? hi)]
                      exact (List.getElem?_eq_some_iff.1 hx1).1
                    rw [if_neg]
                    · obtain ⟨u, hu1, ho, hv⟩ := hcells i j e1 x1 hi hx1
                      rw [Blk.map, if_pos harr] at hv
                      exact ⟨u, hu1, ho, hv⟩
                    · intro hcon
                      apply hr
                      have e1' : off * b.esz + n * b.esz = (off + n) * b.esz := (Nat.add_mul _ _ _).symm
                      constructor
                      · rcases Nat.lt_or_ge i off with h | h
                        · have : (i + 1) * b.esz ≤ off * b.esz := Nat.mul_le_mul_right _ h
                          rw [Nat.add_mul] at this
                          omega
                        · exact h
                      · rcases Nat.lt_or_ge i (off + n) with h | h
                        · exact h
                        · have : (off + n) * b.esz ≤ i * b.esz := Nat.mul_le_mul_right _ h
                          omega)
              have hstore : (storeCells a (us'.take (n * b.esz))).run P w = .ok () (setBlk w l.b (.cells (putCells arr (off * b.esz) (us'.take (n * b.esz))) T fz)) := by
                by_cases h0 : n = 0
                · have e0 : us'.take (n * b.esz) = [] := by rw [h0]; simp
                  rw [e0]
                  have e1 : putCells arr (off * b.esz) [] = arr := by simp [putCells]
                  rw [e1]
                  have e2 : setBlk w l.b (.cells arr T fz) = w := by
                    unfold setBlk
                    have : w.heap.setIfInBounds l.b (.cells arr T fz) = w.heap := by
                      apply Array.ext_getElem?
                      intro k
                      by_cases hk : l.b = k
                      · subst hk; rw [hh, Array.getElem?_setIfInBounds_self_of_lt hbk.lt]
                      · rw [Array.getElem?_setIfInBounds_ne hk]
                    rw [this]
                  rw [e2]
                  simp [storeCells]
                · have haoff : a.off = off * b.esz := by
                    rcases ha with h | h
                    · omega
                    · rw [h, hbk.esz]
                  have := run_storeCells_gen (P := P) (off * b.esz) (us'.take (n * b.esz)) 0 arr w hh (by simpa using hroom) hfz hsub.one
                  rw [Nat.add_zero] at this
                  rw [addr_eta hsp, hbb, haoff]
                  exact this
              refine ⟨.int .i64 n, _, ?_, M, ι, .v rfl, by rw [updG_put]; exact h3, by rw [updG_put]; exact h4, ?_⟩
              · have hm : src.length.min len = n := hn0.symm
                simp [Builtin.copy_, ht, run_und hu, run_sizeOf hz, hl, hm, hf, hstore, goInt]
              · intro q lq hq
                rw [Heap.gen_put _ _ _ (by rw [hb]; rfl)]
                exact hD q lq hq
            · cases h
          · cases h

end
end Go.Ab
