/-
  What the abstract machine's quiet operations give is what the model's give: new rows. No statement of a seat is proved here.
-/
import Derived.Test.YtjampffmlnplcaaAbsOps3
set_option linter.unusedVariables false
set_option linter.unusedSimpArgs false
namespace Go.Ab

section
variable {P : Program} {M : Mem} {ι : Map} {g : Get} {w : World} {r : Ref}

/-- Elements and the cells that they are. -/
structure Row (M : Mem) (z : Nat) (es : List AV) (us : List Value) : Prop where
  len : us.length = es.length * z
  els : ∀ e ∈ es, e.cells.length = z
  one : ∀ x ∈ us, x.oneCell' = true
  vr : ∀ (i j : Nat) e x, es[i]? = some e → e.cells[j]? = some x → ∃ u, us[i * z + j]? = some u ∧ VR M noMap x u

theorem Src.row {u z es us} (h : Src P M w u z es us) : Row M z es us := ⟨h.len, h.els, h.one, h.vr⟩

theorem Row.nil {z : Nat} : Row M z [] [] := ⟨by simp, by simp, by simp, by intro i j e x h; simp at h⟩

theorem Row.append {z es us es' us'} (h : Row M z es us) (h' : Row M z es' us') : Row M z (es ++ es') (us ++ us') := by
  refine ⟨by simp [h.len, h'.len, Nat.add_mul], ?_, ?_, ?_⟩
  · intro e he
    rcases List.mem_append.1 he with h1 | h1
    · exact h.els e h1
    · exact h'.els e h1
  · intro e he
    rcases List.mem_append.1 he with h1 | h1
    · exact h.one e h1
    · exact h'.one e h1
  · intro i j e x he hx
    rcases Nat.lt_or_ge i es.length with hi | hi
    · rw [List.getElem?_append_left hi] at he
      obtain ⟨u, hu, hv⟩ := h.vr i j e x he hx
      exact ⟨u, by rw [List.getElem?_append_left (List.getElem?_eq_some_iff.1 hu).1]; exact hu, hv⟩
    · rw [List.getElem?_append_right hi] at he
      obtain ⟨u, hu, hv⟩ := h'.vr _ j e x he hx
      have hle : es.length * z ≤ i * z := Nat.mul_le_mul_right _ hi
      refine ⟨u, ?_, hv⟩
      rw [List.getElem?_append_right (by rw [h.len]; omega), h.len, show i * z + j - es.length * z = (i - es.length) * z + j by rw [Nat.sub_mul]; omega]
      exact hu

theorem Row.cons {z es us e vs} (he : VRs M noMap e vs) (hl : e.length = z) (h1 : ∀ x ∈ vs, x.oneCell' = true) (y : AV) (hy : y.cells = e) (h : Row M z es us) : Row M z (y :: es) (vs ++ us) := by
  have : Row M z [y] vs := by
    refine ⟨by rw [← he.1, hl]; simp, by intro e' he'; simp at he'; subst he'; rw [hy]; exact hl, h1, ?_⟩
    intro i j e' x hi hx
    cases i with
    | succ i => simp at hi
    | zero =>
      simp at hi
      subst hi
      rw [hy] at hx
      have hj : j < vs.length := by have := (List.getElem?_eq_some_iff.1 hx).1; rw [← he.1]; exact this
      exact ⟨vs[j], by simp [hj], he.2 j x vs[j] hx (List.getElem?_eq_getElem hj)⟩
  exact this.append h

theorem Row.replicate {z : Nat} {y : AV} {u : Value} (hv : VR M noMap y u) (hl : y.cells.length = z) (h1 : y.cells.all AV.one = true) : ∀ n, Row M z (List.replicate n y) (List.replicate n u.cells.toList).flatten := by
  intro n
  have hone : ∀ x ∈ u.cells.toList, x.oneCell' = true := by
    intro x hx
    obtain ⟨j, hj, hjx⟩ := List.getElem_of_mem hx
    have hc := hv.cells
    have hj' : j < y.cells.length := by rw [hc.1]; exact hj
    have := hc.2 j _ x (List.getElem?_eq_getElem hj') (by rw [← hjx]; exact List.getElem?_eq_getElem hj)
    exact this.one (by simp only [List.all_eq_true] at h1; exact h1 _ (List.getElem_mem hj'))
  induction n with
  | zero => exact Row.nil
  | succ n ih => rw [List.replicate_succ, List.replicate_succ, List.flatten_cons]; exact Row.cons hv.cells hl hone y rfl ih

theorem Row.mono {z es us} {M' : Mem} (h : Row M z es us) (hM : ∀ b o x, M b o = some x → M' b o = some x) : Row M' z es us :=
  ⟨h.len, h.els, h.one, fun i j e x he hx => by obtain ⟨u, hu, hv⟩ := h.vr i j e x he hx; exact ⟨u, hu, hv.mono hM _ (fun _ _ h => h)⟩⟩

/-- A new row of the call's own. -/
theorem alloc_row (hS : Sim M ι g w) (hr : r.k = 0) (hq : ι r = none) {w' : World} {arr : Array Value} {T : TypeId} {fz : Nat × Nat} (hw : Grew w w' (.cells arr T fz))
    {z : Nat} {es : List AV} {us : List Value} (hrow : Row M z es us) (harr : ∀ (k : Nat) u, us[k]? = some u → arr[k]? = some u) {n c : Nat} (hsz : arr.size = n * z)
    (hfz : ∀ o, o < arr.size → ¬ (fz.1 ≤ o ∧ (o < fz.2 ∨ fz.2 < fz.1))) (h1 : es.length ≤ c) (h2 : c ≤ n) {cap : Option Nat} (hcap : ∀ k, cap = some k → c = k) (hz : 0 < z) :
    QOut M ι g w r (.osl r 0 es.length cap) [⟨z, es, true, false⟩] (.slice (some ⟨w.heap.size, 0, none⟩) es.length c) w' := by
  obtain ⟨h3, h4⟩ := hS.alloc (q := r) hq hw ⟨z, es, true, false⟩ hz n hsz hfz (by simp; omega) hrow.els
    (by
      intro i j e x he hx
      obtain ⟨u, hu, hv⟩ := hrow.vr i j e x he hx
      exact ⟨u, harr _ _ hu, hrow.one u (List.mem_of_getElem? hu), by simpa [Blk.map] using hv⟩)
  refine ⟨M, _, ?_, by rw [addK_one _ _ hr]; exact h3, by rw [addK_one _ _ hr]; exact h4, ?_⟩
  · exact .osl (l := ⟨w.heap.size, z, n⟩) (by simp [updM]) rfl rfl (.inr (by simp)) h1 (.inr (by simp; omega)) hcap hz
  · intro q hq' hk
    have : q ≠ r := by intro e; exact hk 0 (by simp) (by rw [e]; cases r; simp_all)
    simpa [updM, this] using hq'

def immM (M : Mem) (b : Nat) (us : List Value) : Mem := fun b' o => if b' = b then us[o]? else M b' o

/-- A new row that nobody will write. -/
theorem alloc_imm (hS : Sim M ι g w) {w' : World} {arr : Array Value} {T : TypeId} {fz : Nat × Nat} (hw : Grew w w' (.cells arr T fz))
    {z : Nat} {es : List AV} {us : List Value} (hrow : Row M z es us) (harr : ∀ (k : Nat) u, us[k]? = some u → arr[k]? = some u) {c : Nat}
    (h1 : es.length ≤ c) {cap : Option Nat} (hcap : ∀ k, cap = some k → c = k) :
    QOut M ι g w r (.isl z es cap) [] (.slice (some ⟨w.heap.size, 0, none⟩) es.length c) w' := by
  have hMlt : ∀ b o x, M b o = some x → b < w.heap.size := fun b o x h => World.block_lt_of_cell? w ⟨b, o, none⟩ (hS.mem b o x h)
  have hle : ∀ b o x, M b o = some x → immM M w.heap.size us b o = some x := by
    intro b o x h
    unfold immM
    rw [if_neg (Nat.ne_of_lt (hMlt b o x h))]
    exact h
  have hnew : w'.heap[w.heap.size]? = some (.cells arr T fz) := by rw [hw.heap]; simp
  have hcl : ∀ i j, i < es.length → j < z → ∃ u, us[i * z + j]? = some u := by
    intro i j hi hj
    exact ⟨us[i * z + j]'(by rw [hrow.len]; exact idx_lt hi hj), List.getElem?_eq_getElem _⟩
  refine ⟨immM M w.heap.size us, ι, ?_, ?_, ?_, fun q hq _ => hq⟩
  · refine VR.isl (M := immM M w.heap.size us) (ι := ι) (esz := z) (es := es) (cap := cap) (a := ⟨w.heap.size, 0, none⟩) (c := c) (fun i j => (us[i * z + j]?).getD undef) (.inl rfl) h1 hcap ?_ hrow.els ?_
    · intro i j hi hj
      obtain ⟨u, hu⟩ := hcl i j hi hj
      simp only [immM, if_true, Nat.zero_add, hu, Option.getD_some]
      exact ⟨trivial, hrow.one u (List.mem_of_getElem? hu)⟩
    · intro i j e x he hx
      obtain ⟨u, hu, hv⟩ := hrow.vr i j e x he hx
      simp only [hu, Option.getD_some]
      exact hv.mono hle _ (fun _ _ h => h)
  · rw [addK_nil]
    refine ⟨?_, ?_, hS.inj⟩
    · intro b o x h
      unfold immM at h
      split at h
      · rename_i e; subst e; rw [cell_of_heap hnew]; exact harr o x h
      · exact hw.cell (hS.mem b o x h)
    · intro r' k hk
      obtain ⟨l, hl, hb⟩ := hS.live r' k hk
      refine ⟨l, hl, hb.keep hle (fun _ _ h => h) (hw.old _ hb.lt) ?_⟩
      intro o x h
      unfold immM at h
      rw [if_neg (Nat.ne_of_lt hb.lt)] at h
      exact hb.frozen o x h
  · rw [addK_nil]
    refine ⟨hw.os, hw.tape, hw.output, by rw [hw.heap]; simp, fun b hb _ => hw.old b hb, hle, fun _ _ h => h, fun r' k l h h' => .inr ⟨r', k, l, h, h', rfl⟩, ?_⟩
    intro b o x h
    unfold immM at h
    split at h
    · rename_i e; exact .inr (.inl (by omega))
    · exact .inl h

/-- The memory that is seen counts as not written: a quiet operation after which it stays so, where all of it was so before. -/
theorem QOut.after {R : List Ref} (hR : frzG g R = g) (hS : Sim M ι g w) {x : AV} {bs : List Blk} {u : Value} {w' : World} (h : QOut (addM M ι g w R) ι g w r x bs u w') : QOut M ι g w r x bs u w' := by
  obtain ⟨_, hF⟩ := frz_ok (R := R) hS
  rw [hR] at hF
  obtain ⟨M', ι', h1, h2, h3, h4⟩ := h
  exact ⟨M', ι', h1, h2, hF.trans h3, h4⟩

/- ## Slices that are written out -/
theorem viewParts_ok (hS : Sim M ι g w) {vs ws : List (Nat × AV)} (h : viewParts g vs = some ws) {qs : List (Nat × Value)} (hl : vs.length = qs.length)
    (hp : ∀ (i : Nat) p q, vs[i]? = some p → qs[i]? = some q → p.1 = q.1 ∧ VR M ι p.2 q.2) :
    ws.length = qs.length ∧ ∀ (i : Nat) p q, ws[i]? = some p → qs[i]? = some q → p.1 = q.1 ∧ VR (addM M ι g w (refsAll g (vs.map (·.2)))) noMap p.2 q.2 := by
  unfold viewParts at h
  refine ⟨by rw [mapM_len h, hl], ?_⟩
  intro i p q hpi hqi
  obtain ⟨⟨k, x⟩, hx, hf⟩ := mapM_at h i p hpi
  simp only [Option.map_eq_some_iff] at hf
  obtain ⟨y, hy, rfl⟩ := hf
  obtain ⟨h1, h2⟩ := hp i _ q hx hqi
  refine ⟨h1, view_ok hS depth x y q.2 hy ?_ h2⟩
  intro r hr
  simp only [refsAll, List.mem_flatMap, List.mem_map]
  exact ⟨x, ⟨(k, x), List.mem_of_getElem? hx, rfl⟩, hr⟩

theorem fillSlice_ok {z : Nat} : ∀ (ws : List (Nat × AV)) (qs : List (Nat × Value)) (es es' : List AV) (us : Array Value), fillSlice es ws = some es' → Row M z es us.toList →
    ws.length = qs.length → (∀ (i : Nat) p q, ws[i]? = some p → qs[i]? = some q → p.1 = q.1 ∧ VR M noMap p.2 q.2) → (∀ p ∈ ws, p.2.cells.length = z ∧ p.2.cells.all AV.one = true) →
    es'.length = es.length ∧ ∃ us', Instr.fill (fun i => some (i * z, z)) us qs = some us' ∧ Row M z es' us'.toList := by
  intro ws
  induction ws with
  | nil =>
    intro qs es es' us h hrow hl hp hz
    simp [fillSlice] at h
    subst h
    cases qs with
    | nil => exact ⟨rfl, us, rfl, hrow⟩
    | cons q qs => simp at hl
  | cons p ws ih =>
    intro qs es es' us h hrow hl hp hz
    cases qs with
    | nil => simp at hl
    | cons q qs =>
      obtain ⟨i, v⟩ := p
      obtain ⟨i', u⟩ := q
      obtain ⟨h1, h2⟩ := hp 0 _ _ rfl rfl
      simp only at h1 h2
      subst h1
      simp only [fillSlice] at h
      split at h
      · rename_i hi
        obtain ⟨hvl, hvo⟩ := hz _ (List.mem_cons_self ..)
        simp only at hvl hvo
        have hcs := h2.cells
        have hus : u.cells.size = z := by have := hcs.1; simp at this; omega
        have hsz : us.size = es.length * z := by have := hrow.len; simpa using this
        have hle : i * z + z ≤ us.size := by
          have : (i + 1) * z ≤ es.length * z := Nat.mul_le_mul_right _ hi
          rw [Nat.add_mul] at this
          omega
        have hput := fold_set (i * z) u.cells.toList 0 us (by simp; omega)
        have hfold : u.cells.zipIdx.foldl (fun cs (p : Value × Nat) => cs.setIfInBounds (i * z + p.2) p.1) us = putCells us (i * z) u.cells.toList := by
          rw [Nat.add_zero] at hput
          rw [← hput, ← Array.foldl_toList, Array.toList_zipIdx]
        have hone : ∀ x ∈ u.cells.toList, x.oneCell' = true := by
          intro x hx
          obtain ⟨j, hj, hjx⟩ := List.getElem_of_mem hx
          have hj' : j < v.cells.length := by rw [hcs.1]; exact hj
          have := hcs.2 j _ x (List.getElem?_eq_getElem hj') (by rw [← hjx]; exact List.getElem?_eq_getElem hj)
          exact this.one (by simp only [List.all_eq_true] at hvo; exact hvo _ (List.getElem_mem hj'))
        have hrow' : Row M z (es.set i v) (putCells us (i * z) u.cells.toList).toList := by
          refine ⟨?_, ?_, ?_, ?_⟩
          · simp only [Array.length_toList, List.length_set]
            rw [putCells_size (by simp; omega), hsz]
          · intro e he
            rcases List.mem_or_eq_of_mem_set he with h | h
            · exact hrow.els e h
            · rw [h]; exact hvl
          · intro x hx
            simp only [putCells, List.mem_append] at hx
            rcases hx with (h | h) | h
            · exact hrow.one x (List.mem_of_mem_take h)
            · exact hone x h
            · exact hrow.one x (List.mem_of_mem_drop h)
          · intro k j e x he hx
            have hkl : k < es.length := by have := (List.getElem?_eq_some_iff.1 he).1; simpa using this
            rw [Array.getElem?_toList, putCells_at (by simp; omega)]
            by_cases hk : i = k
            · subst hk
              rw [List.getElem?_set_self hi] at he
              injection he with he
              subst he
              have hj : j < v.cells.length := (List.getElem?_eq_some_iff.1 hx).1
              rw [if_pos ⟨by omega, by simp; omega⟩, Nat.add_sub_cancel_left]
              have hju : j < u.cells.toList.length := by rw [← hcs.1]; exact hj
              exact ⟨u.cells.toList[j], List.getElem?_eq_getElem hju, hcs.2 j x _ hx (List.getElem?_eq_getElem hju)⟩
            · rw [List.getElem?_set_ne hk] at he
              have hj : j < z := by
                rw [← hrow.els e (List.mem_of_getElem? he)]
                exact (List.getElem?_eq_some_iff.1 hx).1
              obtain ⟨v', hv', hvr⟩ := hrow.vr k j e x he hx
              rw [if_neg]
              · exact ⟨v', by simpa using hv', hvr⟩
              · simp only [Array.length_toList, hus]
                rcases Nat.lt_or_gt_of_ne hk with h | h
                · have : (i + 1) * z ≤ k * z := Nat.mul_le_mul_right _ h
                  rw [Nat.add_mul] at this
                  omega
                · have : (k + 1) * z ≤ i * z := Nat.mul_le_mul_right _ h
                  rw [Nat.add_mul] at this
                  omega
        obtain ⟨h3, us', h4, h5⟩ := ih qs (es.set i v) es' (putCells us (i * z) u.cells.toList) h hrow' (by simpa using hl) (fun k p q hp' hq' => hp (k + 1) p q hp' hq') (fun p hp' => hz p (List.mem_cons_of_mem _ hp'))
        refine ⟨by rw [h3]; simp, us', ?_, h5⟩
        simp only [Instr.fill]
        rw [if_neg (by simp; omega)]
        rw [← h4, ← hfold]
      · cases h

theorem flatten_mod {zs : Array Value} {n : Nat} (hz : 0 < zs.size) : ((Array.range (n * zs.size)).map (zs[· % zs.size]!)).toList = (List.replicate n zs.toList).flatten := by
  apply List.ext_getElem?
  intro k
  rcases Nat.lt_or_ge k (n * zs.size) with hk | hk
  · have hk' : k % zs.size < zs.size := Nat.mod_lt _ hz
    have hd : k / zs.size < n := (Nat.div_lt_iff_lt_mul hz).2 hk
    have e1 : ((Array.range (n * zs.size)).map (zs[· % zs.size]!)).toList[k]? = some zs[k % zs.size] := by
      simp [hk, hk', getElem!_pos]
    rw [e1]
    have : ∀ n k, k < n * zs.size → (List.replicate n zs.toList).flatten[k]? = zs.toList[k % zs.size]? := by
      intro n
      induction n with
      | zero => intro k hk; simp at hk
      | succ n ih =>
        intro k hk
        rw [List.replicate_succ, List.flatten_cons]
        rcases Nat.lt_or_ge k zs.size with h | h
        · rw [List.getElem?_append_left (by simpa using h), Nat.mod_eq_of_lt h]
        · rw [List.getElem?_append_right (by simpa using h), Array.length_toList, ih (k - zs.size) (by rw [Nat.add_mul] at hk; omega)]
          congr 1
          rw [← Nat.mod_eq_sub_mod h]
    rw [this n k hk]
    simp [hk']
  · rw [List.getElem?_eq_none (by simpa using hk), List.getElem?_eq_none (by simpa using hk)]

theorem mkSlice_ok {t : TypeId} {n : Nat} (hS : Sim M ι g w) {vs : List (Nat × AV)} {qs : Array (Nat × Value)} {b : Blk} (h : mkSlice P g t n vs = some b) (hl : vs.length = qs.toList.length)
    (hp : ∀ (i : Nat) p q, vs[i]? = some p → qs.toList[i]? = some q → p.1 = q.1 ∧ VR M ι p.2 q.2) :
    b.arr = true ∧ b.frz = false ∧ b.es.length = n ∧ ∃ e arr, (Instr.buildSlice t n qs).run P w = .ok (.slice (some ⟨w.heap.size, 0, none⟩) n n) (w.alloc (.cells arr e)) ∧ arr.size = n * b.esz ∧
      Row (addM M ι g w (refsAll g (vs.map (·.2)))) b.esz b.es arr.toList := by
  unfold mkSlice at h
  split at h
  · cases h
  · rename_i e he
    split at h
    · rename_i ws z s hws hz hs
      obtain ⟨hc, h⟩ := Option.ite_none_right_eq_some.1 h
      obtain ⟨h0, h1, h2, h3, h4⟩ := hc
      simp only [Option.map_eq_some_iff] at h
      obtain ⟨es, hes, rfl⟩ := h
      obtain ⟨it, u, hit, hiz, hu⟩ := tzero_info hz
      obtain ⟨ie, hie, hsz⟩ := tsize_info hs
      rw [hit] at hie; cases hie
      have hzv := ofValue_ok (M := addM M ι g w (refsAll g (vs.map (·.2)))) (ι := noMap) hu
      have huz : u.cells.size = s := by have := hzv.cells.1; simp at this; omega
      have hrow0 := Row.replicate hzv h2 h3 n
      obtain ⟨h5, h6⟩ := viewParts_ok hS hws hl hp
      have hrow1 : Row (addM M ι g w (refsAll g (vs.map (·.2)))) s (List.replicate n z) ((Array.range (n * s)).map (u.cells[· % u.cells.size]!)).toList := by
        have := flatten_mod (zs := u.cells) (n := n) (by omega)
        rw [huz] at this
        rw [huz, this]
        exact hrow0
      obtain ⟨h7, us', h8, h9⟩ := fillSlice_ok ws qs.toList (List.replicate n z) es _ hes hrow1 h5 h6 (by
        intro p hp'
        simp only [List.all_eq_true, Bool.and_eq_true, decide_eq_true_eq] at h4
        exact ⟨(h4 p hp').1, by simp only [List.all_eq_true]; exact (h4 p hp').2⟩)
      refine ⟨rfl, rfl, by simpa using h7, e, us', ?_, ?_, h9⟩
      · have hle : ¬ 16777216 < n * s := by omega
        have hfill : Instr.fill (fun i => some (i * s, s)) ((Array.range (n * s)).map ((if n * s = 0 then #[] else u.cells)[· % (if n * s = 0 then #[] else u.cells).size]!)) qs.toList = some us' := by
          rw [← h8]
          congr 1
          by_cases h : n * s = 0
          · simp [h]
          · rw [if_neg h]
        simp only [Instr.buildSlice, Sem.run_bind, run_und (telem_ok he), Result.andThen_ok, run_sizeOf hs, gt_iff_lt]
        rw [if_neg hle]
        by_cases h0' : n * s = 0
        · rw [if_pos h0'] at hfill ⊢
          simp only [pure_bind]
          rw [hfill]
          simp [newRow]
        · rw [if_neg h0'] at hfill ⊢
          simp only [Sem.run_bind, zeroValue, typeInfo, hit, hiz, run_program, Result.andThen_ok, Sem.run_pure, hfill]
          simp [newRow]
      · rw [← Array.length_toList, h9.len, h7]
        simp
    · cases h

theorem mkSlice_pos {P : Program} {g : Get} {t : TypeId} {n : Nat} {vs : List (Nat × AV)} {b : Blk} (h : mkSlice P g t n vs = some b) : 0 < b.esz := by
  unfold mkSlice at h
  split at h
  · cases h
  · split at h
    · obtain ⟨hc, h⟩ := Option.ite_none_right_eq_some.1 h
      obtain ⟨_, _, rfl⟩ := Option.map_eq_some_iff.1 h
      exact hc.1
    · cases h

theorem qBuildSlice_ok (hS : Sim M ι g w) (hr : r.k = 0) (hq : ι r = none) {draw : Bool} {t : TypeId} {n : Nat} {vs : List (Nat × AV)} {qs : Array (Nat × Value)} {x : AV} {bs : List Blk}
    (h : qBuildSlice P draw g r t n (some vs) = some (x, bs)) (hl : vs.length = qs.toList.length)
    (hp : ∀ (i : Nat) p q, vs[i]? = some p → qs.toList[i]? = some q → p.1 = q.1 ∧ VR M ι p.2 q.2) :
    ∃ u w', (Instr.buildSlice t n qs).run P w = .ok u w' ∧ QOut M ι g w r x bs u w' := by
  simp only [qBuildSlice] at h
  obtain ⟨hfr, h⟩ := Option.ite_none_right_eq_some.1 h
  simp only [Option.map_eq_some_iff] at h
  obtain ⟨b, hb, h⟩ := h
  obtain ⟨h1, h2, h3, e, arr, h4, h5, h6⟩ := mkSlice_ok hS hb hl hp
  have hfz := frzG_all hfr
  obtain ⟨hS', _⟩ := frz_ok (R := refsAll g (vs.map (·.2))) hS
  rw [hfz] at hS'
  have hgrew : Grew w (w.alloc (.cells arr e)) (.cells arr e (0, 0)) := ⟨rfl, rfl, rfl, rfl⟩
  refine ⟨_, _, h4, QOut.after hfz hS ?_⟩
  have hbb : b = ⟨b.esz, b.es, true, false⟩ := by cases b; simp_all
  cases draw with
  | true =>
    simp at h
    obtain ⟨rfl, rfl⟩ := h
    have := alloc_imm (r := r) hS' hgrew h6 (fun k u hu => by simpa using hu) (c := n) (by omega) (cap := some n) (by intro k hk; cases hk; rfl)
    rw [h3] at this
    exact this
  | false =>
    simp at h
    obtain ⟨rfl, rfl⟩ := h
    have := alloc_row hS' hr hq hgrew h6 (fun k u hu => by simpa using hu) (n := n) (c := n) h5 (by simp) (by omega) (Nat.le_refl _) (cap := some n) (by intro k hk; cases hk; rfl)
    rw [h3, ← hbb] at this
    exact this (mkSlice_pos hb)

end
end Go.Ab
