/-
  Arguments of bounded bulk: what is read holds no slice longer than the bound. No statement of a seat is proved here.
-/
import Derived.Test.YtjampffmlnplcaaAbsRules
import Derived.JoinedCond
set_option linter.unusedVariables false
set_option linter.unusedSimpArgs false
set_option linter.unusedSectionVars false
set_option maxRecDepth 100000

namespace Go.Ab
open Go.ChangeShapes Go.WideShapes Go.RowKit

/-- Data whose slices are no longer than N. -/
inductive Slim (N : Nat) : AV → Prop
  | v (x : Value) : Slim N (.v x)
  | agg (xs : List AV) : (∀ x ∈ xs, Slim N x) → Slim N (.agg xs)
  | isl (z : Nat) (es : List AV) (c : Option Nat) : es.length ≤ N → (∀ x ∈ es, Slim N x) → Slim N (.isl z es c)
theorem slim1 {N : Nat} (y : Value) : ∀ x ∈ [AV.v y], Slim N x := by
  intro x hx
  rw [List.mem_singleton] at hx
  subst hx
  exact .v _
theorem slim_mkEl {N : Nat} {ag : Bool} {xs : List AV} (h : ∀ x ∈ xs, Slim N x) : Slim N (mkEl ag xs) := by
  unfold mkEl
  split
  · exact h _ (by simp)
  · exact .agg _ h
theorem Slim.sl {N z : Nat} {es : List AV} {x : AV} (h : Slim N x) (hx : Sl z es x) : es.length ≤ N ∧ ∀ e ∈ es, Slim N e := by
  rcases hx with ⟨_, rfl⟩ | ⟨c, rfl, _⟩
  · exact ⟨Nat.zero_le _, fun e he => by cases he⟩
  · cases h with
    | isl _ _ _ h1 h2 => exact ⟨h1, h2⟩
theorem Slim.parts {N : Nat} {xs : List AV} (h : Slim N (.agg xs)) : ∀ x ∈ xs, Slim N x := by
  cases h with
  | agg _ h => exact h

section
variable {H : Type} {enc : TypeId × Value → H} {P : Program} {w : World} {base : Nat} {spare : Nat → Bool} {held : Bool} {wt : DataW H → Nat} {N : Nat}

theorem open_cellsU (hs : ∀ es sp, es.length ≤ wt (.slice es sp) ∧ ∀ d ∈ es, wt d ≤ wt (.slice es sp)) (ha : ∀ ps, ∀ d ∈ ps, wt d ≤ wt (.agg ps)) : ∀ (n m : Nat) (t : TypeId) (cs : List Value) (d : DataW H) (ps : List MemPlace), plain P m t = true → DataW.trod enc P w base spare held n t cs = some (d, ps) → wt d ≤ N →
    ∃ xs : List AV, (ShC P m t xs ∧ ∀ x ∈ xs, Slim N x) ∧ VRs (memOf w) noMap xs cs := by
  intro n
  induction n with
  | zero => intro m t cs d ps _ h _; simp [DataW.trod] at h
  | succ n ih =>
    intro m t cs d ps hp h hN
    cases m with
    | zero => simp [plain] at hp
    | succ m =>
    have hp0 := hp
    unfold plain at hp
    unfold ShC
    cases hu : P.underlying t with
    | none => rw [hu] at hp; simp at hp
    | some dd =>
      rw [hu] at hp
      unfold DataW.trod at h
      rw [hu] at h
      have single : ∀ {x : AV} {c : Value}, VR (memOf w) noMap x c → VRs (memOf w) noMap [x] [c] := fun h => VRs.cons h VRs.nil
      cases dd <;> dsimp only at hp ⊢ <;> try (simp at hp; done)
      · -- bool
        rcases cs with _ | ⟨c, _ | ⟨c', cs⟩⟩
        · simp at h
        · cases c <;> first | (simp at h; done) | skip
          rename_i b
          exact ⟨[aB b], ⟨⟨b, rfl⟩, slim1 _⟩, single (.v rfl)⟩
        · simp at h
      · -- int
        rename_i k
        rcases cs with _ | ⟨c, _ | ⟨c', cs⟩⟩
        · simp at h
        · cases c <;> first | (simp at h; done) | skip
          rename_i k' i
          dsimp only at h
          split at h
          · rename_i hk
            obtain ⟨rfl, hw⟩ := hk
            exact ⟨[.v (.int k' i)], ⟨⟨i, by simpa [Lit.wf] using hw, rfl⟩, slim1 _⟩, single (.v rfl)⟩
          · cases h
        · simp at h
      · -- string
        rcases cs with _ | ⟨c, _ | ⟨c', cs⟩⟩
        · simp at h
        · cases c <;> first | (simp at h; done) | skip
          rename_i s
          exact ⟨[aS s], ⟨⟨s, rfl⟩, slim1 _⟩, single (.v rfl)⟩
        · simp at h
      · -- slice
        rename_i e
        simp only [Bool.and_eq_true, beq_iff_eq, decide_eq_true_eq] at hp
        rcases cs with _ | ⟨c, _ | ⟨c', cs⟩⟩
        · simp at h
        · cases c <;> first | (simp at h; done) | skip
          rename_i a len cap
          cases a with
          | none =>
            have hlc : len = 0 ∧ cap = 0 := by
              cases len <;> cases cap <;> simp at h ⊢
            obtain ⟨rfl, rfl⟩ := hlc
            exact ⟨[aNil], ⟨.inl rfl, slim1 _⟩, single (.v rfl)⟩
          | some a =>
            dsimp only at h
            split at h
            · rename_i hb
              simp only [Option.bind_eq_some_iff, Option.map_eq_some_iff] at h
              obtain ⟨elems, hel, rest, _, hd⟩ := h
              have hd1 := (Prod.mk.inj hd).1
              subst hd1
              obtain ⟨w1, w2⟩ := hs (elems.map (·.1)) (rest.map (·.1))
              rw [List.length_map] at w1
              have hlen : elems.length = len := by simpa using mapM_len hel
              -- each element
              have each : ∀ i, i < len → ∃ (xs : List AV) (vs : List Value), (ShC P m e xs ∧ ∀ x ∈ xs, Slim N x) ∧ VRs (memOf w) noMap xs vs ∧ w.cells? base (a.add (i * P.cellsOf e)) (P.cellsOf e) = some vs := by
                intro i hi
                obtain ⟨y, hy, hf⟩ := mapM_at' hel i i (by simp [hi])
                simp only [Option.bind_eq_some_iff] at hf
                obtain ⟨vs, hvs, hf⟩ := hf
                obtain ⟨xs, h1, h2⟩ := ih m e vs y.1 y.2 hp.1.2 hf (Nat.le_trans (w2 _ (List.mem_map_of_mem (List.mem_of_getElem? hy))) hN)
                exact ⟨xs, vs, h1, h2, hvs⟩
              have : ∀ k, k ≤ len → ∃ es : List (List AV), es.length = k ∧ ∀ i xs, es[i]? = some xs → ∃ vs : List Value, (ShC P m e xs ∧ ∀ x ∈ xs, Slim N x) ∧ VRs (memOf w) noMap xs vs ∧ w.cells? base (a.add (i * P.cellsOf e)) (P.cellsOf e) = some vs := by
                intro k
                induction k with
                | zero => intro _; exact ⟨[], rfl, fun i xs h => by simp at h⟩
                | succ k ihk =>
                  intro hk
                  obtain ⟨es, h1, h2⟩ := ihk (by omega)
                  obtain ⟨xs, vs, h3⟩ := each k (by omega)
                  refine ⟨es ++ [xs], by simp [h1], fun i ys hy => ?_⟩
                  rcases Nat.lt_or_ge i k with hi | hi
                  · rw [List.getElem?_append_left (by omega)] at hy
                    exact h2 i ys hy
                  · have : i = k := by
                      have := (List.getElem?_eq_some_iff.1 hy).1
                      simp [h1] at this
                      omega
                    subst this
                    rw [List.getElem?_append_right (by omega)] at hy
                    simp [h1] at hy
                    subst hy
                    exact ⟨vs, h3⟩
              obtain ⟨es, hes, heach⟩ := this len (Nat.le_refl _)
              have hx1 : ∀ xs ∈ es, (mkEl ((tagg P e).getD false) xs).cells = xs ∧ xs.length = P.cellsOf e := by
                intro xs hxs
                obtain ⟨i, hi, rfl⟩ := List.getElem_of_mem hxs
                obtain ⟨vs, h1, h2, h3⟩ := heach i es[i] (List.getElem?_eq_getElem hi)
                obtain ⟨h4, h5⟩ := h1.1.facts m e _ hp.1.2
                exact ⟨mkEl_cells h5, h4⟩
              refine ⟨[.isl (P.cellsOf e) (es.map (mkEl ((tagg P e).getD false))) none], ⟨.inr ⟨es, rfl, fun xs hxs => ?_⟩, ?_⟩, single ?_⟩
              · obtain ⟨i, hi, rfl⟩ := List.getElem_of_mem hxs
                obtain ⟨vs, h1, _⟩ := heach i es[i] (List.getElem?_eq_getElem hi)
                exact h1.1
              · intro x hx
                rw [List.mem_singleton] at hx
                subst hx
                refine .isl _ _ _ (by rw [List.length_map]; omega) fun y hy => ?_
                obtain ⟨xs, hxs, rfl⟩ := List.mem_map.1 hy
                obtain ⟨i, hi, rfl⟩ := List.getElem_of_mem hxs
                obtain ⟨vs, h1, _⟩ := heach i es[i] (List.getElem?_eq_getElem hi)
                exact slim_mkEl h1.2
              · have hlm : (es.map (mkEl ((tagg P e).getD false))).length = len := by simp [hes]
                have hcell : ∀ i j, i < len → j < P.cellsOf e → ∃ xs vs, es[i]? = some xs ∧ VRs (memOf w) noMap xs vs ∧ (∀ x ∈ xs, x.one = true) ∧ xs.length = P.cellsOf e ∧ memOf w a.block (a.off + (i * P.cellsOf e + j)) = vs[j]? ∧ (a.spot = none) := by
                  intro i j hi hj
                  have hi' : i < es.length := by omega
                  obtain ⟨vs, h1, h2, h3⟩ := heach i es[i] (List.getElem?_eq_getElem hi')
                  obtain ⟨h4, h5⟩ := h1.1.facts m e _ hp.1.2
                  obtain ⟨hb', hvl, hc⟩ := World.cells?_some h3
                  have hj' := hc j hj
                  have hsp : a.spot = none := by
                    -- the very first cell
                    obtain ⟨vs0, g1, g2, g3⟩ := heach 0 es[0] (List.getElem?_eq_getElem (by omega))
                    obtain ⟨_, hvl0, hc0⟩ := World.cells?_some g3
                    have := hc0 0 hp.2
                    rw [Nat.zero_mul] at this
                    have ha0 : (a.add 0).add 0 = a := by simp [Addr.add]
                    rw [ha0] at this
                    unfold World.cell? at this
                    cases hs : a.spot with
                    | none => rfl
                    | some z =>
                      exfalso
                      have hl0 : 0 < vs0.length := by omega
                      rw [List.getElem?_eq_getElem hl0] at this
                      split at this
                      · rw [hs] at this; simp at this
                      · simp at this
                  refine ⟨es[i], vs, List.getElem?_eq_getElem hi', h2, h5, h4, ?_, hsp⟩
                  rw [← hj']
                  unfold memOf
                  congr 1
                  rw [addr_eta hsp, add_none, add_none, Nat.add_assoc]
                have := VR.isl (M := memOf w) (ι := noMap) (esz := P.cellsOf e) (es := es.map (mkEl ((tagg P e).getD false))) (cap := none) (a := a) (c := cap)
                  (fun i j => (memOf w a.block (a.off + (i * P.cellsOf e + j))).getD Go.undef) ?_ (by rw [hlm]; exact hb.2.1) (fun k hk => by cases hk) ?_ ?_ ?_
                · rw [hlm] at this; exact this
                · rcases Nat.eq_zero_or_pos len with h0 | h0
                  · right
                    have : es = [] := by apply List.eq_nil_of_length_eq_zero; omega
                    simp [this]
                  · left
                    obtain ⟨_, _, _, _, _, _, _, hs⟩ := hcell 0 0 h0 hp.2
                    exact hs
                · intro i j hi hj
                  rw [hlm] at hi
                  obtain ⟨xs, vs, h1, h2, h3, h4, h5, _⟩ := hcell i j hi hj
                  have hjv : j < vs.length := by rw [← h2.1, h4]; exact hj
                  have hjx : j < xs.length := by rw [h4]; exact hj
                  rw [h5, List.getElem?_eq_getElem hjv]
                  refine ⟨rfl, ?_⟩
                  have := h2.2 j xs[j] vs[j] (List.getElem?_eq_getElem hjx) (List.getElem?_eq_getElem hjv)
                  exact this.one (h3 _ (List.getElem_mem ..))
                · intro x hx
                  obtain ⟨xs, hxs, rfl⟩ := List.mem_map.1 hx
                  rw [(hx1 xs hxs).1]
                  exact (hx1 xs hxs).2
                · intro i j x c hx hc
                  rw [List.getElem?_map, Option.map_eq_some_iff] at hx
                  obtain ⟨xs, hxs, rfl⟩ := hx
                  have hmem : xs ∈ es := List.mem_of_getElem? hxs
                  rw [(hx1 xs hmem).1] at hc
                  have hi : i < len := by have := (List.getElem?_eq_some_iff.1 hxs).1; omega
                  have hj : j < P.cellsOf e := by have := (List.getElem?_eq_some_iff.1 hc).1; rw [(hx1 xs hmem).2] at this; exact this
                  obtain ⟨xs', vs, h1, h2, h3, h4, h5, _⟩ := hcell i j hi hj
                  rw [hxs] at h1
                  cases h1
                  have hjv : j < vs.length := by rw [← h2.1, h4]; exact hj
                  show VR _ _ c ((memOf w a.block (a.off + (i * P.cellsOf e + j))).getD Go.undef)
                  rw [h5, List.getElem?_eq_getElem hjv]
                  exact h2.2 j c vs[j] hc (List.getElem?_eq_getElem hjv)
            · cases h
        · simp at h
      · -- array
        rename_i k e
        simp only [Bool.and_eq_true, beq_iff_eq] at hp
        have h : cs.length = P.cellsOf t ∧ ∃ xs, ((List.range k).mapM fun i => DataW.trod enc P w base spare held n e ((cs.drop (i * P.cellsOf e)).take (P.cellsOf e))) = some xs ∧ d = .agg (xs.map (·.1)) := by
          dsimp only at h
          split at h
          · rename_i hl
            simp only [Option.map_eq_some_iff] at h
            obtain ⟨xs, hxs, hd⟩ := h
            exact ⟨hl, xs, hxs, (Prod.mk.inj hd).1.symm⟩
          · cases h
        obtain ⟨hl, ys, hys, hd⟩ := h
        subst hd
        have hwy : ∀ y ∈ ys, wt y.1 ≤ N := fun y hy => Nat.le_trans (ha _ _ (List.mem_map_of_mem hy)) hN
        rw [hp.2] at hl
        have : ∀ (k' i0 : Nat), i0 + k' = k → ∃ xs, (ShRep (ShC P m e) k' xs ∧ ∀ x ∈ xs, Slim N x) ∧ VRs (memOf w) noMap xs (cs.drop (i0 * P.cellsOf e)) := by
          intro k'
          induction k' with
          | zero =>
            intro i0 hi
            refine ⟨[], ⟨rfl, fun x hx => by cases hx⟩, ?_⟩
            rw [List.drop_of_length_le (by rw [hl, ← hi]; simp)]
            exact VRs.nil
          | succ k' ihk =>
            intro i0 hi
            obtain ⟨b, hb1, hb2⟩ := ihk (i0 + 1) (by omega)
            obtain ⟨y, hym, hf⟩ := mapM_at' hys i0 i0 (by rw [List.getElem?_range (by omega)])
            obtain ⟨a, ha1, ha2⟩ := ih m e _ y.1 y.2 hp.1 hf (hwy _ (List.mem_of_getElem? hym))
            refine ⟨a ++ b, ⟨⟨a, b, rfl, ha1.1, hb1.1⟩, fun x hx => (List.mem_append.1 hx).elim (ha1.2 x) (hb1.2 x)⟩, ?_⟩
            have : cs.drop (i0 * P.cellsOf e) = (cs.drop (i0 * P.cellsOf e)).take (P.cellsOf e) ++ cs.drop ((i0 + 1) * P.cellsOf e) := by
              rw [Nat.succ_mul, ← List.drop_drop, List.take_append_drop]
            rw [this]
            exact ha2.append hb2
        obtain ⟨xs, h1, h2⟩ := this k 0 (by omega)
        exact ⟨xs, h1, by simpa using h2⟩
      · -- struct
        rename_i fs
        simp only [Bool.and_eq_true, beq_iff_eq, List.all_eq_true] at hp
        have h : cs.length = P.cellsOf t ∧ ∃ xs, (fs.toList.mapM fun f => DataW.trod enc P w base spare held n f.type ((cs.drop f.offset).take (P.cellsOf f.type))) = some xs ∧ d = .agg (xs.map (·.1)) := by
          dsimp only at h
          split at h
          · rename_i hl
            simp only [Option.map_eq_some_iff] at h
            obtain ⟨xs, hxs, hd⟩ := h
            exact ⟨hl, xs, hxs, (Prod.mk.inj hd).1.symm⟩
          · cases h
        obtain ⟨hl, ys, hys, hd⟩ := h
        subst hd
        have hwy : ∀ y ∈ ys, wt y.1 ≤ N := fun y hy => Nat.le_trans (ha _ _ (List.mem_map_of_mem hy)) hN
        have : ∀ (l : List Field) (o : Nat), (∀ f ∈ l, plain P m f.type = true) → (∀ f ∈ l, ∃ y, wt y.1 ≤ N ∧ DataW.trod enc P w base spare held n f.type ((cs.drop f.offset).take (P.cellsOf f.type)) = some y) → layout P l o = some cs.length →
            ∃ xs, (ShFs (ShC P m) l xs ∧ ∀ x ∈ xs, Slim N x) ∧ VRs (memOf w) noMap xs (cs.drop o) := by
          intro l
          induction l with
          | nil =>
            intro o _ _ hlay
            simp [layout] at hlay
            refine ⟨[], ⟨rfl, fun x hx => by cases hx⟩, ?_⟩
            rw [List.drop_of_length_le (by omega)]
            exact VRs.nil
          | cons f l ihl =>
            intro o hpl htr hlay
            unfold layout at hlay
            split at hlay
            · rename_i ho
              obtain ⟨b, hb1, hb2⟩ := ihl (o + P.cellsOf f.type) (fun f hf => hpl f (List.mem_cons_of_mem _ hf)) (fun f hf => htr f (List.mem_cons_of_mem _ hf)) hlay
              obtain ⟨y, hyw, hf⟩ := htr f (List.mem_cons_self ..)
              obtain ⟨a, ha1, ha2⟩ := ih m f.type _ y.1 y.2 (hpl f (List.mem_cons_self ..)) hf hyw
              rw [ho] at ha2
              refine ⟨a ++ b, ⟨⟨a, b, rfl, ha1.1, hb1.1⟩, fun x hx => (List.mem_append.1 hx).elim (ha1.2 x) (hb1.2 x)⟩, ?_⟩
              have : cs.drop o = (cs.drop o).take (P.cellsOf f.type) ++ cs.drop (o + P.cellsOf f.type) := by
                rw [← List.drop_drop, List.take_append_drop]
              rw [this]
              exact ha2.append hb2
            · cases hlay
        obtain ⟨xs, h1, h2⟩ := this fs.toList 0 hp.1 (fun f hf => by
          obtain ⟨i, hi, rfl⟩ := List.getElem_of_mem hf
          obtain ⟨y, hym, hy⟩ := mapM_at' hys i fs.toList[i] (List.getElem?_eq_getElem hi)
          exact ⟨y, hwy _ (List.mem_of_getElem? hym), hy⟩) (by rw [hl]; exact hp.2)
        exact ⟨xs, h1, by simpa using h2⟩


theorem open_valueU (hs : ∀ es sp, es.length ≤ wt (.slice es sp) ∧ ∀ d ∈ es, wt d ≤ wt (.slice es sp)) (ha : ∀ ps, ∀ d ∈ ps, wt d ≤ wt (.agg ps)) {m : Nat} {t : TypeId} {v : Value} {d : DataW H} {ps : List MemPlace} (hp : plain P m t = true) (hok : Value.okWide P w .any base t v) {base' : Nat} (h : DataW.Trod enc P w base' spare held t v d ps) (hN : wt d ≤ N) :
    ∃ x : AV, (ShV P m t x ∧ Slim N x) ∧ VR (memOf w) noMap x v := by
  obtain ⟨n, hn⟩ := h
  obtain ⟨xs, ⟨h1, hsl⟩, h2⟩ := open_cellsU hs ha n m t v.cells.toList d ps hp hn hN
  unfold ShV
  by_cases hag : tagg P t = some true
  · rw [hag]
    have : ∃ cs, v = .agg cs := by
      unfold tagg at hag
      unfold Value.okWide at hok
      cases hu : P.underlying t with
      | none => rw [hu] at hag; simp at hag
      | some dd => rw [hu] at hag hok; cases dd <;> simp at hag <;> (obtain ⟨cs, rfl, _⟩ := hok; exact ⟨cs, rfl⟩)
    obtain ⟨cs, rfl⟩ := this
    exact ⟨.agg xs, ⟨⟨xs, rfl, h1⟩, .agg _ hsl⟩, VR.agg_iff.2 h2⟩
  · have hv : v.cells = #[v] ∧ ∃ x, xs = [x] := by
      have hf := h1.facts m t xs hp
      cases m with
      | zero => simp [plain] at hp
      | succ m =>
      have hp' := hp
      unfold plain at hp'
      unfold tagg at hag
      unfold Value.okWide at hok
      cases hu : P.underlying t with
      | none => rw [hu] at hp'; simp at hp'
      | some dd =>
        rw [hu] at hp' hag hok
        have fin : P.cellsOf t = 1 → Cell.okWide P w .any base t v → v.cells = #[v] ∧ ∃ x, xs = [x] := by
          intro hc hcell
          refine ⟨?_, ?_⟩
          · cases v <;> try rfl
            exfalso
            unfold Cell.okWide at hcell
            rw [hu] at hcell
            cases dd <;> simp at hp' hag <;> (simp [Cell.ok, hu] at hcell)
          · have := hf.1
            rw [hc] at this
            match xs, this with
            | [x], _ => exact ⟨x, rfl⟩
        cases dd <;> simp at hp' hag
        · exact fin hp' hok
        · exact fin hp' hok
        · exact fin hp' hok
        · exact fin hp'.1.1 hok
    obtain ⟨hv, x, rfl⟩ := hv
    rw [hv] at h2
    refine ⟨x, ⟨?_, hsl x (by simp)⟩, h2.2 0 x v rfl rfl⟩
    split
    · rename_i hh; exact (hag hh).elim
    · exact h1

theorem open_allU (hs : ∀ es sp, es.length ≤ wt (.slice es sp) ∧ ∀ d ∈ es, wt d ≤ wt (.slice es sp)) (ha : ∀ ps, ∀ d ∈ ps, wt d ≤ wt (.agg ps)) {m : Nat} {base' : Nat} : ∀ {ts : List TypeId} {vs : List Value} {ds : List (DataW H)} {ps : List MemPlace}, ts.all (plain P m) = true → (∀ (j : Nat) t v, ts[j]? = some t → vs[j]? = some v → Value.okWide P w .any base t v) →
    DataW.TrodAll enc P w base' spare held ts vs ds ps → (∀ d ∈ ds, wt d ≤ N) → ∃ xs : List AV, (ShVs P m ts xs ∧ ∀ x ∈ xs, Slim N x) ∧ VRs (memOf w) noMap xs vs := by
  intro ts
  induction ts with
  | nil =>
    intro vs ds ps _ _ h _
    obtain ⟨rfl, _, _⟩ := trodAll_nil h
    exact ⟨[], ⟨trivial, fun x hx => by cases hx⟩, VRs.nil⟩
  | cons t ts ih =>
    intro vs ds ps hp hok h hw
    obtain ⟨v, vs', d, ds', p, q, rfl, rfl, rfl, h1, h2⟩ := trodAll_cons h
    simp only [List.all_cons, Bool.and_eq_true] at hp
    obtain ⟨x, hx1, hx2⟩ := open_valueU hs ha hp.1 (hok 0 t v rfl rfl) h1 (hw _ (List.mem_cons_self ..))
    obtain ⟨xs, hs1, hs2⟩ := ih hp.2 (fun j t v h1 h2 => hok (j + 1) t v h1 h2) h2 (fun d hd => hw d (List.mem_cons_of_mem _ hd))
    exact ⟨x :: xs, ⟨⟨hx1.1, hs1.1⟩, fun y hy => (List.mem_cons.1 hy).elim (fun e => by rw [e]; exact hx1.2) (hs1.2 y)⟩, VRs.cons hx2 hs2⟩
end

/-- A law with arguments: its contract. -/
theorem open_contractU {E : Env} {ok : Array Oper → Bool} (hE : E.Ok ok) {T : TypeId → Prop} (K : Kids E.P T) (hz : ∀ t e, T t → E.P.underlying t = some (.slice e) → 0 < E.P.cellsOf e) {H : Type} {enc : TypeId × Value → H} {id : FuncId} {f : Func} {s : ChangeSpec} {apart fresh handsOn again : Bool} {m : Nat}
    (hT : ∀ t ∈ f.params.toList, T t) (hp : f.params.toList.all (plain E.P m) = true) (hv : s.vars = []) (hs : ∀ ds : List (DataW H), ds.length = f.params.toList.length → s.fn H ds = { results := [.lit (.bool true)], args := ds }) (hr : boolRes E.P f = true)
    {wt : DataW H → Nat} {N : Nat} (hsl : ∀ es sp, es.length ≤ wt (.slice es sp) ∧ ∀ d ∈ es, wt d ≤ wt (.slice es sp)) (hag : ∀ ps, ∀ d ∈ ps, wt d ≤ wt (.agg ps))
    (h : ∀ xs, ShVs E.P m f.params.toList xs → (∀ x ∈ xs, Slim N x) → limf E id xs = some (.v (.bool true)))
    (W : World) (base : Nat) (args : Array Value) (ds gs : List (DataW H)) (before : List MemPlace) (hval : ∀ (j : Nat) t v, f.params[j]? = some t → args[j]? = some v → Value.okWide E.P W .any base t v)
    (hW : DataW.Whole enc E.P f.params.toList s.vars apart W args.toList ds gs before) (hN : ∀ d ∈ ds, wt d ≤ N) :
    Calls E.P id args W fun e W' => ∃ v, e = .returned v ∧ s.post enc E.P f apart fresh handsOn again W args v W' := by
  obtain ⟨tb, hr, hb⟩ := boolRes_ok hr
  have hW0 := hW
  obtain ⟨p, q, hA, hV, rfl, hfz, hnd⟩ := hW0
  obtain ⟨xs, hx1, hx2⟩ := open_allU hsl hag hp (fun j t v h1 h2 => hval j t v (by simpa using h1) (by simpa using h2)) hA hN
  obtain ⟨n, hrun⟩ := limf_run (h xs hx1.1 hx1.2)
  have hdl : ds.length = f.params.toList.length := trodAll_len hA
  refine (calls_true hE hrun (us := args.toList) hx2).mono fun e W' ⟨he, hk⟩ => ⟨_, he, ?_⟩
  exact post_true K hz hT hv hW (hs ds hdl) hr hb hk

end Go.Ab
