/-
  The abstract machine against the model's: the theorem. No statement of a seat is proved here.
-/
import Derived.Test.YtjampffmlnplcaaAbsMain
set_option linter.unusedVariables false
set_option linter.unusedSimpArgs false
namespace Go.Ab

theorem nil_get : Heap.get [] = fun _ => none := by funext q; rfl

theorem sim_nil {M : Mem} {w : World} (hm : ∀ b o x, M b o = some x → w.cell? ⟨b, o, none⟩ = some x) : Sim M noMap (Heap.get []) w :=
  ⟨hm, (fun r k h => by rw [nil_get] at h; cases h), (fun r r' k k' l l' h => by rw [nil_get] at h; cases h)⟩

theorem dom_nil : Dom noMap [] := fun q l h => by cases h

/-- From what is left in the callee's heap to what is handed out. -/
theorem pure_end {M : Mem} {w : World} (hm : ∀ b o x, M b o = some x → w.cell? ⟨b, o, none⟩ = some x) {H' : Heap} {v : Value} {w' : World} {M1 : Mem} {ι1 : Map} {x : AV}
    (hv : VR M1 ι1 x v) (hS : Sim M1 ι1 H'.get w') (hF : Fwd M noMap (Heap.get []) w M1 ι1 H'.get w') {R : List Ref} {y : AV}
    (hres : ∀ r : Ref, ∃ ls : List Loc, ls.length = (importA r depth y []).2.length ∧ VR (addM M1 ι1 H'.get w' R) (keyMap r ls) (importA r depth y []).1 v ∧
      (∀ (k : Nat) l b, ls[k]? = some l → (importA r depth y []).2[k]? = some b → BlkOk (addM M1 ι1 H'.get w' R) noMap w' l b ∧ b.arr = true ∧ w.heap.size ≤ l.b) ∧
      ∀ (i j : Nat) l l', ls[i]? = some l → ls[j]? = some l' → l.b = l'.b → i = j) : PureEnd M w y v (addM M1 ι1 H'.get w' R) w' := by
  obtain ⟨hS2, hF2⟩ := frz_ok (R := R) hS
  have hF3 := hF.trans hF2
  refine ⟨hF.os, hF.tape, hF.output, hF.size, fun b hb => hF.chg b hb (fun r k l h => by rw [nil_get] at h; cases h), hF3.mem, addM_sound hS.mem, ?_, hres⟩
  intro b o z hz
  rcases hF3.new b o z hz with h | h | ⟨r0, k0, l0, h, _⟩
  · exact .inl h
  · exact .inr h
  · rw [nil_get] at h; cases h

theorem live_new {M : Mem} {w : World} {H' : Heap} {w' : World} {M1 : Mem} {ι1 : Map} (hF : Fwd M noMap (Heap.get []) w M1 ι1 H'.get w') {r : Ref} {k : Blk} {l : Loc} (h1 : H'.get r = some k) (h2 : ι1 r = some l) : w.heap.size ≤ l.b := by
  rcases hF.live r k l h1 h2 with h | ⟨r0, k0, l0, h, _⟩
  · exact h
  · rw [nil_get] at h; cases h

theorem pureCall_ok {E : Env} {ok : Array Oper → Bool} (hE : E.Ok ok) {n : Nat} (hn : RunOk E ok n) {f : FuncId} {args : List AV} {y : AV} (h : pureCall E (runA E n) f args = some y) : PureOk E.P f args y := by
  unfold pureCall at h
  split at h
  · rename_i s hs
    exact hE.specs f s hs args y h
  · split at h
    · rename_i x H' hc
      obtain ⟨hfn, hcall⟩ := callIn_ok hE hn hc
      refine ⟨hfn, fun M w us hm hvs => ?_⟩
      refine (hcall M noMap w us (sim_nil hm) dom_nil hvs).mono fun e w' ⟨v, he, M1, ι1, hv, hS, hF, hD⟩ => ⟨v, ?_⟩
      split at h
      · obtain ⟨hnd, h⟩ := Option.ite_none_right_eq_some.1 h
        obtain ⟨hnd1, hnd2⟩ := exp_seen_nodup depth x hnd
        refine ⟨_, he, pure_end (R := seenRefs H'.get depth x) hm hv hS hF fun r => ?_⟩
        obtain ⟨new, h1, h2, h3, h4⟩ := export_ok (R := seenRefs H'.get depth x) hS r depth x y v [] h hv (fun q hq => hq)
        rw [List.nil_append] at h1
        let locOf : Ref → Loc := fun q => (ι1 q).getD ⟨0, 0, 0⟩
        refine ⟨(expRefs H'.get depth x).map locOf, by rw [h1]; simp [h2], h4 _ ?_, ?_, ?_⟩
        · intro i q l hq hl
          simp only [List.length_nil, Nat.zero_add, List.getElem?_map, hq, Option.map_some, locOf, hl, Option.getD_some]
        · intro i l b hl hb
          rw [h1] at hb
          simp only [List.getElem?_map, Option.map_eq_some_iff] at hl
          obtain ⟨q, hq, hql⟩ := hl
          obtain ⟨k, len, hk, hfr, harr, rfl⟩ := h3 i q b hq hb
          obtain ⟨l0, hl0, hbk⟩ := hS.live q k hk
          have : l = l0 := by rw [← hql]; simp [locOf, hl0]
          subst this
          refine ⟨?_, rfl, live_new hF hk hl0⟩
          obtain ⟨arr, T, fz, hh, g1, g2, g3⟩ := hbk.heap
          refine ⟨hbk.esz, ⟨arr, T, fz, hh, g1, g2, ?_⟩, by have := hbk.len; simp; omega, fun e he => hbk.cells e (List.mem_of_mem_take he), ?_⟩
          · intro i' j e x' he hx
            simp only at he
            rw [List.getElem?_take] at he
            split at he
            · obtain ⟨u, hu, ho, hvr⟩ := g3 i' j e x' he hx
              rw [Blk.map, if_pos harr] at hvr
              exact ⟨u, hu, ho, by rw [Blk.map, if_pos rfl]; exact hvr.mono addM_le _ (fun _ _ h => h)⟩
            · cases he
          · intro o z hz
            exfalso
            rcases addM_cases hz with h5 | ⟨r', hr', k', l', hg', hl', hb', ho⟩
            · have := (hbk.frozen o z h5).1
              rw [hfr] at this
              cases this
            · have e := hS.inj r' q k' k l' l hg' hk hl' hl0 hb'
              subst e
              exact hnd2 r' (List.mem_of_getElem? hq) hr'
        · intro i j l l' hi hj hb
          simp only [List.getElem?_map, Option.map_eq_some_iff] at hi hj
          obtain ⟨q, hq, hql⟩ := hi
          obtain ⟨q', hq', hql'⟩ := hj
          have hi2 : i < new.length := by rw [h2]; exact (List.getElem?_eq_some_iff.1 hq).1
          have hj2 : j < new.length := by rw [h2]; exact (List.getElem?_eq_some_iff.1 hq').1
          obtain ⟨k, _, hk, _⟩ := h3 i q _ hq (List.getElem?_eq_getElem hi2)
          obtain ⟨k', _, hk', _⟩ := h3 j q' _ hq' (List.getElem?_eq_getElem hj2)
          obtain ⟨l0, hl0, _⟩ := hS.live q k hk
          obtain ⟨l0', hl0', _⟩ := hS.live q' k' hk'
          have e1 : l = l0 := by rw [← hql]; simp [locOf, hl0]
          have e2 : l' = l0' := by rw [← hql']; simp [locOf, hl0']
          subst e1; subst e2
          have e := hS.inj q q' k k' l l' hk hk' hl0 hl0' hb
          subst e
          exact (List.getElem?_inj (List.getElem?_eq_some_iff.1 hq).1 hnd1).1 (by rw [hq, hq'])
      · refine ⟨_, he, pure_end (R := viewRefs H'.get depth x) hm hv hS hF fun r => ?_⟩
        rw [import_view r depth depth x y [] h]
        exact ⟨[], rfl, (view_ok hS depth x y v h (fun q hq => hq) hv).up _, by intro k l b hl; simp at hl, by intro i j l l' hi; simp at hi⟩
    · cases h

theorem thrCall_ok {E : Env} {ok : Array Oper → Bool} (hE : E.Ok ok) {n dep : Nat} (hn : RunOk E ok n) {f : FuncId} {args : List AV} {H H' : Heap} {y : AV} (h : thrCall E (runA E n) dep f args H = some (y, H')) : ThrOk E.P f args H y H' := by
  unfold thrCall at h
  obtain ⟨_, h⟩ := Option.ite_none_right_eq_some.1 h
  exact callIn_ok hE hn h

theorem run_ok {E : Env} {ok : Array Oper → Bool} (hE : E.Ok ok) : ∀ n, RunOk E ok n := by
  intro n
  induction n with
  | zero => intro nt dep items st st' h; simp [runA] at h
  | succ n ih =>
    intro nt dep items st st' h hi M ι a w hO b cs
    have go : ∀ (items' : List Item) (h' : runA E n nt dep items' st = some st'), (∀ i ∈ items', itemOk ok i = true) → Steps E.P (lone (b.at a items) cs w) (lone (b.at a items') cs w) →
        ∃ a' w' todo, StepTo M ι st w nt st' a' w' ∧ Steps E.P (lone (b.at a items) cs w) (lone { b.at a' todo with mode := .returning } cs w') := by
      intro items' h' hi' hs
      obtain ⟨a', w', todo, h1, h2⟩ := ih nt dep items' st st' h' hi' M ι a w hO b cs
      exact ⟨a', w', todo, h1, hs.trans h2⟩
    unfold runA at h
    split at h
    · injection h with h
      subst h
      exact ⟨a, w, [], StepTo.refl hO, .one step_end⟩
    · rename_i c k
      have hc : codeOk ok c = true := hi _ (List.mem_cons_self ..)
      have hk : ∀ i ∈ k, itemOk ok i = true := fun i h => hi i (List.mem_cons_of_mem _ h)
      have two : ∀ {x y : Item}, itemOk ok x = true → itemOk ok y = true → ∀ i ∈ x :: y :: k, itemOk ok i = true := by
        intro x y hx hy i hi'
        rcases List.mem_cons.1 hi' with rfl | hi'
        · exact hx
        · rcases List.mem_cons.1 hi' with rfl | hi'
          · exact hy
          · exact hk i hi'
      have one : ∀ {x : Item}, itemOk ok x = true → ∀ i ∈ x :: k, itemOk ok i = true := by
        intro x hx i hi'
        rcases List.mem_cons.1 hi' with rfl | hi'
        · exact hx
        · exact hk i hi'
      split at h
      · exact go k h hk (.one step_skip)
      · exact go k h hk (.one step_label)
      · injection h with h
        subst h
        exact ⟨a, w, _, StepTo.refl hO, .one step_ret⟩
      · rename_i x y
        simp only [codeOk, Bool.and_eq_true] at hc
        exact go _ h (two hc.1 hc.2) (.one step_seq)
      · rename_i cnd x y
        simp only [codeOk, Bool.and_eq_true] at hc
        split at h
        · rename_i hb
          simp only [Option.bind_eq_some_iff] at hb
          obtain ⟨cv, h1, h2⟩ := hb
          exact go _ h (one hc.1) (.one (step_cond (boolOf_ok (evalO_ok hO.tr h1) h2)))
        · rename_i hb
          simp only [Option.bind_eq_some_iff] at hb
          obtain ⟨cv, h1, h2⟩ := hb
          exact go _ h (one hc.2) (.one (step_cond (boolOf_ok (evalO_ok hO.tr h1) h2)))
        · cases h
      · exact go _ h (two (by simpa [codeOk, itemOk] using hc) rfl) (.one step_block)
      · exact go _ h (two (by simpa [codeOk, itemOk] using hc) rfl) (.one (step_lone_go (by simp [stepG, stepG.exec, Frame.at])))
      · exact go _ h (two (by simpa [codeOk, itemOk] using hc) (by simpa [codeOk, itemOk] using hc)) (.one step_loop)
      · rename_i id
        split at h
        · rename_i k' hk'
          exact go _ h (exitTo_ok hk' hk) (.one (step_exit hk'))
        · cases h
      · rename_i id ops draw
        split at h
        · rename_i st1 hst1
          have hap : draw = true → apartOk E ops st1 = true := by
            intro hd
            cases hb : apartOk E ops st1 with
            | true => rfl
            | false => rw [hd, hb] at h; simp at h
          replace h : runA E n nt dep k st1 = some st' := by
            split at h
            · cases h
            · exact h
          have hpc : ∀ f xs y, pureCall E (runA E n) f xs = some y → PureOk E.P f xs y := fun f xs y h => pureCall_ok hE ih h
          have htc : ∀ f xs H y H', thrCall E (runA E n) dep f xs H = some (y, H') → ThrOk E.P f xs H y H' := fun f xs H y H' h => thrCall_ok hE ih h
          have hwp : (Code.region id ops draw).wp E.P (fun e a' w' => e = .normal ∧ StepTo M ι st w nt st1 a' w') a w := by
            cases draw with
            | false => exact wp_region_list (runOps_ok hpc htc ops.toList st M ι a w hst1 hO fun a' w' hst => ⟨rfl, hst⟩)
            | true => exact hE.draws ops (by simpa [codeOk] using hc) hpc htc nt dep id st st1 M ι a w _ hst1 (hap rfl) hO fun a' w' hst => ⟨rfl, hst⟩
          obtain ⟨a1, w1, ⟨M1, ι1, hO1, hF1⟩, hs⟩ := steps_of_wp hwp b k cs
          obtain ⟨a', w', todo, ⟨M2, ι2, hO2, hF2⟩, h2⟩ := ih nt dep k st1 st' h hk M1 ι1 a1 w1 hO1 b cs
          exact ⟨a', w', todo, ⟨M2, ι2, hO2, hF1.trans hF2⟩, hs.trans h2⟩
        · cases h
      · cases h
    · rename_i c k
      have hc : codeOk ok c = true := hi _ (List.mem_cons_self ..)
      have hk : ∀ i ∈ k, itemOk ok i = true := fun i h => hi i (List.mem_cons_of_mem _ h)
      refine go _ h ?_ (.one step_inLoop)
      intro i hi'
      rcases List.mem_cons.1 hi' with rfl | hi'
      · exact hc
      · rcases List.mem_cons.1 hi' with rfl | hi'
        · exact hc
        · exact hk i hi'
    · rename_i id k
      exact go k h (fun i h => hi i (List.mem_cons_of_mem _ h)) (.one step_inBlock)
    · rename_i id k
      exact go k h (fun i h => hi i (List.mem_cons_of_mem _ h)) (.one (step_lone_go (by simp [stepG, stepG.exec, Frame.at])))
    · cases h

/-- What a run of the abstract machine on data says of the call. -/
theorem call_ok {E : Env} {ok : Array Oper → Bool} (hE : E.Ok ok) {n : Nat} {f : FuncId} {args : List AV} {y : AV} (h : pureCall E (runA E n) f args = some y) : PureOk E.P f args y := pureCall_ok hE (run_ok hE n) h

end Go.Ab
