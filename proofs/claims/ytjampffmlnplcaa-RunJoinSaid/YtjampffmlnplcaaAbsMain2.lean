/-
  The abstract machine against the model's: the theorem. No statement of a seat is proved here.
-/
import Derived.Test.YtjampffmlnplcaaAbsMain
set_option linter.unusedVariables false
set_option linter.unusedSimpArgs false
namespace Go.Ab

theorem nil_get : Heap.get [] = fun _ => none := by funext q; rfl

theorem sim_nil {M : Mem} {w : World} (hm : ∀ b o x, M b o = some x → w.cell? ⟨b, o, none⟩ = some x) : Sim M noMap (Heap.get []) w :=
  ⟨hm, (fun r k h => by rw [nil_get] at h; cases h), (fun r r' k k' l l' h => by rw [nil_get] at h; cases h)⟩

theorem dom_nil : Dom noMap [] := fun q l h => by cases h

/-- From what is left in the callee's heap to what is handed out. -/
theorem pure_end {M : Mem} {w : World} (hm : ∀ b o x, M b o = some x → w.cell? ⟨b, o, none⟩ = some x) {H' : Heap} {v : Value} {w' : World} {M1 : Mem} {ι1 : Map} {x : AV}
    (hv : VR M1 ι1 x v) (hS : Sim M1 ι1 H'.get w') (hF : Fwd M noMap (Heap.get []) w M1 ι1 H'.get w') {R : List Ref} {y : AV}
    (hres : ∀ r : Ref, ∃ ls : List Loc, ls.length = (importA r depth y []).2.length ∧ VR (addM M1 ι1 H'.get w' R) (keyMap r ls) (importA r depth y []).1 v ∧
      (∀ (k : Nat) l b, ls[k]? = some l → (importA r depth y []).2[k]? = some b → BlkOk (addM M1 ι1 H'.get w' R) noMap w' l b ∧ w.heap.size ≤ l.b) ∧
      ∀ (i j : Nat) l l', ls[i]? = some l → ls[j]? = some l' → l.b = l'.b → i = j) : PureEnd M w y v (addM M1 ι1 H'.get w' R) w' := by
  obtain ⟨hS2, hF2⟩ := frz_ok (R := R) hS
  have hF3 := hF.trans hF2
  refine ⟨hF.os, hF.tape, hF.output, hF.size, fun b hb => hF.chg b hb (fun r k l h => by rw [nil_get] at h; cases h), hF3.mem, addM_sound hS.mem, ?_, hres⟩
  intro b o z hz
  rcases hF3.new b o z hz with h | h | ⟨r0, k0, l0, h, _⟩
  · exact .inl h
  · exact .inr h
  · rw [nil_get] at h; cases h

theorem live_new {M : Mem} {w : World} {H' : Heap} {w' : World} {M1 : Mem} {ι1 : Map} (hF : Fwd M noMap (Heap.get []) w M1 ι1 H'.get w') {r : Ref} {k : Blk} {l : Loc} (h1 : H'.get r = some k) (h2 : ι1 r = some l) : w.heap.size ≤ l.b := by
  rcases hF.live r k l h1 h2 with h | ⟨r0, k0, l0, h, _⟩
  · exact h
  · rw [nil_get] at h; cases h

theorem Out.live {g : Get} {q : Ref} {b : Blk} (h : Out g q b) : ∃ k, g q = some k := by
  rcases h with ⟨k, _, hk, _⟩ | ⟨k, _, hk, _⟩ <;> exact ⟨k, hk⟩

theorem flat_mono : ∀ (n : Nat) (x : AV), flat n x = true → flat (n + 1) x = true := by
  intro n
  induction n with
  | zero => intro x h; simp [flat] at h
  | succ n ih =>
    intro x h
    cases x with
    | v x => rfl
    | agg cs => simp only [flat, List.all_eq_true] at h ⊢; exact fun c hc => by have := ih c (h c hc); simpa [flat] using this
    | tup cs => simp only [flat, List.all_eq_true] at h ⊢; exact fun c hc => by have := ih c (h c hc); simpa [flat] using this
    | ifc t x => have := ih x (by simpa [flat] using h); simpa [flat] using this
    | fn f a b =>
      simp only [flat, Bool.and_eq_true, List.all_eq_true] at h ⊢
      exact ⟨fun c hc => by have := ih c (h.1 c hc); simpa [flat] using this, fun c hc => by have := ih c (h.2 c hc); simpa [flat] using this⟩
    | _ => simp [flat] at h

theorem flat_tup {cs : List AV} (h : flat depth (.tup cs) = true) {c : AV} (hc : c ∈ cs) : flat depth c = true := by
  have h0 : depth = (depth - 1) + 1 := rfl
  rw [h0] at h ⊢
  simp only [flat, List.all_eq_true] at h
  exact flat_mono _ c (h c hc)

theorem pureCall_ok {E : Env} {ok : Array Oper → Bool} (hE : E.Ok ok) {n : Nat} (hn : RunOk E ok n) {f : FuncId} {args : List AV} {y : AV} (h : pureCall E (runA E n) f args = some y) : PureOk E.P f args y := by
  unfold pureCall at h
  split at h
  · rename_i s hs
    cases h
    exact hE.specs f args y hs
  · split at h
    · rename_i x H' hc
      obtain ⟨hfn, hcall⟩ := callIn_ok hE hn hc
      refine ⟨hfn, fun M w us hm hvs => ?_⟩
      refine (hcall M noMap w us (sim_nil hm) dom_nil hvs).mono fun e w' ⟨v, he, M1, ι1, hv, hS, hF, hD⟩ => ⟨v, ?_⟩
      split at h
      · obtain ⟨hnd, h⟩ := Option.ite_none_right_eq_some.1 h
        obtain ⟨hnd1, hnd2⟩ := exp_seen_nodup depth x hnd
        refine ⟨_, he, pure_end (R := seenRefs H'.get depth x) hm hv hS hF fun r => ?_⟩
        obtain ⟨new, h1, h2, h3, h4⟩ := export_ok (R := seenRefs H'.get depth x) hS r depth x y v [] h hv (fun q hq => hq)
        rw [List.nil_append] at h1
        let locOf : Ref → Loc := fun q => (ι1 q).getD ⟨0, 0, 0⟩
        refine ⟨(expRefs H'.get depth x).map locOf, by rw [h1]; simp [h2], h4 _ ?_, ?_, ?_⟩
        · intro i q l hq hl
          simp only [List.length_nil, Nat.zero_add, List.getElem?_map, hq, Option.map_some, locOf, hl, Option.getD_some]
        · intro i l b hl hb
          rw [h1] at hb
          simp only [List.getElem?_map, Option.map_eq_some_iff] at hl
          obtain ⟨q, hq, hql⟩ := hl
          rcases h3 i q b hq hb with ⟨k, len, hk, hfr, harr, rfl⟩ | ⟨k, ents, hk, hmap, hfl, rfl⟩
          rotate_left
          · obtain ⟨l0, hl0, hbk⟩ := hS.live q k hk
            have : l = l0 := by rw [← hql]; simp [locOf, hl0]
            subst this
            have hz : l.esz = 0 := by
              obtain ⟨k1, hk1, hz1, _⟩ := mapAt_blk hmap
              rw [hk] at hk1; cases hk1
              rw [hbk.esz]; exact hz1
            obtain ⟨a, f, entries, hg, hh, hsz, hent, _⟩ := map_blk hS hmap hl0 hz
            refine ⟨ObjOk.blk (.inr ⟨ents, entries, rfl, rfl, rfl, hh, hsz, fun i' ent e he he' => ?_⟩) hz (fun o z hx => ?_), live_new hF hk hl0⟩
            · obtain ⟨ka, va, e1, e2, e3⟩ := hent i' ent e he he'
              subst e1
              refine ⟨ka, va, rfl, e2, flat_ok depth va _ ?_ e3.1, e3.2⟩
              have := hfl _ (List.mem_of_getElem? he)
              exact flat_tup this (by simp)
            · have := (frz_ok (R := seenRefs H'.get depth x) hS).1.mem _ _ _ hx
              simp [World.cell?, hh] at this
          obtain ⟨l0, hl0, hbk⟩ := hS.live q k hk
          have : l = l0 := by rw [← hql]; simp [locOf, hl0]
          subst this
          refine ⟨?_, live_new hF hk hl0⟩
          have hkz := hbk.pos harr
          replace hbk := hbk.cellsOk hkz
          obtain ⟨arr, T, fz, hh, g1, g2, g3⟩ := hbk.heap
          refine CellsOk.blk (k := ⟨k.esz, k.es.take len, true, false⟩) ⟨hbk.esz, ⟨arr, T, fz, hh, g1, g2, ?_⟩, by have := hbk.len; simp; omega, fun e he => hbk.cells e (List.mem_of_mem_take he), ?_⟩ hkz
          · intro i' j e x' he hx
            simp only at he
            rw [List.getElem?_take] at he
            split at he
            · obtain ⟨u, hu, ho, hvr⟩ := g3 i' j e x' he hx
              rw [Blk.map, if_pos harr] at hvr
              exact ⟨u, hu, ho, by rw [Blk.map, if_pos rfl]; exact hvr.mono addM_le _ (fun _ _ h => h)⟩
            · cases he
          · intro o z hz
            exfalso
            rcases addM_cases hz with h5 | ⟨r', hr', k', l', hg', hl', hb', ho⟩
            · have := (hbk.frozen o z h5).1
              rw [hfr] at this
              cases this
            · have e := hS.inj r' q k' k l' l hg' hk hl' hl0 hb'
              subst e
              exact hnd2 r' (List.mem_of_getElem? hq) hr'
        · intro i j l l' hi hj hb
          simp only [List.getElem?_map, Option.map_eq_some_iff] at hi hj
          obtain ⟨q, hq, hql⟩ := hi
          obtain ⟨q', hq', hql'⟩ := hj
          have hi2 : i < new.length := by rw [h2]; exact (List.getElem?_eq_some_iff.1 hq).1
          have hj2 : j < new.length := by rw [h2]; exact (List.getElem?_eq_some_iff.1 hq').1
          obtain ⟨k, hk⟩ := (h3 i q _ hq (List.getElem?_eq_getElem hi2)).live
          obtain ⟨k', hk'⟩ := (h3 j q' _ hq' (List.getElem?_eq_getElem hj2)).live
          obtain ⟨l0, hl0, _⟩ := hS.live q k hk
          obtain ⟨l0', hl0', _⟩ := hS.live q' k' hk'
          have e1 : l = l0 := by rw [← hql]; simp [locOf, hl0]
          have e2 : l' = l0' := by rw [← hql']; simp [locOf, hl0']
          subst e1; subst e2
          have e := hS.inj q q' k k' l l' hk hk' hl0 hl0' hb
          subst e
          exact (List.getElem?_inj (List.getElem?_eq_some_iff.1 hq).1 hnd1).1 (by rw [hq, hq'])
      · refine ⟨_, he, pure_end (R := viewRefs H'.get depth x) hm hv hS hF fun r => ?_⟩
        rw [import_view r depth depth x y [] h]
        exact ⟨[], rfl, (view_ok hS depth x y v h (fun q hq => hq) hv).up _, by intro k l b hl; simp at hl, by intro i j l l' hi; simp at hi⟩
    · cases h

theorem setAll_len : ∀ (ps : List Tmp) (xs : List AV) (tm : List AV) (us : List Value) (tmps : Array Value), ((ps.zip us).foldl (fun tmps (p : Tmp × Value) => tmps.setIfInBounds p.1 p.2) tmps).size = tmps.size := by
  intro ps
  induction ps with
  | nil => intro xs tm us tmps; rfl
  | cons p ps ih =>
    intro xs tm us tmps
    cases us with
    | nil => rfl
    | cons u us => simp only [List.zip_cons_cons, List.foldl_cons]; rw [ih [] [] us]; simp

theorem setAll_ok {M : Mem} {ι : Map} {nt : Nat} : ∀ (ps : List Tmp) (xs : List AV) (us : List Value) (tm : List AV) (tmps : Array Value), xs.length = ps.length → VRs M ι xs us → (∀ p ∈ ps, p < nt) → tmps.size = nt → (∀ t, VR M ι (tget tm t) (tmps.getD t undef)) →
    ∀ t, VR M ι (tget (setAll tm ps xs) t) (((ps.zip us).foldl (fun tmps (p : Tmp × Value) => tmps.setIfInBounds p.1 p.2) tmps).getD t undef) := by
  intro ps
  induction ps with
  | nil => intro xs us tm tmps hl hv hp hn h t; cases xs <;> exact h t
  | cons p ps ih =>
    intro xs us tm tmps hl hv hp hn h t
    cases xs with
    | nil => simp at hl
    | cons x xs =>
      cases us with
      | nil => have := hv.1; simp at this
      | cons u us =>
        simp only [List.zip_cons_cons, List.foldl_cons, setAll]
        refine ih xs us _ _ (by simpa using hl) ⟨by have := hv.1; simpa using this, fun i y v hy hv' => hv.2 (i + 1) y v (by simpa using hy) (by simpa using hv')⟩ (fun q hq => hp q (List.mem_cons_of_mem _ hq)) (by simpa using hn) ?_ t
        intro t'
        have hpn := hp p (List.mem_cons_self ..)
        rw [tget_tset, Array.getD_eq_getD_getElem?]
        by_cases htp : t' = p
        · subst htp
          rw [if_pos rfl, Array.getElem?_setIfInBounds_self_of_lt (by rw [hn]; exact hpn)]
          exact hv.2 0 x u rfl rfl
        · rw [if_neg htp, Array.getElem?_setIfInBounds_ne (Ne.symm htp), ← Array.getD_eq_getD_getElem?]
          exact h t'

theorem zip_foldl (ps : Array Tmp) (us : Array Value) (tmps : Array Value) : (ps.zip us).foldl (fun tmps (t, a) => tmps.setIfInBounds t a) tmps = (ps.toList.zip us.toList).foldl (fun tmps (p : Tmp × Value) => tmps.setIfInBounds p.1 p.2) tmps := by
  rw [← Array.foldl_toList, Array.toList_zip]

/-- A round of a loop. -/
theorem roundIn_ok {E : Env} {ok : Array Oper → Bool} (hE : E.Ok ok) {n dep : Nat} (hn : RunOk E ok n) {r : Ref} {args : List AV} {H H' : Heap} {y : AV} (h : roundIn E (runA E n) dep r args H = some (y, H')) : ThrOk E.P (.yld r) args H y H' := by
  unfold roundIn at h
  split at h
  · rename_i f nt ps assign body tm hlp
    obtain ⟨⟨hl, hps, hok1, hok2⟩, h⟩ := Option.ite_none_right_eq_some.1 h
    split at h
    · rename_i st hst
      intro M ι w us l hS hD hvs hr
      obtain ⟨nt', ps', as', bd', tm', lr, e, g1, g2, g3, g4, g5, g6, g7, _, _⟩ := loop_turn hS hD hr hlp
      cases e
      have hsz : us.toArray.size = lr.params.size := by rw [g2]; simp; rw [← hl]; exact hvs.1.symm
      refine ⟨_, _, _, _, run_yield g1 hsz, trivial, fun c cs _ => ?_⟩
      let b : Frame := { (default : Frame) with fn := lr.fn, kind := .normal, roundOf := some l.b }
      have hround : ∀ tmps, Frame.round l.b lr.fn tmps lr.assign lr.body .normal = b.atR { tmps := tmps, defers := [] } [.code assign, .beginRound, .code body] := by
        intro tmps
        simp [Frame.round, Frame.atR, b, g3, g4]
      rw [hround]
      have hO : StOk M ι ⟨setAll tm ps args, H⟩ nt { tmps := (lr.params.zip us.toArray).foldl (fun tmps (t, a) => tmps.setIfInBounds t a) lr.tmps, defers := [] } w := by
        refine ⟨hS, hD, ⟨?_⟩, ?_⟩
        · intro t
          show VR M ι _ (((lr.params.zip us.toArray).foldl (fun tmps (t, a) => tmps.setIfInBounds t a) lr.tmps).getD t undef)
          rw [zip_foldl, g2]
          exact setAll_ok ps args us tm lr.tmps hl hvs (fun p hp => by have := List.all_eq_true.1 hps p hp; simpa using this) g5 g6 t
        · show ((lr.params.zip us.toArray).foldl (fun tmps (t, a) => tmps.setIfInBounds t a) lr.tmps).size = nt
          rw [zip_foldl, setAll_len _ [] []]
          exact g5
      have hE' := hE.same
      obtain ⟨m, inf, w', h1, h2, ⟨M', ι', h3, h4, h5⟩, h6⟩ := hn (some r) nt dep _ _ st hst (by
        intro i hi
        simp only [List.mem_cons, List.not_mem_nil, or_false] at hi
        rcases hi with rfl | rfl | rfl
        · rw [← hE']; exact hok1
        · rfl
        · rw [← hE']; exact hok2) M ι _ w hO b (c :: cs) l c cs hr rfl rfl rfl
      rw [h1] at h
      have hst' : Comes E.P (lone (b.atR { tmps := (lr.params.zip us.toArray).foldl (fun tmps (t, a) => tmps.setIfInBounds t a) lr.tmps, defers := [] } [.code assign, .beginRound, .code body]) (c :: cs) w) (lone (c.finish (.bool (m == 0))) cs w') (.returned (.bool (m == 0))) := h6
      have hyH : y = .v (.bool (m == 0)) ∧ H' = st.hp := by
        rcases m with _ | _ | m
        · simp only [Option.some.injEq, Prod.mk.injEq] at h; exact ⟨h.1.symm, h.2.symm⟩
        · exact absurd rfl h2
        · simp only [Option.some.injEq, Prod.mk.injEq] at h; exact ⟨h.1.symm, h.2.symm⟩
      obtain ⟨rfl, rfl⟩ := hyH
      exact ⟨.returned (.bool (m == 0)), w', ⟨_, rfl, M', ι', .v rfl, h3, h4, h5⟩, comesIn_wide.2 hst'⟩
    · cases h
  · cases h

theorem thrCall_ok {E : Env} {ok : Array Oper → Bool} (hE : E.Ok ok) {n dep : Nat} (hn : RunOk E ok n) {t : Tgt} {args : List AV} {H H' : Heap} {y : AV} (h : thrCall E (runA E n) dep t args H = some (y, H')) : ThrOk E.P t args H y H' := by
  unfold thrCall at h
  cases t with
  | fn f =>
    obtain ⟨_, h⟩ := Option.ite_none_right_eq_some.1 h
    exact callIn_ok hE hn h
  | yld r => exact roundIn_ok hE hn h

theorem exitTo_plain' {id : Nat} {k : List Item} : exitTo id k = exitTo id k := rfl

theorem run_ok {E : Env} {ok : Array Oper → Bool} (hE : E.Ok ok) : ∀ n, RunOk E ok n := by
  intro n
  induction n with
  | zero => intro rd nt dep items st st' h; simp [runA] at h
  | succ n ih =>
    intro rd nt dep items st st' h hi M ι a w hO b cs
    have go : ∀ (items' : List Item) (h' : runA E n rd nt dep items' st = some st'), (∀ i ∈ items', itemOk ok i = true) → Steps E.P (lone (b.atR a items) cs w) (lone (b.atR a items') cs w) →
        Done E.P rd M ι st a w nt st' b cs (lone (b.atR a items) cs w) := by
      intro items' h' hi' hs
      exact Done.of_steps (ds := []) (fun _ => hs) hO.sim Fwd.refl rfl marksOk_nil (ih rd nt dep items' st st' h' hi' M ι a w hO b cs)
    -- a round's end
    have leave : ∀ (j : Nat) (jump : Option Code), j ≠ 1 → (jump.isNone = (j == 0)) → (∀ lr : Loop, stateOf j { lr with state := if jump.isNone then .ready else .done, pending := jump }) → leaveR rd st j = some st' → rd ≠ none →
        (∀ l c cs' v w', b.roundOf = some l → b.kind = .normal → cs = c :: cs' → (Instr.endRound l jump).run E.P w = .ok v w' → Steps E.P (lone (b.atR a items) cs w) (lone (c.finish v) cs' w')) → Done E.P rd M ι st a w nt st' b cs (lone (b.atR a items) cs w) := by
      intro j jump hj hjn hst h hrd hs
      cases rd with
      | none => exact absurd rfl hrd
      | some r =>
        unfold leaveR at h
        simp only at h
        split at h
        · rename_i inf hlp
          cases h
          intro l c cs' hr hb hk hcs
          obtain ⟨_, _, _, _, _, lr, _, g1, _, _, _, _, _, _, g8, _⟩ := loop_turn hO.sim hO.dom hr hlp
          obtain ⟨k1, k2, k3⟩ := g8 j { lr with state := if jump.isNone then .ready else .done, pending := jump } ⟨rfl, rfl, rfl, rfl⟩ (hst lr)
          refine ⟨j, inf, _, ?_, hj, ⟨M, ι, k1, k2, k3⟩, ?_⟩
          · simp [lpAt, Heap.get_put, lpBlk]
          · rw [← hjn]
            exact hs l.b c cs' _ _ hb hk hcs (run_endRound jump g1)
        · cases h
    unfold runA at h
    split at h
    · cases rd with
      | none =>
        injection h with h
        subst h
        intro hb
        exact ⟨a, w, [], [], ⟨M, ι, hO, Fwd.refl⟩, rfl, marksOk_nil, .one (stepR_end hb)⟩
      | some r =>
        exact leave 0 none (by omega) rfl (fun lr => ⟨rfl, rfl⟩) h (by simp) fun l c cs' v w' hb hk hcs hr => by subst hcs; exact .one (stepR_round_end hb hk hr)
    · rename_i k
      have hk : ∀ i ∈ k, itemOk ok i = true := fun i h => hi i (List.mem_cons_of_mem _ h)
      cases rd with
      | none => cases h
      | some r =>
        simp only at h
        split at h
        · rename_i inf hlp
          intro l c cs' hr hb hkd hcs
          obtain ⟨_, _, _, _, _, lr, _, g1, _, _, _, _, _, g7, g8, _⟩ := loop_turn hO.sim hO.dom hr hlp
          obtain ⟨k1, k2, k3⟩ := g8 1 { lr with state := .busy } ⟨rfl, rfl, rfl, rfl⟩ rfl
          have hs : Steps E.P (lone (b.atR a (.beginRound :: k)) cs w) (lone (b.atR a k) cs (setBlk w l.b (.loop { lr with state := .busy }))) := .one (stepR_beginRound hb (run_beginRound g1 g7.1))
          exact Done.of_steps (rd := some r) (ds := []) (fun _ => hs) k1 k2 rfl marksOk_nil (ih (some r) nt dep k _ st' h hk M ι a _ ⟨k1, k3, hO.tr, hO.nt⟩ b cs) l c cs' hr hb hkd hcs
        · cases h
    · rename_i c k
      have hc : codeOk ok c = true := hi _ (List.mem_cons_self ..)
      have hk : ∀ i ∈ k, itemOk ok i = true := fun i h => hi i (List.mem_cons_of_mem _ h)
      have two : ∀ {x y : Item}, itemOk ok x = true → itemOk ok y = true → ∀ i ∈ x :: y :: k, itemOk ok i = true := by
        intro x y hx hy i hi'
        rcases List.mem_cons.1 hi' with rfl | hi'
        · exact hx
        · rcases List.mem_cons.1 hi' with rfl | hi'
          · exact hy
          · exact hk i hi'
      have one : ∀ {x : Item}, itemOk ok x = true → ∀ i ∈ x :: k, itemOk ok i = true := by
        intro x hx i hi'
        rcases List.mem_cons.1 hi' with rfl | hi'
        · exact hx
        · exact hk i hi'
      split at h
      · exact go k h hk (.one stepR_skip)
      · exact go k h hk (.one stepR_label)
      · cases rd with
        | none =>
          simp only [leaveR, if_true] at h
          injection h with h
          subst h
          intro hb
          exact ⟨a, w, _, [], ⟨M, ι, hO, Fwd.refl⟩, rfl, marksOk_nil, .one (stepR_ret hb)⟩
        | some r => exact leave 2 (some .ret) (by omega) rfl (fun lr => ⟨rfl, rfl⟩) h (by simp) fun l c cs' v w' hb hk hcs hr => by subst hcs; exact .one (stepR_round_ret hb hk hr)
      · rename_i x y
        simp only [codeOk, Bool.and_eq_true] at hc
        exact go _ h (two hc.1 hc.2) (.one stepR_seq)
      · rename_i cnd x y
        simp only [codeOk, Bool.and_eq_true] at hc
        split at h
        · rename_i hb
          simp only [Option.bind_eq_some_iff] at hb
          obtain ⟨cv, h1, h2⟩ := hb
          exact go _ h (one hc.1) (.one (stepR_cond (boolOf_ok (evalO_ok hO.tr h1) h2)))
        · rename_i hb
          simp only [Option.bind_eq_some_iff] at hb
          obtain ⟨cv, h1, h2⟩ := hb
          exact go _ h (one hc.2) (.one (stepR_cond (boolOf_ok (evalO_ok hO.tr h1) h2)))
        · cases h
      · exact go _ h (two (by simpa [codeOk, itemOk] using hc) rfl) (.one stepR_block)
      · exact go _ h (two (by simpa [codeOk, itemOk] using hc) rfl) (.one (step_lone_go (by simp [stepG, stepG.exec, Frame.atR])))
      · exact go _ h (two (by simpa [codeOk, itemOk] using hc) (by simpa [codeOk, itemOk] using hc)) (.one stepR_loop)
      · rename_i id
        split at h
        · rename_i k' hk'
          exact go _ h (exitTo_ok hk' hk) (.one (stepR_exit hk'))
        · rename_i hk'
          cases rd with
          | none => simp at h
          | some r => exact leave (id + 3) (some (.exit id)) (by omega) (by simp) (fun lr => ⟨rfl, rfl⟩) (by simpa using h) (by simp) fun l c cs' v w' hb hkd hcs hr => by subst hcs; exact .one (stepR_round_exit hb hkd hk' hr)
      · rename_i id ops draw
        split at h
        · rename_i st1 hst1
          have hap : draw = true → apartOk E ops st1 = true := by
            intro hd
            cases hb : apartOk E ops st1 with
            | true => rfl
            | false => rw [hd, hb] at h; simp at h
          replace h : runA E n rd nt dep k st1 = some st' := by
            split at h
            · cases h
            · exact h
          have hpc : ∀ f xs y, pureCall E (runA E n) f xs = some y → PureOk E.P f xs y := fun f xs y h => pureCall_ok hE ih h
          have htc : ∀ f xs H y H', thrCall E (runA E n) dep f xs H = some (y, H') → ThrOk E.P f xs H y H' := fun f xs H y H' h => thrCall_ok hE ih h
          have hwp : (Code.region id ops draw).wpIn (FW b.roundOf) 0 E.P (fun e a' w' => e = .normal ∧ StepTo M ι st a w nt st1 a' w') a w := by
            cases draw with
            | false => exact wpIn_region_list (runOps_ok hpc htc ops.toList st M ι a w hst1 hO fun a' w' hst => ⟨rfl, hst⟩)
            | true => exact hE.draws ops (by simpa [codeOk] using hc) hpc htc nt dep id st st1 M ι a w b.roundOf _ hst1 (hap rfl) hO fun a' w' hst => ⟨rfl, hst⟩
          obtain ⟨a1, w1, ⟨⟨M1, ι1, hO1, hF1⟩, hd1⟩, hs⟩ := steps_of_wp b hwp k cs
          exact Done.of_steps (ds := []) (fun _ => hs) hO1.sim hF1 hd1 marksOk_nil (ih rd nt dep k st1 st' h hk M1 ι1 a1 w1 hO1 b cs)
        · cases h
      · rename_i g ps assign body
        simp only [codeOk, Bool.and_eq_true] at hc
        split at h
        · rename_i gi first captured hg
          split at h
          · rename_i x H' hcall
            obtain ⟨hS1, hF1, hD1, hmk⟩ := loop_new (d := dep) (ps := ps) (assign := assign) (body := body) (fn := b.fn) hO.sim hO.dom hO.tr hO.nt rfl
            obtain ⟨hfn, hthr⟩ := thrCall_ok hE ih hcall
            obtain ⟨a', b', hfv, hva, hvb⟩ := (evalO_ok hO.tr hg).fnOf
            have hmv := fun {xs us} (h : VRs M ι xs us) => h.mono (fun _ _ _ h => h) hF1.map
            have hyl : VR M (updM ι ⟨dep, nt, st.hp.gen dep nt, 0⟩ ⟨w.heap.size + 1, 0, 0⟩) (.yld ⟨dep, nt, st.hp.gen dep nt, 0⟩) (.func (.yield (w.heap.size + 1)) #[] #[]) := .yld (l := ⟨w.heap.size + 1, 0, 0⟩) (by simp [updM]) rfl
            have hall := ((hmv hva).append (VRs.cons hyl VRs.nil)).append (hmv hvb)
            have hcalls := hthr M _ _ _ hS1 hD1 hall
            rw [show (a'.toList ++ [Value.func (.yield (w.heap.size + 1)) #[] #[]] ++ b'.toList).toArray = a' ++ #[Value.func (.yield (w.heap.size + 1)) #[] #[]] ++ b' by apply Array.ext'; simp] at hcalls
            intro hb
            let c1 : Frame := b.atR { a with defers := [{ target := .collected w.heap.size, args := #[] }] ++ a.defers } (.inRangeFunc (w.heap.size + 1) :: k)
            have henter := stepR_rangeFunc (P := E.P) (b := b) (a := a) (k := k) (cs := cs) (w := w) (g := g) (ps := ps) (assign := assign) (body := body) (l := w.heap.size + 1) (mark := [{ target := .collected w.heap.size, args := #[] }])
              (d := { target := .fn (.func gi) b', args := a' ++ #[Value.func (.yield (w.heap.size + 1)) #[] #[]] }) (f := gi) (args := a' ++ #[Value.func (.yield (w.heap.size + 1)) #[] #[]] ++ b')
              (by rw [hb]; exact run_enterLoop_outer b.fn a.tmps ps assign body) (by have hev : ∀ x, a.eval (.const x) = x := fun _ => rfl; simp [resolve, rangeCall, hfv, Deferred.ofValue, hev]; rfl) (by simp [invoke, run_call_of hfn]; rfl)
            obtain ⟨e, w3, fr, ⟨v, he, M3, ι3, hv3, hS3, hF3, hD3⟩, hcomes, hfr, hleave⟩ := hcalls (c1 :: cs)
            subst he
            have hs1 : Steps E.P (lone (b.atR a (.code (.rangeFunc g ps assign body) :: k)) cs w) (lone (c1.finish v) cs w3) := Steps.trans (.one henter) (Steps.trans hcomes (.one (step_leave_returned hleave)))
            have hfin : c1.finish v = b.atR { a with defers := [{ target := .collected w.heap.size, args := #[] }] ++ a.defers } (.endRangeFunc (w.heap.size + 1) :: k) := finish_atR_inRangeFunc _ v
            rw [hfin] at hs1
            have hF13 := hF1.trans hF3
            have hr3 : ι3 ⟨dep, nt, st.hp.gen dep nt, 0⟩ = some ⟨w.heap.size + 1, 0, 0⟩ := hF3.map _ _ (by simp [updM])
            have hmk3 : w3.heap[w.heap.size]? = some (.deferred (some [])) := by
              rw [hF3.chg _ (Array.getElem?_eq_some_iff.1 hmk).1 (not_live hS1 hmk)]
              exact hmk
            -- behind it
            have behind : ∀ {m : Nat} {inf : AV}, lpAt H' ⟨dep, nt, st.hp.gen dep nt, 0⟩ = some (m, inf) → m ≠ 1 → ∃ lr : Loop, ∃ w4, stateOf m lr ∧
                Steps E.P (lone (b.atR a (.code (.rangeFunc g ps assign body) :: k)) cs w) (lone (b.atR { a with defers := [{ target := .collected w.heap.size, args := #[] }] ++ a.defers } ((lr.pending.map Item.code).toList ++ k)) cs w4) ∧
                StOk M3 ι3 ⟨st.tm, H'.put ⟨dep, nt, st.hp.gen dep nt, 0⟩ none⟩ nt { a with defers := [{ target := .collected w.heap.size, args := #[] }] ++ a.defers } w4 ∧ Fwd M ι st.hp.get w M3 ι3 (H'.put ⟨dep, nt, st.hp.gen dep nt, 0⟩ none).get w4 ∧
                MarksOk w w4 [w.heap.size] := by
              intro m inf hlp hm
              obtain ⟨_, _, _, _, _, lr, _, g1, _, _, _, _, _, g7, _, g9⟩ := loop_turn hS3 hD3 hr3 hlp
              obtain ⟨k1, k2, k3⟩ := g9 { lr with state := .exhausted }
              have hnb : lr.state ≠ .busy := by
                match m, hm with
                | 0, _ => rw [g7.1]; simp
                | 1, hm => exact absurd rfl hm
                | 2, _ => rw [g7.1]; simp
                | m + 3, _ => rw [g7.1]; simp
              refine ⟨lr, _, g7, Steps.trans hs1 (.one (stepR_endRangeFunc (run_endLoop g1 hnb))), ⟨k1, k3, ⟨fun t => (hO.tr.mono hF13.mem hF13.map).at_ t⟩, hO.nt⟩, hF13.trans k2, ⟨by simp, fun D hD => ?_⟩⟩
              simp only [List.mem_singleton] at hD
              subst hD
              refine ⟨Nat.le_refl _, ?_⟩
              show (setBlk w3 (w.heap.size + 1) _).heap[w.heap.size]? = _
              rw [setBlk_other (by omega)]
              exact hmk3
            split at h
            · rename_i hlp
              obtain ⟨lr, w4, hst, hs, hO4, hF4, hM4⟩ := behind hlp (by omega)
              rw [hst.2] at hs
              exact Done.of_steps (rd := none) (ds := [w.heap.size]) (fun _ => hs) hO4.sim hF4 rfl hM4 (ih none nt dep k _ st' h hk M3 ι3 _ w4 hO4 b cs) hb
            · rename_i hlp
              obtain ⟨lr, w4, hst, hs, hO4, hF4, hM4⟩ := behind hlp (by omega)
              rw [hst.2] at hs
              cases h
              exact ⟨_, w4, _, [w.heap.size], ⟨M3, ι3, hO4, hF4⟩, rfl, hM4, Steps.trans hs (.one (stepR_ret hb))⟩
            · rename_i id hlp
              obtain ⟨lr, w4, hst, hs, hO4, hF4, hM4⟩ := behind hlp (by omega)
              rw [hst.2] at hs
              split at h
              · rename_i k' hk'
                exact Done.of_steps (rd := none) (ds := [w.heap.size]) (fun _ => Steps.trans hs (.one (stepR_exit hk'))) hO4.sim hF4 rfl hM4 (ih none nt dep k' _ st' h (exitTo_ok hk' hk) M3 ι3 _ w4 hO4 b cs) hb
              · cases h
            · cases h
          · cases h
        · cases h
      · cases h
    · rename_i c k
      have hc : codeOk ok c = true := hi _ (List.mem_cons_self ..)
      have hk : ∀ i ∈ k, itemOk ok i = true := fun i h => hi i (List.mem_cons_of_mem _ h)
      refine go _ h ?_ (.one stepR_inLoop)
      intro i hi'
      rcases List.mem_cons.1 hi' with rfl | hi'
      · exact hc
      · rcases List.mem_cons.1 hi' with rfl | hi'
        · exact hc
        · exact hk i hi'
    · rename_i id k
      exact go k h (fun i h => hi i (List.mem_cons_of_mem _ h)) (.one stepR_inBlock)
    · rename_i id k
      exact go k h (fun i h => hi i (List.mem_cons_of_mem _ h)) (.one (step_lone_go (by simp [stepG, stepG.exec, Frame.atR])))
    · cases h

/-- What a run of the abstract machine on data says of the call. -/
theorem call_ok {E : Env} {ok : Array Oper → Bool} (hE : E.Ok ok) {n : Nat} {f : FuncId} {args : List AV} {y : AV} (h : pureCall E (runA E n) f args = some y) : PureOk E.P f args y := pureCall_ok hE (run_ok hE n) h

end Go.Ab
