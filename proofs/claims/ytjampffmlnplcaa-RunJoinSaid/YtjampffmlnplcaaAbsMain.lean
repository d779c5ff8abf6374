/-
  The abstract machine against the model's: the theorem. No statement of a seat is proved here.
-/
import Derived.Test.YtjampffmlnplcaaAbsRun
set_option linter.unusedVariables false
set_option linter.unusedSimpArgs false
namespace Go.Ab

/- ## What a pure call hands out -/

theorem import_view {g : Get} (r : Ref) : ∀ (n m : Nat) (x y : AV) (bs : List Blk), view g n x = some y → importA r m y bs = (y, bs) := by
  intro n
  induction n with
  | zero => intro m x y bs h; simp [view] at h
  | succ n ih =>
    intro m x y bs h
    cases m with
    | zero => rfl
    | succ m =>
      have lists : ∀ (cs ys acc : List AV), cs.mapM (view g n) = some ys → ys.foldl (fun (p : List AV × List Blk) c => (p.1 ++ [(importA r m c p.2).1], (importA r m c p.2).2)) (acc, bs) = (acc ++ ys, bs) := by
        intro cs
        induction cs with
        | nil => intro ys acc h; simp at h; subst h; simp
        | cons c cs ihc =>
          intro ys acc h
          simp only [List.mapM_cons, Option.pure_def, Option.bind_eq_bind, Option.bind_eq_some_iff] at h
          obtain ⟨y, hy, ys', hys, h⟩ := h
          simp at h
          subst h
          rw [List.foldl_cons, ih m c y bs hy, ihc ys' (acc ++ [y]) hys]
          simp
      cases x with
      | agg cs =>
        simp only [view, Option.map_eq_some_iff] at h
        obtain ⟨ys, hys, rfl⟩ := h
        have := lists cs ys [] hys
        simp only [importA]
        rw [this]
        simp
      | tup cs =>
        simp only [view, Option.map_eq_some_iff] at h
        obtain ⟨ys, hys, rfl⟩ := h
        have := lists cs ys [] hys
        simp only [importA]
        rw [this]
        simp
      | v x => simp [view] at h; subst h; rfl
      | isl => simp [view] at h; subst h; rfl
      | iptr => simp [view] at h; subst h; rfl
      | fsl => simp [view] at h
      | osl r' off len cap =>
        simp only [view] at h
        split at h
        · split at h
          · cases h; rfl
          · cases h
        · cases h
      | ptr r' i j =>
        simp only [view] at h
        split at h
        · split at h
          · cases h; rfl
          · simp only [Option.map_eq_some_iff] at h; obtain ⟨_, _, rfl⟩ := h; rfl
        · cases h
      | fn f a b =>
        simp only [view] at h
        split at h
        · cases h; rfl
        · cases h
      | ifc t x => simp only [view, Option.map_eq_some_iff] at h; obtain ⟨_, _, rfl⟩ := h; rfl
      | yld => simp [view] at h
      | mp => simp [view] at h
      | lp => simp [view] at h

/-- The refs that go out as fresh slices, in order. -/
def expRefs (g : Get) : Nat → AV → List Ref
  | 0, _ => []
  | n + 1, x =>
    match x with
    | .agg cs | .tup cs => cs.flatMap (expRefs g n)
    | .osl r 0 len _ => (match g r with | some b => if b.frz then [] else [r] | none => [])
    | .mp r => [r]
    | _ => []

/-- The refs that are merely seen. -/
def seenRefs (g : Get) : Nat → AV → List Ref
  | 0, _ => []
  | n + 1, x =>
    match x with
    | .agg cs | .tup cs => cs.flatMap (seenRefs g n)
    | .osl r 0 len _ => (match g r with | some b => if b.frz then [r] else [] | none => [r])
    | .mp _ => []
    | x => viewRefs g (n + 1) x

theorem exp_mem {g : Get} : ∀ (n : Nat) (x : AV) (r : Ref), r ∈ expRefs g n x → r ∈ viewRefs g n x := by
  intro n
  induction n with
  | zero => intro x r h; simp [expRefs] at h
  | succ n ih =>
    intro x r h
    unfold expRefs at h
    split at h
    · simp only [List.mem_flatMap] at h
      obtain ⟨c, hc, hr⟩ := h
      simp only [viewRefs, List.mem_flatMap]
      exact ⟨c, hc, ih c r hr⟩
    · simp only [List.mem_flatMap] at h
      obtain ⟨c, hc, hr⟩ := h
      simp only [viewRefs, List.mem_flatMap]
      exact ⟨c, hc, ih c r hr⟩
    · split at h
      · split at h
        · cases h
        · simpa [viewRefs] using h
      · cases h
    · simpa [viewRefs] using h
    · cases h

theorem exp_seen_nodup {g : Get} : ∀ (n : Nat) (x : AV), (viewRefs g n x).Nodup → (expRefs g n x).Nodup ∧ ∀ r ∈ expRefs g n x, r ∉ seenRefs g n x := by
  intro n
  induction n with
  | zero => intro x h; simp [expRefs]
  | succ n ih =>
    intro x h
    have seen_mem : ∀ (n : Nat) (x : AV) (r : Ref), r ∈ seenRefs g n x → r ∈ viewRefs g n x := by
      intro n
      induction n with
      | zero => intro x r h; simp [seenRefs] at h
      | succ n ih2 =>
        intro x r h
        unfold seenRefs at h
        split at h
        · simp only [List.mem_flatMap] at h
          obtain ⟨c, hc, hr⟩ := h
          simp only [viewRefs, List.mem_flatMap]
          exact ⟨c, hc, ih2 c r hr⟩
        · simp only [List.mem_flatMap] at h
          obtain ⟨c, hc, hr⟩ := h
          simp only [viewRefs, List.mem_flatMap]
          exact ⟨c, hc, ih2 c r hr⟩
        · split at h
          · split at h
            · simpa [viewRefs] using h
            · cases h
          · simpa [viewRefs] using h
        · cases h
        · exact h
    have lists : ∀ cs : List AV, (cs.flatMap (viewRefs g n)).Nodup → (cs.flatMap (expRefs g n)).Nodup ∧ ∀ r ∈ cs.flatMap (expRefs g n), r ∉ cs.flatMap (seenRefs g n) := by
      intro cs
      induction cs with
      | nil => intro _; simp
      | cons c cs ihc =>
        intro hn
        rw [List.flatMap_cons, List.nodup_append] at hn
        obtain ⟨h1, h2, h3⟩ := hn
        obtain ⟨h4, h5⟩ := ih c h1
        obtain ⟨h6, h7⟩ := ihc h2
        have expL : ∀ r, r ∈ cs.flatMap (expRefs g n) → r ∈ cs.flatMap (viewRefs g n) := by
          intro r hr
          simp only [List.mem_flatMap] at hr ⊢
          obtain ⟨d, hd, hr⟩ := hr
          exact ⟨d, hd, exp_mem n d r hr⟩
        have seenL : ∀ r, r ∈ cs.flatMap (seenRefs g n) → r ∈ cs.flatMap (viewRefs g n) := by
          intro r hr
          simp only [List.mem_flatMap] at hr ⊢
          obtain ⟨d, hd, hr⟩ := hr
          exact ⟨d, hd, seen_mem n d r hr⟩
        refine ⟨?_, ?_⟩
        · rw [List.flatMap_cons, List.nodup_append]
          exact ⟨h4, h6, fun a ha b hb e => h3 a (exp_mem n c a ha) b (expL b hb) e⟩
        · intro r hr hs
          rw [List.flatMap_cons, List.mem_append] at hr hs
          rcases hr with hr | hr <;> rcases hs with hs | hs
          · exact h5 r hr hs
          · exact h3 r (exp_mem n c r hr) r (seenL r hs) rfl
          · exact h3 r (seen_mem n c r hs) r (expL r hr) rfl
          · exact h7 r hr hs
    cases x with
    | agg cs => simpa [expRefs, seenRefs] using lists cs (by simpa [viewRefs] using h)
    | tup cs => simpa [expRefs, seenRefs] using lists cs (by simpa [viewRefs] using h)
    | osl r off len cap =>
      cases off with
      | zero =>
        simp only [expRefs, seenRefs]
        cases hg : g r with
        | none => simp
        | some b => cases hb : b.frz <;> simp [hb]
      | succ off => simp [expRefs]
    | mp r => simp [expRefs, seenRefs]
    | _ => simp [expRefs]

/-- What goes out. -/
def Out (g : Get) (q : Ref) (b : Blk) : Prop :=
  (∃ k len, g q = some k ∧ k.frz = false ∧ k.arr = true ∧ b = ⟨k.esz, k.es.take len, true, false⟩) ∨ ∃ k ents, g q = some k ∧ mapAt g q = some ents ∧ (∀ e ∈ ents, flat depth e = true) ∧ b = mapBlk ents

theorem mapAt_blk {g : Get} {q : Ref} {ents : List AV} (h : mapAt g q = some ents) : ∃ k, g q = some k ∧ k.esz = 0 ∧ k.es = .v (.bool true) :: ents := by
  unfold mapAt at h
  split at h
  · rename_i e a f hg
    cases h
    exact ⟨_, hg, rfl, rfl⟩
  · cases h

/-- What goes out and comes in stands for the same. -/
theorem export_ok {M : Mem} {ι : Map} {g : Get} {w : World} {R : List Ref} (hS : Sim M ι g w) (r : Ref) : ∀ (n : Nat) (x y : AV) (u : Value) (bs : List Blk), exportA g n x = some y → VR M ι x u →
    (∀ q ∈ seenRefs g n x, q ∈ R) →
    ∃ new : List Blk, (importA r n y bs).2 = bs ++ new ∧ new.length = (expRefs g n x).length ∧
      (∀ (i : Nat) q b, (expRefs g n x)[i]? = some q → new[i]? = some b → Out g q b) ∧
      ∀ ls : List Loc, (∀ (i : Nat) q l, (expRefs g n x)[i]? = some q → ι q = some l → ls[bs.length + i]? = some l) → VR (addM M ι g w R) (keyMap r ls) (importA r n y bs).1 u := by
  intro n
  induction n with
  | zero => intro x y u bs h; simp [exportA] at h
  | succ n ih =>
    intro x y u bs h hv hR
    have plain : view g (n + 1) x = some y → expRefs g (n + 1) x = [] → (∀ q ∈ viewRefs g (n + 1) x, q ∈ R) → ∃ new : List Blk, (importA r (n + 1) y bs).2 = bs ++ new ∧ new.length = (expRefs g (n + 1) x).length ∧
      (∀ (i : Nat) q b, (expRefs g (n + 1) x)[i]? = some q → new[i]? = some b → Out g q b) ∧
      ∀ ls : List Loc, (∀ (i : Nat) q l, (expRefs g (n + 1) x)[i]? = some q → ι q = some l → ls[bs.length + i]? = some l) → VR (addM M ι g w R) (keyMap r ls) (importA r (n + 1) y bs).1 u := by
      intro h1 h2 h3
      rw [import_view r (n + 1) (n + 1) x y bs h1]
      exact ⟨[], by simp, by rw [h2]; rfl, by rw [h2]; intro i q b hq; simp at hq, fun ls _ => (view_ok hS (n + 1) x y u h1 h3 hv).up _⟩
    have lists : ∀ (cs ys : List AV) (us : List Value) (acc : List AV) (bs : List Blk), cs.mapM (exportA g n) = some ys → VRs M ι cs us → (∀ q ∈ cs.flatMap (seenRefs g n), q ∈ R) →
        ∃ (new : List Blk) (zs : List AV), ys.foldl (fun (p : List AV × List Blk) c => (p.1 ++ [(importA r n c p.2).1], (importA r n c p.2).2)) (acc, bs) = (acc ++ zs, bs ++ new) ∧ new.length = (cs.flatMap (expRefs g n)).length ∧
          (∀ (i : Nat) q b, (cs.flatMap (expRefs g n))[i]? = some q → new[i]? = some b → Out g q b) ∧
          ∀ ls : List Loc, (∀ (i : Nat) q l, (cs.flatMap (expRefs g n))[i]? = some q → ι q = some l → ls[bs.length + i]? = some l) → VRs (addM M ι g w R) (keyMap r ls) zs us := by
      intro cs
      induction cs with
      | nil =>
        intro ys us acc bs hy hvs _
        simp at hy
        subst hy
        have : us = [] := List.eq_nil_of_length_eq_zero (by rw [← hvs.1]; rfl)
        subst this
        exact ⟨[], [], by simp, rfl, by intro i q b hq; simp at hq, fun _ _ => VRs.nil⟩
      | cons c cs ihc =>
        intro ys us acc bs hy hvs hRc
        simp only [List.mapM_cons, Option.pure_def, Option.bind_eq_bind, Option.bind_eq_some_iff] at hy
        obtain ⟨y, hy1, ys', hys, hy2⟩ := hy
        simp at hy2
        subst hy2
        cases us with
        | nil => have := hvs.1; simp at this
        | cons u us =>
          have hvc : VR M ι c u := hvs.2 0 c u rfl rfl
          have hvcs : VRs M ι cs us := ⟨by have := hvs.1; simpa using this, fun i x v hx hv => hvs.2 (i + 1) x v (by simpa using hx) (by simpa using hv)⟩
          simp only [List.flatMap_cons, List.mem_append] at hRc
          obtain ⟨new1, h1, h2, h3, h4⟩ := ih c y u bs hy1 hvc (fun q hq => hRc q (.inl hq))
          obtain ⟨new2, zs, h5, h6, h7, h8⟩ := ihc ys' us (acc ++ [(importA r n y bs).1]) (bs ++ new1) hys hvcs (fun q hq => hRc q (.inr hq))
          refine ⟨new1 ++ new2, (importA r n y bs).1 :: zs, ?_, ?_, ?_, ?_⟩
          · rw [List.foldl_cons]
            simp only
            rw [h1, h5]
            simp
          · simp [h2, h6]
          · intro i q b hq hb
            rw [List.flatMap_cons] at hq
            rcases Nat.lt_or_ge i (expRefs g n c).length with hi | hi
            · rw [List.getElem?_append_left hi] at hq
              rw [List.getElem?_append_left (by omega)] at hb
              exact h3 i q b hq hb
            · rw [List.getElem?_append_right hi] at hq
              rw [List.getElem?_append_right (by omega), h2] at hb
              exact h7 _ q b hq hb
          · intro ls hls
            refine VRs.cons (h4 ls ?_) (h8 ls ?_)
            · intro i q l hq hl
              refine hls i q l ?_ hl
              rw [List.flatMap_cons, List.getElem?_append_left (List.getElem?_eq_some_iff.1 hq).1]
              exact hq
            · intro i q l hq hl
              have := hls ((expRefs g n c).length + i) q l (by
                rw [List.flatMap_cons, List.getElem?_append_right (by omega), Nat.add_sub_cancel_left]
                exact hq) hl
              rw [List.length_append, h2, Nat.add_assoc]
              exact this
    cases x with
    | agg cs =>
      simp only [exportA, Option.map_eq_some_iff] at h
      obtain ⟨ys, hys, rfl⟩ := h
      obtain ⟨vs, rfl, hvs⟩ := hv.aggOf
      obtain ⟨new, zs, h1, h2, h3, h4⟩ := lists cs ys vs.toList [] bs hys hvs (by simpa [seenRefs] using hR)
      simp only [importA]
      rw [h1]
      refine ⟨new, rfl, by simpa [expRefs] using h2, by simpa [expRefs] using h3, fun ls hls => ?_⟩
      have := h4 ls (by simpa [expRefs] using hls)
      simpa using VR.agg_iff.2 this
    | tup cs =>
      simp only [exportA, Option.map_eq_some_iff] at h
      obtain ⟨ys, hys, rfl⟩ := h
      cases hv with | tup h0 hl hh =>
      rename_i vs
      obtain ⟨new, zs, h1, h2, h3, h4⟩ := lists cs ys vs.toList [] bs hys ⟨by simpa using hl, fun i x u hx hu => hh i x u hx (by simpa using hu)⟩ (by simpa [seenRefs] using hR)
      simp only [importA]
      rw [h1]
      refine ⟨new, rfl, by simpa [expRefs] using h2, by simpa [expRefs] using h3, fun ls hls => ?_⟩
      have := h4 ls (by simpa [expRefs] using hls)
      simp only [List.nil_append]
      refine .tup ?_ (by simpa using this.1) fun i c u hc hu => this.2 i c u hc (by simpa using hu)
      intro e
      rw [e] at this
      have h5 := this.1
      simp at h5
      have h6 : vs.size = 0 := by omega
      rw [h6] at hl
      exact h0 (List.eq_nil_of_length_eq_zero hl)
    | osl q off len cap =>
      cases off with
      | succ off => exact plain (by simpa [exportA] using h) (by simp [expRefs]) (by simpa [seenRefs] using hR)
      | zero =>
        simp only [exportA] at h
        split at h
        · rename_i k hk
          obtain ⟨⟨harr, hlen⟩, h⟩ := Option.ite_none_right_eq_some.1 h
          injection h with h
          cases hfr : k.frz with
          | true =>
            rw [hfr] at h
            simp only [if_true] at h
            refine plain ?_ (by simp [expRefs, hk, hfr]) (by
              intro q' hq'
              refine hR q' ?_
              simp only [viewRefs, List.mem_singleton] at hq'
              simp [seenRefs, hk, hfr, hq'])
            simp only [view, hk, harr]
            rw [if_pos ⟨trivial, by omega⟩]
            simp [← h]
          | false =>
            rw [hfr] at h
            simp only [Bool.false_eq_true, if_false] at h
            subst h
            have hexp : expRefs g (n + 1) (.osl q 0 len cap) = [q] := by simp [expRefs, hk, hfr]
            cases hv with | osl hr hb hs ha hc hn hkk hzl =>
            rename_i l a c
            have hl2 : (k.es.take len).length = len := by rw [List.length_take]; omega
            have hkz0 : k.esz ≠ 0 := by
              obtain ⟨l0, hl0, hbk⟩ := hS.live q k hk
              have := hbk.pos harr
              omega
            refine ⟨[⟨k.esz, k.es.take len, true, false⟩], by simp [importA, hkz0], by rw [hexp]; rfl, ?_, ?_⟩
            · intro i q' b hq' hb'
              rw [hexp] at hq'
              cases i with
              | succ i => simp at hq'
              | zero =>
                simp at hq' hb'
                subst hq'; subst hb'
                exact .inl ⟨k, len, hk, hfr, harr, rfl⟩
            · intro ls hls
              have := hls 0 q l (by rw [hexp]; rfl) hr
              simp only [importA, hl2, if_neg hkz0]
              refine .osl (l := l) ?_ hb hs ha hc hn hkk hzl
              unfold keyMap
              simpa using this
        · cases h
    | v x => exact plain (by simpa [exportA] using h) (by simp [expRefs]) (by simpa [seenRefs] using hR)
    | isl => exact plain (by simpa [exportA] using h) (by simp [expRefs]) (by simpa [seenRefs] using hR)
    | iptr => exact plain (by simpa [exportA] using h) (by simp [expRefs]) (by simpa [seenRefs] using hR)
    | fsl => exact plain (by simpa [exportA] using h) (by simp [expRefs]) (by simpa [seenRefs] using hR)
    | ptr => exact plain (by simpa [exportA] using h) (by simp [expRefs]) (by simpa [seenRefs] using hR)
    | fn => exact plain (by simpa [exportA] using h) (by simp [expRefs]) (by simpa [seenRefs] using hR)
    | ifc => exact plain (by simpa [exportA] using h) (by simp [expRefs]) (by simpa [seenRefs] using hR)
    | yld => simp [exportA, view] at h
    | mp q =>
      simp only [exportA] at h
      split at h
      · rename_i ents hm
        obtain ⟨hfl, h⟩ := Option.ite_none_right_eq_some.1 h
        injection h with h
        subst h
        have hexp : expRefs g (n + 1) (.mp q) = [q] := by simp [expRefs]
        cases hv with | mp hr hz =>
        rename_i l
        obtain ⟨k, hk, _, _⟩ := mapAt_blk hm
        refine ⟨[mapBlk ents], by simp [importA, mapBlk], by rw [hexp]; rfl, ?_, ?_⟩
        · intro i q' b hq' hb'
          rw [hexp] at hq'
          cases i with
          | succ i => simp at hq'
          | zero =>
            simp at hq' hb'
            subst hq'; subst hb'
            exact .inr ⟨k, ents, hk, hm, by simpa [List.all_eq_true] using hfl, rfl⟩
        · intro ls hls
          have := hls 0 q l (by rw [hexp]; rfl) hr
          simp only [importA, if_true]
          refine .mp (l := l) ?_ hz
          unfold keyMap
          simpa using this
      · cases h
    | lp => simp [exportA, view] at h

end Go.Ab
