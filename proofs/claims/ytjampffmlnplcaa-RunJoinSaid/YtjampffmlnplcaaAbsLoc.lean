/-
  What a quiet operation of the abstract machine looks at. No statement of a seat is proved here.
-/
import Derived.Test.YtjampffmlnplcaaAbsMain2
set_option linter.unusedVariables false
set_option linter.unusedSimpArgs false
namespace Go.Ab

/- ## Temporaries -/
theorem mapM_congr {α β : Type} {f f' : α → Option β} : ∀ {l : List α}, (∀ x ∈ l, f x = f' x) → l.mapM f = l.mapM f' := by
  intro l
  induction l with
  | nil => intro _; rfl
  | cons a l ih =>
    intro h
    simp only [List.mapM_cons]
    rw [h a (List.mem_cons_self ..), ih fun x hx => h x (List.mem_cons_of_mem _ hx)]

def agreeOn (tm tm' : List AV) (xs : List Operand) : Prop := ∀ x ∈ xs, evalO tm x = evalO tm' x

theorem evalParts_congr {tm tm' : List AV} {ps : List (Nat × Operand)} (h : ∀ p ∈ ps, evalO tm p.2 = evalO tm' p.2) : evalParts tm ps = evalParts tm' ps := by
  unfold evalParts
  exact mapM_congr fun p hp => by obtain ⟨i, o⟩ := p; simp only [h (i, o) hp]

theorem optInt_congr {tm tm' : List AV} {x : Option Operand} (h : ∀ y, x = some y → evalO tm y = evalO tm' y) : optInt tm x = optInt tm' x := by
  cases x with
  | none => rfl
  | some y => simp only [optInt, h y rfl]

theorem evalQ_tm {E : Env} {pc : FuncId → List AV → Option AV} {draw : Bool} {g : Get} {tm tm' : List AV} {r : Ref} {o : Oper} (h : agreeOn tm tm' o.op.operands.toList) :
    evalQ E pc draw g tm r o = evalQ E pc draw g tm' r o := by
  unfold agreeOn at h
  unfold evalQ
  split
  · rename_i x hop; rw [hop] at h; simp only [Op.operands] at h; rw [h x (by simp)]
  · rename_i x hop; rw [hop] at h; simp only [Op.operands] at h; rw [h x (by simp)]
  · rename_i c a b hop; rw [hop] at h; simp only [Op.operands] at h; simp only [qPick]; rw [h c (by simp), h a (by simp), h b (by simp)]
  · rfl
  · rename_i e x hop; rw [hop] at h; simp only [Op.operands] at h; rw [h x (by simp)]
  · rename_i t ps hop; rw [hop] at h; simp only [Op.operands] at h; rw [evalParts_congr fun p hp => h p.2 (by simp; exact ⟨p.1, by simpa using hp⟩)]
  · rename_i t n ps hop; rw [hop] at h; simp only [Op.operands] at h; rw [evalParts_congr fun p hp => h p.2 (by simp; exact ⟨p.1, by simpa using hp⟩)]
  · rename_i t x hop; rw [hop] at h; simp only [Op.operands] at h; rw [h x (by simp)]
  · rename_i x hop; rw [hop] at h; simp only [Op.operands] at h; rw [h x (by simp)]
  · rename_i op t x y ty hop; rw [hop] at h; simp only [Op.operands] at h; rw [h x (by simp), h y (by simp)]
  · rename_i op t x hop; rw [hop] at h; simp only [Op.operands] at h; rw [h x (by simp)]
  · rename_i s d x hop; rw [hop] at h; simp only [Op.operands] at h; rw [h x (by simp)]
  · rename_i t x hop; rw [hop] at h; simp only [Op.operands] at h; rw [h x (by simp)]
  · rename_i f a b hop; rw [hop] at h; simp only [Op.operands] at h; rw [mapM_congr fun x hx => h x (by simp at hx ⊢; exact .inl hx), mapM_congr fun x hx => h x (by simp at hx ⊢; exact .inr hx)]
  · rename_i t l c hop; rw [hop] at h; simp only [Op.operands] at h; rw [h l (by simp), h c (by simp)]
  · rfl
  · rename_i t x k ok hop; rw [hop] at h; simp only [Op.operands] at h; rw [h x (by simp), h k (by simp)]
  · rename_i t x lo hi mx hop
    rw [hop] at h
    simp only [Op.operands] at h
    rw [h x (by simp), optInt_congr (x := lo) fun y hy => h y (by simp [hy]), optInt_congr (x := hi) fun y hy => h y (by simp [hy]), optInt_congr (x := mx) fun y hy => h y (by simp [hy])]
  · rename_i t x f hop; rw [hop] at h; simp only [Op.operands] at h; rw [h x (by simp)]
  · rename_i t x f hop; rw [hop] at h; simp only [Op.operands] at h; rw [h x (by simp)]
  · rename_i t x y hop; rw [hop] at h; simp only [Op.operands] at h; rw [h x (by simp), h y (by simp)]
  · rename_i t x y hop; rw [hop] at h; simp only [Op.operands] at h; rw [h x (by simp), h y (by simp)]
  · rename_i x t wt ok hop; rw [hop] at h; simp only [Op.operands] at h; rw [h x (by simp)]
  · rename_i x i hop; rw [hop] at h; simp only [Op.operands] at h; rw [h x (by simp)]
  · rename_i c hop
    rw [hop] at h
    simp only [Op.operands, Call.operands] at h
    rw [mapM_congr (l := c.args.toList) fun x hx => h x (by simp at hx ⊢; exact .inr hx)]
    split
    · rfl
    · split
      · rename_i f hf; rw [h f (by simp [hf])]
      · rfl
      · rfl
  · rfl

theorem evalW_tm {E : Env} {pc : FuncId → List AV → Option AV} {tc : Tgt → List AV → Heap → WRes} {H : Heap} {tm tm' : List AV} {r : Ref} {o : Oper} (h : agreeOn tm tm' o.op.operands.toList) :
    evalW E pc tc H tm r o = evalW E pc tc H tm' r o := by
  unfold agreeOn at h
  unfold evalW
  generalize o.op = op at h ⊢
  cases op <;> try rfl
  case store t x y => simp only [Op.operands] at h; simp only; rw [h x (by simp), h y (by simp)]
  case mapUpdate t m k y => simp only [Op.operands] at h; simp only; rw [h m (by simp), h k (by simp), h y (by simp)]
  case insert t m k y => simp only [Op.operands] at h; simp only; rw [h m (by simp), h k (by simp), h y (by simp)]
  case mapEntry t m k => simp only [Op.operands] at h; simp only; rw [h m (by simp), h k (by simp)]
  case entryStore t m k y => simp only [Op.operands] at h; simp only; rw [h m (by simp), h k (by simp), h y (by simp)]
  case buildSlice t n ps => simp only [Op.operands] at h; simp only; rw [evalParts_congr fun p hp => h p.2 (by simp; exact ⟨p.1, by simpa using hp⟩)]
  case call c =>
    simp only [Op.operands, Call.operands] at h
    simp only
    rw [mapM_congr (l := c.args.toList) fun x hx => h x (by simp at hx ⊢; exact .inr hx)]
    split
    · rfl
    · split
      · rename_i f hf; rw [h f (by simp [hf])]
      · rfl
      · rfl

/- ## Memory -/

/-- In 'g'' stands what 'g' has, of all that is on hand. -/
def Loc' (ι : Map) (g g' : Get) : Prop := ∀ q k, g q = some k → ι q ≠ none → g' q = some k

section
variable {M : Mem} {ι : Map} {g g' : Get} {w : World}

theorem elem_VR {l : Loc} {k : Blk} (hb : CellsOk M ι w l k) {e : AV} (he : e ∈ k.es) : ∃ u, VR M (k.map ι) e u := by
  obtain ⟨i, hi, hie⟩ := List.getElem_of_mem he
  have hc := hb.cell i (by rw [List.getElem?_eq_getElem hi, hie])
  obtain ⟨us, h1, _, _⟩ := hc.values
  cases e with
  | agg cs => exact ⟨.agg us.toArray, VR.agg_iff.2 (by simpa [AV.cells] using h1)⟩
  | _ =>
    have hl := h1.1
    obtain ⟨u, rfl⟩ := len1 hl.symm
    exact ⟨u, h1.2 0 _ u rfl rfl⟩

theorem mapM_loc {f f' : AV → Option AV} {l l' : List AV} (h : l.mapM f = some l') (hf : ∀ x ∈ l, ∀ y, f x = some y → f' x = some y) : l.mapM f' = some l' := by
  rw [← h]
  refine mapM_congr fun x hx => ?_
  obtain ⟨i, hi, hix⟩ := List.getElem_of_mem hx
  obtain ⟨y, _, hy⟩ := mapM_at' h i x (by rw [List.getElem?_eq_getElem hi, hix])
  rw [hy, hf x hx y hy]

theorem flatMap_congr' {α β : Type} {f f' : α → List β} : ∀ {l : List α}, (∀ x ∈ l, f x = f' x) → l.flatMap f = l.flatMap f' := by
  intro l
  induction l with
  | nil => intro _; rfl
  | cons a l ih =>
    intro h
    rw [List.flatMap_cons, List.flatMap_cons, h a (List.mem_cons_self ..), ih fun x hx => h x (List.mem_cons_of_mem _ hx)]

theorem view_loc (hS : Sim M ι g' w) (hL : Loc' ι g g') : ∀ (n : Nat) (x y : AV) (u : Value) (M0 : Mem), view g n x = some y → VR M0 ι x u → view g' n x = some y ∧ viewRefs g' n x = viewRefs g n x ∧ ∀ r ∈ viewRefs g n x, ι r ≠ none := by
  intro n
  induction n with
  | zero => intro x y u M0 h; simp [view] at h
  | succ n ih =>
    intro x y u M0 h hv
    have lists : ∀ {cs ys : List AV}, cs.mapM (view g n) = some ys → (∀ c ∈ cs, ∃ u M0, VR M0 ι c u) → cs.mapM (view g' n) = some ys ∧ cs.flatMap (viewRefs g' n) = cs.flatMap (viewRefs g n) ∧ ∀ r ∈ cs.flatMap (viewRefs g n), ι r ≠ none := by
      intro cs ys hys hvs
      refine ⟨mapM_loc hys fun c hc y hy => ?_, flatMap_congr' fun c hc => ?_, ?_⟩
      · obtain ⟨u, M0, hu⟩ := hvs c hc
        exact (ih c y u M0 hy hu).1
      · obtain ⟨u, M0, hu⟩ := hvs c hc
        obtain ⟨i, hi, hic⟩ := List.getElem_of_mem hc
        obtain ⟨y, _, hy⟩ := mapM_at' hys i c (by rw [List.getElem?_eq_getElem hi, hic])
        exact (ih c y u M0 hy hu).2.1
      · intro r hr
        obtain ⟨c, hc, hr⟩ := List.mem_flatMap.1 hr
        obtain ⟨u, M0, hu⟩ := hvs c hc
        obtain ⟨i, hi, hic⟩ := List.getElem_of_mem hc
        obtain ⟨y, _, hy⟩ := mapM_at' hys i c (by rw [List.getElem?_eq_getElem hi, hic])
        exact (ih c y u M0 hy hu).2.2 r hr
    have inl : ∀ {cs : List AV} {vs : Array Value}, cs.length = vs.size → (∀ (i : Nat) c u, cs[i]? = some c → vs[i]? = some u → VR M0 ι c u) → ∀ c ∈ cs, ∃ u M0, VR M0 ι c u := by
      intro cs vs hl hh c hc
      obtain ⟨i, hi, hic⟩ := List.getElem_of_mem hc
      exact ⟨vs[i]'(by omega), M0, hh i c _ (by rw [List.getElem?_eq_getElem hi, hic]) (Array.getElem?_eq_getElem (by omega))⟩
    cases hv with
    | v hs => simp [view] at h; subst h; simp [view, viewRefs]
    | agg hl hh =>
      simp only [view, Option.map_eq_some_iff] at h
      obtain ⟨ys, hys, rfl⟩ := h
      obtain ⟨h1, h2, h3⟩ := lists hys (inl hl hh)
      exact ⟨by simp [view, h1], by simp only [viewRefs]; exact h2, by simp only [viewRefs]; exact h3⟩
    | tup h0 hl hh =>
      simp only [view, Option.map_eq_some_iff] at h
      obtain ⟨ys, hys, rfl⟩ := h
      obtain ⟨h1, h2, h3⟩ := lists hys (inl hl hh)
      exact ⟨by simp [view, h1], by simp only [viewRefs]; exact h2, by simp only [viewRefs]; exact h3⟩
    | isl => simp [view] at h; subst h; simp [view, viewRefs]
    | iptr => simp [view] at h; subst h; simp [view, viewRefs]
    | osl hr hb hs ha hc hn hk hzl =>
      rename_i r off len cap l a c
      simp only [view] at h
      split at h
      · rename_i b hgb
        have := hL r b hgb (by rw [hr]; simp)
        exact ⟨by simp only [view, this]; exact h, by simp [viewRefs], by intro q hq; simp only [viewRefs, List.mem_singleton] at hq; rw [hq, hr]; simp⟩
      · cases h
    | ptr hr hzl =>
      rename_i r i j l
      simp only [view] at h
      split at h
      · rename_i b hgb
        have hg' := hL r b hgb (by rw [hr]; simp)
        cases harr : b.arr with
        | true =>
          rw [harr] at h
          exact ⟨by simp only [view, hg', harr]; exact h, by simp [viewRefs, hg', hgb, harr], by intro q hq; simp [viewRefs, hgb, harr] at hq; rw [hq, hr]; simp⟩
        | false =>
          rw [harr] at h
          simp only [Bool.false_eq_true, if_false, Option.map_eq_some_iff] at h
          obtain ⟨es, hes, rfl⟩ := h
          have hbk := hS.at hr hzl hg'
          obtain ⟨h1, h2, h3⟩ := lists hes fun c hc => by
            obtain ⟨u, hu⟩ := elem_VR hbk hc
            rw [Blk.map, harr] at hu
            exact ⟨u, M, by simpa using hu⟩
          exact ⟨by simp [view, hg', harr, h1], by simp only [viewRefs, hg', hgb, harr]; rw [if_neg (by simp), if_neg (by simp), h2], by
            intro q hq
            simp only [viewRefs, hgb, harr] at hq
            rw [if_neg (by simp)] at hq
            rcases List.mem_cons.1 hq with rfl | hq
            · rw [hr]; simp
            · exact h3 q hq⟩
      · cases h
    | fn hla hlb hha hhb =>
      simp only [view] at h
      split at h
      · rename_i a' b' ha' hb'
        cases h
        obtain ⟨h1, h2, h5⟩ := lists ha' (inl hla hha)
        obtain ⟨h3, h4, h6⟩ := lists hb' (inl hlb hhb)
        exact ⟨by simp [view, h1, h3], by simp only [viewRefs]; rw [h2, h4], by
          intro q hq
          simp only [viewRefs, List.mem_append] at hq
          rcases hq with hq | hq
          · exact h5 q hq
          · exact h6 q hq⟩
      · cases h
    | yld => simp [view] at h
    | mp => simp [view] at h
    | ifc hh =>
      simp only [view, Option.map_eq_some_iff] at h
      obtain ⟨y', hy', rfl⟩ := h
      obtain ⟨h1, h2, h3⟩ := ih _ y' _ M0 hy' hh
      exact ⟨by simp [view, h1], by simp only [viewRefs]; exact h2, by simp only [viewRefs]; exact h3⟩

theorem viewsRefs_of (n : Nat) : ∀ (x : AV) (r : Ref), r ∈ viewRefs g n x → True := fun _ _ _ => trivial

theorem views_loc (hS : Sim M ι g' w) (hL : Loc' ι g g') {xs ys : List AV} {us : List Value} (h : xs.mapM (view g depth) = some ys) (hv : VRs M ι xs us) : xs.mapM (view g' depth) = some ys ∧ refsAll g' xs = refsAll g xs ∧ ∀ r ∈ refsAll g xs, ι r ≠ none := by
  have inl : ∀ c ∈ xs, ∃ u, VR M ι c u := by
    intro c hc
    obtain ⟨i, hi, hic⟩ := List.getElem_of_mem hc
    have hl := hv.1
    exact ⟨us[i]'(by omega), hv.2 i c _ (by rw [List.getElem?_eq_getElem hi, hic]) (List.getElem?_eq_getElem (by omega))⟩
  refine ⟨mapM_loc h fun c hc y hy => ?_, flatMap_congr' fun c hc => ?_, ?_⟩
  · obtain ⟨u, hu⟩ := inl c hc
    exact (view_loc hS hL depth c y u M hy hu).1
  · obtain ⟨u, hu⟩ := inl c hc
    obtain ⟨i, hi, hic⟩ := List.getElem_of_mem hc
    obtain ⟨y, _, hy⟩ := mapM_at' h i c (by rw [List.getElem?_eq_getElem hi, hic])
    exact (view_loc hS hL depth c y u M hy hu).2.1
  · intro r hr
    obtain ⟨c, hc, hr⟩ := List.mem_flatMap.1 hr
    obtain ⟨u, hu⟩ := inl c hc
    obtain ⟨i, hi, hic⟩ := List.getElem_of_mem hc
    obtain ⟨y, _, hy⟩ := mapM_at' h i c (by rw [List.getElem?_eq_getElem hi, hic])
    exact (view_loc hS hL depth c y u M hy hu).2.2 r hr

theorem allFrz_loc (hL : Loc' ι g g') {R : List Ref} (hR : ∀ r ∈ R, ι r ≠ none) (h : allFrz g R = true) : allFrz g' R = true := by
  simp only [allFrz, List.all_eq_true] at h ⊢
  intro r hr
  have := h r hr
  cases hg : g r with
  | none => rw [hg] at this; simp at this
  | some b => rw [hg] at this; rw [hL r b hg (hR r hr)]; exact this

theorem elemsOf_loc (hL : Loc' ι g g') {x : AV} {u : Value} (hv : VR M ι x u) {p : Nat × List AV} (h : elemsOf g x = some p) : elemsOf g' x = some p := by
  cases hv with
  | osl hr =>
    simp only [elemsOf] at h ⊢
    split at h
    · rename_i b hb
      rw [hL _ b hb (by rw [hr]; simp)]
      exact h
    · cases h
  | v hs => cases ‹Value› <;> simp_all [elemsOf]
  | isl => exact h
  | _ => simp [elemsOf] at h

theorem viewParts_loc (hS : Sim M ι g' w) (hL : Loc' ι g g') {vs ws : List (Nat × AV)} (h : viewParts g vs = some ws) (hv : ∀ p ∈ vs, ∃ u, VR M ι p.2 u) :
    viewParts g' vs = some ws ∧ refsAll g' (vs.map (·.2)) = refsAll g (vs.map (·.2)) ∧ ∀ r ∈ refsAll g (vs.map (·.2)), ι r ≠ none := by
  have each : ∀ p ∈ vs, ∃ y u, view g depth p.2 = some y ∧ VR M ι p.2 u := by
    intro p hp
    obtain ⟨i, hi, hip⟩ := List.getElem_of_mem hp
    obtain ⟨y, _, hy⟩ := mapM_at' h i p (by rw [List.getElem?_eq_getElem hi, hip])
    obtain ⟨u, hu⟩ := hv p hp
    obtain ⟨k, x⟩ := p
    simp only [Option.map_eq_some_iff] at hy
    obtain ⟨z, hz, _⟩ := hy
    exact ⟨z, u, hz, hu⟩
  refine ⟨?_, ?_, ?_⟩
  · unfold viewParts at h ⊢
    rw [← h]
    refine mapM_congr fun p hp => ?_
    obtain ⟨y, u, h1, h2⟩ := each p hp
    obtain ⟨k, x⟩ := p
    simp only at h1 h2
    simp only [h1, (view_loc hS hL depth x y u M h1 h2).1]
  · unfold refsAll
    refine flatMap_congr' fun x hx => ?_
    obtain ⟨p, hp, rfl⟩ := List.mem_map.1 hx
    obtain ⟨y, u, h1, h2⟩ := each p hp
    exact (view_loc hS hL depth p.2 y u M h1 h2).2.1
  · intro r hr
    obtain ⟨x, hx, hr⟩ := List.mem_flatMap.1 hr
    obtain ⟨p, hp, rfl⟩ := List.mem_map.1 hx
    obtain ⟨y, u, h1, h2⟩ := each p hp
    exact (view_loc hS hL depth p.2 y u M h1 h2).2.2 r hr

theorem parts_VR {tm : List AV} {a : Act} (hT : TR M ι tm a) {ps : List (Nat × Operand)} {vs : List (Nat × AV)} (h : evalParts tm ps = some vs) : ∀ p ∈ vs, ∃ u, VR M ι p.2 u := by
  intro p hp
  obtain ⟨h1, h2⟩ := evalParts_ok (ι := ι) hT h
  obtain ⟨i, hi, hip⟩ := List.getElem_of_mem hp
  exact ⟨_, (h2 i p _ (by rw [List.getElem?_eq_getElem hi, hip]) (List.getElem?_eq_getElem (by omega))).2⟩

theorem mkSlice_loc {P : Program} (hS : Sim M ι g' w) (hL : Loc' ι g g') {t : TypeId} {n : Nat} {vs : List (Nat × AV)} {b : Blk} (h : mkSlice P g t n vs = some b) (hv : ∀ p ∈ vs, ∃ u, VR M ι p.2 u) : mkSlice P g' t n vs = some b := by
  unfold mkSlice at h ⊢
  split at h
  · cases h
  · rename_i e he
    try simp only [he]
    split at h
    · rename_i ws z s hws hz hs
      try simp only [(viewParts_loc hS hL hws hv).1, hz, hs]
      exact h
    · cases h

theorem mkSlice_views {P : Program} {t : TypeId} {n : Nat} {vs : List (Nat × AV)} {b : Blk} (h : mkSlice P g t n vs = some b) : ∃ ws, viewParts g vs = some ws := by
  unfold mkSlice at h
  split at h
  · cases h
  · split at h
    · rename_i ws z s hws hz hs; exact ⟨ws, hws⟩
    · cases h

theorem newOf_loc {P : Program} (hL : Loc' ι g g') {e : TypeId} {x : AV} {u : Value} (hv : VR M ι x u) {p : Nat × List AV} (h : newOf P g e x = some p) : newOf P g' e x = some p := by
  unfold newOf at h ⊢
  split at h
  · exact h
  · exact h
  · rename_i h1 h2
    exact elemsOf_loc hL hv h

theorem qAppend_loc {P : Program} (hL : Loc' ι g g') {r : Ref} {t t' : Option TypeId} {s x : AV} {us ux : Value} (hs : VR M ι s us) (hx : VR M ι x ux) {res : AV × List Blk} (h : qAppend P g r t t' s x = some res) : qAppend P g' r t t' s x = some res := by
  unfold qAppend at h ⊢
  split at h
  · cases h
  · rename_i e he
    try simp only [he]
    split at h
    · cases h
    · rename_i hc
      rw [if_neg hc]
      split at h
      · rename_i z by' zz ez new hz hb hzz hnew
        try simp only [hz, hb, hzz, newOf_loc hL hx hnew]
        split at h
        · cases h
        · rename_i hc2
          rw [if_neg hc2]
          cases hs with
          | osl hr =>
            simp only at h ⊢
            split at h
            · rename_i b hgb
              rw [hL _ b hgb (by rw [hr]; simp)]
              exact h
            · cases h
          | v hv => (split at h) <;> first | exact h | cases h | simp_all
          | _ => exact h
      · cases h

theorem mapAt_loc (hL : Loc' ι g g') {r : Ref} (hr : ι r ≠ none) {ents : List AV} (h : mapAt g r = some ents) : mapAt g' r = some ents := by
  unfold mapAt at h ⊢
  cases hg : g r with
  | none => rw [hg] at h; cases h
  | some b => rw [hg] at h; rw [hL r b hg hr]; exact h

theorem qLookup_loc {P : Program} (hL : Loc' ι g g') {t : TypeId} {x : AV} {u : Value} (hv : VR M ι x u) {k : Option AV} {ok : Bool} {res : AV × List Blk} (h : qLookup P g t (some x) k ok = some res) : qLookup P g' t (some x) k ok = some res := by
  unfold qLookup at h ⊢
  split at h
  · rename_i kt et r' kv ht he hk
    cases he
    cases hv with | mp hr hz =>
    try simp only [ht, hk]
    split at h
    · rename_i ents hm
      rw [mapAt_loc hL (by rw [hr]; simp) hm]
      exact h
    · cases h
  · cases h

theorem evalQ_loc {E : Env} {pc : FuncId → List AV → Option AV} {draw : Bool} (hS : Sim M ι g' w) (hL : Loc' ι g g') {tm : List AV} {a : Act} (hT : TR M ι tm a) {r : Ref} {o : Oper} {x : AV} {bs : List Blk}
    (h : evalQ E pc draw g tm r o = some (x, bs)) : evalQ E pc draw g' tm r o = some (x, bs) := by
  unfold evalQ at h ⊢
  split at h
  · exact h
  · exact h
  · exact h
  · exact h
  · exact h
  · exact h
  · -- buildSlice
    rename_i t n ps hop
    cases hv : evalParts tm ps.toList with
    | none => rw [hv] at h; simp [qBuildSlice] at h
    | some vs =>
      rw [hv] at h
      generalize (draw && !E.strict o) = dr at h ⊢
      simp only [qBuildSlice] at h ⊢
      obtain ⟨h1, h2⟩ := Option.ite_none_right_eq_some.1 h
      simp only [Option.map_eq_some_iff] at h2
      obtain ⟨b, hb, h3⟩ := h2
      have hpv := parts_VR hT hv
      obtain ⟨ws, hws⟩ := mkSlice_views hb
      obtain ⟨h4, h5, h6⟩ := viewParts_loc hS hL hws hpv
      rw [h5, allFrz_loc hL h6 h1, mkSlice_loc hS hL hb hpv]
      simp [h3]
  · -- load
    rename_i t y hop
    unfold qLoad at h ⊢
    split at h
    · rename_i r' i j ag n hy hg hn
      try simp only [hy, hg, hn]
      split at h
      · rename_i b hb
        have hv := evalO_ok hT hy
        generalize a.eval y = u at hv
        cases hv with | ptr hr hzl =>
        rw [hL r' b hb (by rw [hr]; simp)]
        exact h
      · cases h
    · rename_i esz es i j ag n hy hg hn
      try simp only [hy, hg, hn]
      exact h
    · cases h
  · exact h
  · exact h
  · exact h
  · -- convert
    rename_i s d y hop
    cases hy : evalO tm y with
    | none => rw [hy] at h; simp [qConvert] at h
    | some y' =>
      rw [hy] at h
      have hv := evalO_ok hT hy
      unfold qConvert at h ⊢
      split at h
      · exact h
      · exact h
      · exact h
      · rename_i z h1 h2 h3 he
        injection he with he
        subst he
        split at h
        · rename_i hc
          try simp only [hc, if_true]
          split at h
          · rename_i p es hes
            rw [elemsOf_loc hL hv hes]
            exact h
          · cases h
        · rename_i hc
          try simp only [hc]
          split at h
          · rename_i hc2
            try simp only [hc2, if_true]
            split at h
            · generalize a.eval y = u at hv
              cases hv with | osl hr =>
              obtain ⟨hg, h⟩ := Option.ite_none_right_eq_some.1 h
              obtain ⟨k, hk⟩ := Option.isSome_iff_exists.1 hg
              have := hL _ k hk (by rw [hr]; simp)
              simp [this, h]
            · cases h
          · cases h
      · rename_i he; cases he
  · exact h
  · exact h
  · exact h
  · exact h
  · -- lookup
    rename_i t y k ok hop
    cases hy : evalO tm y with
    | none => rw [hy] at h; simp only [qLookup] at h; split at h <;> simp_all
    | some y' =>
      rw [hy] at h
      exact qLookup_loc hL (evalO_ok hT hy) h
  · -- slice
    rename_i t y lo hi mx hop
    cases hy : evalO tm y with
    | none => rw [hy] at h; simp only [qSlice] at h ⊢; exact h
    | some y' =>
      rw [hy] at h
      have hv := evalO_ok hT hy
      generalize a.eval y = u at hv
      cases hv with
      | osl hr =>
        simp only [qSlice] at h ⊢
        split at h
        · rename_i lo' hi' mx' h1 h2 h3
          try simp only [h1, h2, h3]
          split at h
          · rename_i b hb
            rw [hL _ b hb (by rw [hr]; simp)]
            exact h
          · cases h
        · cases h
      | _ => (unfold qSlice at h ⊢; (repeat' split at h) <;> simp_all)
  · exact h
  · exact h
  · -- indexAddr
    rename_i t y z hop
    cases hy : evalO tm y with
    | none => rw [hy] at h; exact h
    | some y' =>
      rw [hy] at h
      have hv := evalO_ok hT hy
      generalize a.eval y = u at hv
      cases hv with
      | osl hr =>
        simp only [qIndexAddr] at h ⊢
        split at h
        · rename_i k hk
          try simp only [hk]
          split at h
          · rename_i e he
            try simp only [he]
            split at h
            · rename_i esz es cap s hye hs
              cases hye
            · rename_i r' off len cap s hye hs
              injection hye with hye
              injection hye with e1 e2 e3 e4
              subst e1
              try simp only [hs]
              split at h
              · rename_i b hb
                rw [hL _ b hb (by rw [hr]; simp)]
                subst e2; subst e3
                exact h
              · cases h
            · cases h
          · rename_i he
            try simp only [he]
            exact h
        · cases h
      | _ => (unfold qIndexAddr at h ⊢; (repeat' split at h) <;> simp_all)
  · exact h
  · exact h
  · exact h
  · -- call
    rename_i c hop
    split at h
    · cases h
    · rename_i args hargs
      try simp only [hargs]
      have hvs := evalOs_ok hT hargs
      split at h
      · rename_i fo hc
        try simp only [hc]
        obtain ⟨p0, h, e0⟩ := Option.map_eq_some_iff.1 h
        refine Option.map_eq_some_iff.2 ⟨p0, ?_, e0⟩
        unfold qCall at h ⊢
        split at h
        · rename_i fi first captured hfo
          try simp only [hfo]
          split at h
          · cases h
          · rename_i hm
            rw [if_neg hm]
            obtain ⟨a', b', hfv, hva, hvb⟩ := (evalO_ok hT hfo).fnOf
            have hall : VRs M ι (first ++ args ++ captured) (a'.toList ++ c.args.toList.map a.eval ++ b'.toList) := (hva.append hvs).append hvb
            split at h
            · rename_i xs hxs
              obtain ⟨h1, h2, h3⟩ := views_loc hS hL hxs hall
              try simp only [h1]
              split at h
              · rename_i y hy
                try simp only [hy]
                obtain ⟨hcond, h⟩ := Option.ite_none_right_eq_some.1 h
                rw [h2]
                rw [if_pos]
                · exact h
                · simp only [Bool.or_eq_true] at hcond ⊢
                  rcases hcond with h4 | h4
                  · exact .inl h4
                  · exact .inr (allFrz_loc hL h3 h4)
              · cases h
            · cases h
        · cases h
      · cases h
      · rename_i b hc
        try simp only [hc]
        unfold qBuiltin at h ⊢
        split at h
        · rename_i r'
          obtain ⟨u, hu1⟩ := len1 hvs.1.symm
          rw [hu1] at hvs
          have hv := hvs.2 0 (.mp r') u rfl rfl
          cases hv with | mp hr hz =>
          obtain ⟨hd, h⟩ := Option.ite_none_left_eq_some.1 h
          simp only [if_neg hd]
          unfold qLenMap at h ⊢
          split at h
          · rename_i p ents ht hm
            try simp only [ht]
            simp only [mapAt_loc hL (by rw [hr]; simp) hm]
            exact h
          · cases h
        · exact h
        · exact h
        · exact h
        · rename_i y z
          obtain ⟨u, v, hu1⟩ := len2 hvs.1.symm
          rw [hu1] at hvs
          exact qAppend_loc hL (hvs.2 0 y u rfl rfl) (hvs.2 1 z v rfl rfl) h
        · exact h
        · cases h
  · cases h

end
end Go.Ab
