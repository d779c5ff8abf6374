/-
  Rules for a simplifier, on: what a call hands out as the caller's own, and what is behind a call. No statement of a seat is proved here.
-/
import Derived.Test.YtjampffmlnplcaaAbsAuto
set_option linter.unusedVariables false
set_option linter.unusedSimpArgs false
namespace Go.Ab

@[simp] theorem qFunc_some (f : Fn) (a b : List AV) : qFunc f (some a) (some b) = some (.fn f a b, []) := id rfl
attribute [simp] wStore_E
@[simp] theorem fillAV_nil (place : Nat → Option (Nat × Nat)) (cells : List AV) : fillAV place cells [] = some cells := id rfl
def fillC (place : Nat → Option (Nat × Nat)) (cells : List AV) (v : AV) (rest : List (Nat × AV)) (p : Option (Nat × Nat)) : Option (List AV) := match p with
  | none => none
  | some (off, size) => if v.cells.length = size ∧ off + size ≤ cells.length then fillAV place (patch cells off v.cells) rest else none
@[simp] theorem fillAV_cons (place : Nat → Option (Nat × Nat)) (cells : List AV) (i : Nat) (v : AV) (rest : List (Nat × AV)) : fillAV place cells ((i, v) :: rest) = fillC place cells v rest (place i) := id rfl
@[simp] theorem fillC_some (place : Nat → Option (Nat × Nat)) (cells : List AV) (v : AV) (rest : List (Nat × AV)) (off size : Nat) : fillC place cells v rest (some (off, size)) = if v.cells.length = size ∧ off + size ≤ cells.length then fillAV place (patch cells off v.cells) rest else none := id rfl
@[simp] theorem qConv_i_u64 (P : Program) {g : Get} {r : Ref} {src dst : TypeId} {k' : IntKind} (hs : (P.underlying src).isNone = false) (hd : intKind P dst = some .u64) (n : Int) (h0 : 0 ≤ n) (h1 : n ≤ 4294967296) :
    qConvert P g r src dst (some (.v (.int k' n))) = some (.v (.int .u64 n), []) := by
  rw [qConv_int P .u64 hs hd, IntKind.wrap_u64, Int.emod_eq_of_lt h0 (by omega)]
@[simp] theorem put_cons (r' : Ref) (b' : Option Blk) (H : Heap) (r : Ref) (b : Option Blk) : Heap.put ((r', b') :: H) r b = if r' = r then (r, b) :: H else (r', b') :: Heap.put H r b := id rfl

@[simp] theorem take_map_all {α β : Type} (f : α → β) (l : List α) : List.take l.length (l.map f) = l.map f := List.take_of_length_le (by simp)

/- ## Slices that a call hands out as the caller's own -/
/-- Nil; or elements in new memory. -/
def OutS (z : Nat) (es : List AV) (y : AV) : Prop := (y = aNil ∧ es = []) ∨ y = .fsl z es none ∨ (y = .fsl z [] (some 0) ∧ es = [])
theorem out_nil (z : Nat) : OutS z [] aNil := .inl ⟨rfl, rfl⟩
@[simp] theorem OutS_nil (z : Nat) (es : List AV) : OutS z es aNil ↔ es = [] := by
  constructor
  · rintro (⟨_, e⟩ | e | ⟨e, _⟩)
    · exact e
    · cases e
    · cases e
  · rintro rfl; exact out_nil z
@[simp] theorem OutS_fsl (z : Nat) (es es' : List AV) : OutS z es (.fsl z es' none) ↔ es = es' := by
  constructor
  · rintro (⟨e, _⟩ | e | ⟨e, _⟩)
    · cases e
    · cases e; rfl
    · cases e
  · rintro rfl; exact .inr (.inl rfl)
@[simp] theorem OutS_fsl0 (z : Nat) (es : List AV) : OutS z es (.fsl z [] (some 0)) ↔ es = [] := by
  constructor
  · rintro (⟨e, _⟩ | e | ⟨_, e⟩)
    · cases e
    · cases e
    · exact e
  · rintro rfl; exact .inr (.inr ⟨rfl, rfl⟩)

/-- As a slice of the caller's, in its heap: nil, or all of a block of its own. -/
def Has (z : Nat) (es : List AV) (H : Heap) (x : AV) : Prop := (x = aNil ∧ es = []) ∨ ∃ r c, x = .osl r 0 es.length c ∧ H.get r = some ⟨z, es, true, false⟩ ∧ c.getD es.length = es.length

/-- Where the parts of an answer go. -/
def impV (r : Ref) (y : AV) (k : Nat) : AV := match y with
  | .fsl _ es c => .osl { r with k := k } 0 es.length c
  | y => y
def impB (y : AV) : List Blk := match y with
  | .fsl z es _ => [⟨z, es, true, false⟩]
  | _ => []
theorem OutS.imp {z : Nat} {es : List AV} {y : AV} (h : OutS z es y) (hz : z ≠ 0) (r : Ref) (n : Nat) (bs : List Blk) : importA r (n + 1) y bs = (impV r y bs.length, bs ++ impB y) := by
  rcases h with ⟨rfl, rfl⟩ | rfl | ⟨rfl, rfl⟩
  · simp [impV, impB]
  · simp [impV, impB, hz]
  · simp [impV, impB, hz]
theorem OutS.notFlat {z : Nat} {es : List AV} {y : AV} (h : OutS z es y) (n : Nat) : flat (n + 1) y = true ↔ y = aNil := by
  rcases h with ⟨rfl, rfl⟩ | rfl | ⟨rfl, rfl⟩ <;> simp
@[simp] theorem impV_v (r : Ref) (x : Value) (k : Nat) : impV r (.v x) k = .v x := id rfl
@[simp] theorem impV_fsl (r : Ref) (z : Nat) (es : List AV) (c : Option Nat) (k : Nat) : impV r (.fsl z es c) k = .osl { r with k := k } 0 es.length c := id rfl
@[simp] theorem impB_v (x : Value) : impB (.v x) = [] := id rfl
@[simp] theorem impB_fsl (z : Nat) (es : List AV) (c : Option Nat) : impB (.fsl z es c) = [⟨z, es, true, false⟩] := id rfl

/-- An append to a slice of the call's own of a capacity that is told and exceeded. -/
theorem appRes_oslC {P : Program} {t t' : TypeId} (hT : elOk P t = true) (hA : apT P t' = true) (wk : Bool) (H : Heap) (r q : Ref) (n k : Nat) (x : AV) {es new : List AV} {fz : Bool} (hq : H.get q = some ⟨elZ P t, es, true, fz⟩) (hx : elsOf (elZ P t) H.get x = some new) (hn : n = es.length) (hk : new = [] ∨ ((es.length + new.length) * elBy P t ≤ roomB ∧ k < es.length + new.length)) :
    appRes P wk H r (some t) (some t') (.osl q 0 n (some k)) x = if new = [] then some (.osl q 0 n (some k), H) else some (.osl r 0 (es.length + new.length) none, ({ r with k := 0 }, some ⟨elZ P t, es ++ new, true, false⟩) :: H) := by
  subst hn
  have hx := elsOf_Els hx
  unfold elOk at hT
  obtain ⟨e, zz, h1, h2, h3, h4, h5, h6, h7, h8⟩ := elT_some hT
  have hnew := hx.newOf hT h1
  unfold apT at hA
  simp only [Bool.and_eq_true, Bool.not_eq_true'] at hA
  have hun : (P.underlying t').isNone = false := by cases h : P.underlying t' with | none => rw [h] at hA; simp at hA | some d => rfl
  have hc : ¬ ((P.underlying t').isNone = true ∨ isInt P t' ≠ isNum x) := by rw [hun, hA.2, hx.num]; simp
  have hd : ¬ (elZ P t ≠ elZ P t ∨ elZ P t = 0 ∨ elBy P t = 0 ∨ zz.cells.length ≠ elZ P t) := by simp [h5, h7, h8]
  by_cases hne : new = []
  · subst hne
    simp only [appRes, qAppend, Option.bind_some, h1, Option.map_some, Option.getD_some, if_neg hc, h2, h3, h4, hnew, if_neg hd, hq, if_true]
    simp
  · obtain ⟨hb, hk⟩ := hk.resolve_left hne
    simp only [appRes, qAppend, Option.bind_some, h1, Option.map_some, Option.getD_some, if_neg hc, h2, h3, h4, hnew, if_neg hd, hq, if_neg hne]
    simp only [ne_eq, not_true_eq_false, Bool.true_eq_false, or_self, if_false, Nat.zero_add, Nat.le_refl, hk, hb, and_self, if_true, List.drop_zero, List.take_length]
    rfl
/-- Asked of an append to a slice of the call's own. -/
def appFine (z by' n : Nat) (wk : Bool) (c : Option Nat) (b : Option Blk) (new : Option (List AV)) : Prop := match b, new with
  | some ⟨z', es, true, _⟩, some new => z' = z ∧ n = es.length ∧ (new = [] ∨ ((es.length + new.length) * by' ≤ roomB ∧ match c with | none => wk = true | some k => k < es.length + new.length))
  | _, _ => False
theorem appFine_n (z by' n : Nat) (wk : Bool) (z' : Nat) (es new : List AV) (fz : Bool) : appFine z by' n wk none (some ⟨z', es, true, fz⟩) (some new) = (z' = z ∧ n = es.length ∧ (new = [] ∨ ((es.length + new.length) * by' ≤ roomB ∧ wk = true))) := id rfl
theorem appFine_s (z by' n : Nat) (wk : Bool) (k z' : Nat) (es new : List AV) (fz : Bool) : appFine z by' n wk (some k) (some ⟨z', es, true, fz⟩) (some new) = (z' = z ∧ n = es.length ∧ (new = [] ∨ ((es.length + new.length) * by' ≤ roomB ∧ k < es.length + new.length))) := id rfl
/-- What it comes to. -/
def appG (z : Nat) (H : Heap) (q r : Ref) (n : Nat) (c : Option Nat) (b : Option Blk) (new : Option (List AV)) : WRes := match b, new with
  | some b, some [] => some (.osl q 0 n c, H)
  | some b, some new => match c with
    | none => some (.osl ⟨q.d, q.t, H.gen q.d q.t, 0⟩ 0 (b.es.length + new.length) none, (⟨q.d, q.t, H.gen q.d q.t, 0⟩, some ⟨z, b.es ++ new, true, b.frz⟩) :: H.put q none)
    | some _ => some (.osl r 0 (b.es.length + new.length) none, ({ r with k := 0 }, some ⟨z, b.es ++ new, true, false⟩) :: H)
  | _, _ => none
@[simp] theorem appG_nil (z : Nat) (H : Heap) (q r : Ref) (n : Nat) (c : Option Nat) (b : Blk) : appG z H q r n c (some b) (some []) = some (.osl q 0 n c, H) := id rfl
theorem appG_n (z : Nat) (H : Heap) (q r : Ref) (n : Nat) (b : Blk) (new : List AV) (hn : new ≠ []) : appG z H q r n none (some b) (some new) = some (.osl ⟨q.d, q.t, H.gen q.d q.t, 0⟩ 0 (b.es.length + new.length) none, (⟨q.d, q.t, H.gen q.d q.t, 0⟩, some ⟨z, b.es ++ new, true, b.frz⟩) :: H.put q none) := by
  cases new with
  | nil => exact (hn rfl).elim
  | cons _ _ => rfl
theorem appG_s (z : Nat) (H : Heap) (q r : Ref) (n k : Nat) (b : Blk) (new : List AV) (hn : new ≠ []) : appG z H q r n (some k) (some b) (some new) = some (.osl r 0 (b.es.length + new.length) none, ({ r with k := 0 }, some ⟨z, b.es ++ new, true, false⟩) :: H) := by
  cases new with
  | nil => exact (hn rfl).elim
  | cons _ _ => rfl
theorem appRes_G {P : Program} {t t' : TypeId} (hT : elOk P t = true) (hA : apT P t' = true) (wk : Bool) (H : Heap) (r q : Ref) (n : Nat) (c : Option Nat) (x : AV) (hf : appFine (elZ P t) (elBy P t) n wk c (H.get q) (elsOf (elZ P t) H.get x)) :
    appRes P wk H r (some t) (some t') (.osl q 0 n c) x = appG (elZ P t) H q r n c (H.get q) (elsOf (elZ P t) H.get x) := by
  cases hq : H.get q with
  | none => rw [hq] at hf; exact hf.elim
  | some b =>
    obtain ⟨z', es, arr, fz⟩ := b
    cases hx : elsOf (elZ P t) H.get x with
    | none => rw [hq, hx] at hf; cases arr <;> exact hf.elim
    | some new =>
      rw [hq, hx] at hf
      cases arr with
      | false => exact hf.elim
      | true =>
        obtain ⟨rfl, rfl, hf⟩ := hf
        cases c with
        | none =>
          by_cases hn : new = []
          · subst hn
            rw [appG_nil]
            have hx' := elsOf_Els hx
            unfold elOk at hT
            obtain ⟨e, zz, h1, h2, h3, h4, h5, h6, h7, h8⟩ := elT_some hT
            have hnew := hx'.newOf hT h1
            unfold apT at hA
            simp only [Bool.and_eq_true, Bool.not_eq_true'] at hA
            have hun : (P.underlying t').isNone = false := by cases h : P.underlying t' with | none => rw [h] at hA; simp at hA | some d => rfl
            have hc : ¬ ((P.underlying t').isNone = true ∨ isInt P t' ≠ isNum x) := by rw [hun, hA.2, hx'.num]; simp
            have hd : ¬ (elZ P t ≠ elZ P t ∨ elZ P t = 0 ∨ elBy P t = 0 ∨ zz.cells.length ≠ elZ P t) := by simp [h5, h7, h8]
            simp only [appRes, qAppend, Option.bind_some, h1, Option.map_some, Option.getD_some, if_neg hc, h2, h3, h4, hnew, if_neg hd, hq, if_true]
            simp
          · obtain ⟨hb, rfl⟩ := hf.resolve_left hn
            rw [appG_n _ _ _ _ _ _ _ hn]
            exact app_ownB (by exact hT) hA H r q _ (elsOf_Els hx) hq rfl hn hb
        | some k =>
          rw [appRes_oslC hT hA wk H r q _ k x hq hx rfl hf]
          split
          · rename_i hn; subst hn; rfl
          · rename_i hn; rw [appG_s _ _ _ _ _ _ _ _ hn]
theorem Sl.nilEq {z : Nat} {es : List AV} {x : AV} (h : Sl z es x) : x = aNil ∧ es = [] ∨ ∃ c, x = .isl z es c := by
  rcases h with h | ⟨c, h, _⟩
  · exact .inl h
  · exact .inr ⟨c, h⟩
@[simp] theorem qBin_isl_nil (P : Program) (t : TypeId) (xo yo : Operand) (h : (telem P t).isSome = true) (z : Nat) (es : List AV) (c : Option Nat) : qBin P .eql t xo yo (some (.isl z es c)) (some aNil) = some (aB false, []) := by
  unfold telem at h
  split at h
  · rename_i e he
    simp [qBin, isSl, nilSlice, he]
  · cases h

def frzO (b : Option Blk) : Bool := match b with | some b => b.frz | none => false
@[simp] theorem frzO_some (b : Blk) : frzO (some b) = b.frz := id rfl
@[simp] theorem allFrz_nil (g : Get) : allFrz g [] = true := id rfl
@[simp] theorem allFrz_cons (g : Get) (r : Ref) (rs : List Ref) : allFrz g (r :: rs) = (frzO (g r) && allFrz g rs) := id rfl
/-- An answer that may hold what was told: that is not written from here on. -/
theorem callG_own (H : Heap) (r : Ref) (refs : List Ref) (y : AV) (h1 : flat depth y = false) (h2 : allFrz H.get refs = false) : callG true H r refs (some y) = some ((importA r depth y []).1, keyed r 0 (importA r depth y []).2 (freezeAll H refs)) := by
  simp only [callG, h1, h2, Bool.or_self, Bool.false_eq_true, if_false, if_true]

/-- 'append(nil, x..)': nil, or new memory. -/
def outA (z : Nat) : List AV → AV
  | [] => aNil
  | es => .fsl z es none
@[simp] theorem outA_nil (z : Nat) : outA z [] = aNil := id rfl
theorem outA_ne (z : Nat) {es : List AV} (h : es ≠ []) : outA z es = .fsl z es none := by
  cases es with
  | nil => exact (h rfl).elim
  | cons _ _ => rfl
/-- 'slices.Clone'. -/
def cloneA : AV → AV
  | .isl z [] _ => .fsl z [] (some 0)
  | .isl z es _ => .fsl z es none
  | x => x
@[simp] theorem cloneA_v (x : Value) : cloneA (.v x) = .v x := id rfl
@[simp] theorem cloneA_nil (z : Nat) (c : Option Nat) : cloneA (.isl z [] c) = .fsl z [] (some 0) := id rfl
theorem cloneA_ne (z : Nat) {es : List AV} (c : Option Nat) (h : es ≠ []) : cloneA (.isl z es c) = .fsl z es none := by
  cases es with
  | nil => exact (h rfl).elim
  | cons _ _ => rfl
theorem cloneA_out {z : Nat} {es : List AV} {x : AV} (h : Sl z es x) : OutS z es (cloneA x) := by
  rcases h with ⟨rfl, rfl⟩ | ⟨c, rfl, _⟩
  · simp
  · by_cases he : es = []
    · subst he; simp
    · rw [cloneA_ne z c he]; simp
theorem outA_out (z : Nat) (es : List AV) : OutS z es (outA z es) := by
  by_cases he : es = []
  · subst he; simp
  · rw [outA_ne z he]; simp

/-- A slice as it is seen in a heap: data, or all of a block. -/
def SeenS (z : Nat) (es : List AV) (H : Heap) (x y : AV) : Prop := (x = y ∧ Sl z es y) ∨ ∃ r c fz, x = .osl r 0 es.length c ∧ H.get r = some ⟨z, es, true, fz⟩ ∧ y = .isl z es c ∧ es.length ≤ c.getD es.length
theorem SeenS.sl {z : Nat} {es : List AV} {H : Heap} {x y : AV} (h : SeenS z es H x y) : Sl z es y := by
  rcases h with ⟨_, h⟩ | ⟨r, c, fz, _, _, rfl, h⟩
  · exact h
  · exact .inr ⟨c, rfl, h⟩
theorem SeenS.view {z : Nat} {es : List AV} {H : Heap} {x y : AV} (h : SeenS z es H x y) (n : Nat) : Ab.view H.get (n + 1) x = some y := by
  rcases h with ⟨rfl, h⟩ | ⟨r, c, fz, rfl, hr, rfl, _⟩
  · exact h.view _ _
  · rw [view_full hr rfl]
theorem SeenS.len {z : Nat} {es : List AV} {H : Heap} {x y : AV} (h : SeenS z es H x y) : lenAV x = some es.length := by
  rcases h with ⟨rfl, h⟩ | ⟨r, c, fz, rfl, hr, rfl, _⟩
  · exact h.len
  · rfl
theorem SeenS.cells {z : Nat} {es : List AV} {H : Heap} {x y : AV} (h : SeenS z es H x y) : x.cells = [x] ∧ x.one = true := by
  rcases h with ⟨rfl, h⟩ | ⟨r, c, fz, rfl, hr, rfl, _⟩
  · exact h.cells
  · exact ⟨rfl, rfl⟩
theorem SeenS.put {z : Nat} {es : List AV} {H : Heap} {x y : AV} (h : SeenS z es H x y) {q : Ref} (hq : x.at? ≠ some q) (b : Option Blk) : SeenS z es (H.put q b) x y := by
  rcases h with h | ⟨r, c, fz, rfl, hr, rfl, hc⟩
  · exact .inl h
  · refine .inr ⟨r, c, fz, rfl, ?_, rfl, hc⟩
    rw [Heap.get_put, if_neg (by rintro rfl; exact hq rfl), hr]
theorem SeenS.cons {z : Nat} {es : List AV} {H : Heap} {x y : AV} (h : SeenS z es H x y) (hF : Fr H) (d t : Nat) (b : Option Blk) : SeenS z es ((⟨d, t, H.gen d t, 0⟩, b) :: H) x y := by
  rcases h with h | ⟨r, c, fz, rfl, hr, rfl, hc⟩
  · exact .inl h
  · refine .inr ⟨r, c, fz, rfl, ?_, rfl, hc⟩
    rw [Heap.get_cons, if_neg (live_ne hF (by rw [hr]; rfl) d t 0), hr]
theorem SeenS.r {z : Nat} {es : List AV} {H : Heap} {x y : AV} (h : SeenS z es H x y) : lenAV x = some es.length ∧ (∀ n, Ab.view H.get (n + 1) x = some y) ∧ x.cells = [x] ∧ x.one = true := ⟨h.len, h.view, h.cells⟩
theorem SeenS.of {z : Nat} {es : List AV} {x : AV} (h : Sl z es x) (H : Heap) : SeenS z es H x x := .inl ⟨rfl, h⟩
/-- A slice of the call's own that it may write. -/
def Mine (z : Nat) (es : List AV) (H : Heap) (x : AV) (r : Ref) : Prop := (x = aNil ∧ es = []) ∨ ∃ c, x = .osl r 0 es.length c ∧ H.get r = some ⟨z, es, true, false⟩
theorem Mine.len {z : Nat} {es : List AV} {H : Heap} {x : AV} {r : Ref} (h : Mine z es H x r) : lenAV x = some es.length := by
  rcases h with ⟨rfl, rfl⟩ | ⟨c, rfl, _⟩ <;> rfl
theorem Mine.cells {z : Nat} {es : List AV} {H : Heap} {x : AV} {r : Ref} (h : Mine z es H x r) : x.cells = [x] ∧ x.one = true := by
  rcases h with ⟨rfl, rfl⟩ | ⟨c, rfl, _⟩ <;> exact ⟨rfl, rfl⟩
theorem Mine.osl {z : Nat} {es : List AV} {H : Heap} {x : AV} {r : Ref} (h : Mine z es H x r) {k : Nat} (hk : k < es.length) : ∃ c, x = .osl r 0 es.length c ∧ H.get r = some ⟨z, es, true, false⟩ := by
  rcases h with ⟨rfl, rfl⟩ | h
  · simp at hk
  · exact h

/-- A slice of the call's own, whose block was made at one of some places. -/
def OwnAt (ts : List Nat) (z : Nat) (es : List AV) (H : Heap) (x : AV) : Prop := (x = aNil ∧ es = []) ∨ ∃ t g, t ∈ ts ∧ x = .osl ⟨0, t, g, 0⟩ 0 es.length none ∧ H.get ⟨0, t, g, 0⟩ = some ⟨z, es, true, false⟩
@[simp] theorem OwnAt_nil (ts : List Nat) (z : Nat) (es : List AV) (H : Heap) : OwnAt ts z es H aNil ↔ es = [] := by
  constructor
  · rintro (⟨_, e⟩ | ⟨t, g, _, e, _⟩)
    · exact e
    · cases e
  · rintro rfl; exact .inl ⟨rfl, rfl⟩
@[simp] theorem OwnAt_osl (ts : List Nat) (z : Nat) (es : List AV) (H : Heap) (t g n : Nat) : OwnAt ts z es H (.osl ⟨0, t, g, 0⟩ 0 n none) ↔ t ∈ ts ∧ n = es.length ∧ H.get ⟨0, t, g, 0⟩ = some ⟨z, es, true, false⟩ := by
  constructor
  · rintro (⟨e, _⟩ | ⟨t', g', ht, e, h⟩)
    · cases e
    · cases e; exact ⟨ht, rfl, h⟩
  · rintro ⟨ht, rfl, h⟩; exact .inr ⟨t, g, ht, rfl, h⟩
theorem SeenS.live {z : Nat} {es : List AV} {H : Heap} {x y : AV} (h : SeenS z es H x y) {r : Ref} (hr : x.at? = some r) : (H.get r).isSome = true := by
  rcases h with ⟨rfl, h⟩ | ⟨r', c, fz, rfl, hr', rfl, _⟩
  · rcases h with ⟨rfl, _⟩ | ⟨c, rfl, _⟩ <;> cases hr
  · cases hr; rw [hr']; rfl
theorem SeenS.mono {z : Nat} {es : List AV} {H H' : Heap} {x y : AV} (h : SeenS z es H x y) (hk : ∀ r, x.at? = some r → H'.get r = H.get r) : SeenS z es H' x y := by
  rcases h with h | ⟨r', c, fz, rfl, hr', rfl, hc⟩
  · exact .inl h
  · exact .inr ⟨r', c, fz, rfl, by rw [hk r' rfl, hr'], rfl, hc⟩

theorem new_ne1 {H : Heap} (hF : Fr H) {q : Ref} (h : (H.get q).isSome = true) (d t k : Nat) : ((⟨d, t, H.gen d t + 1, k⟩ : Ref) = q) = False :=
  eq_false fun e => by subst e; rw [hF _ _ _ _ (Nat.le_succ _)] at h; cases h
theorem ne_new1 {H : Heap} (hF : Fr H) {q : Ref} (h : (H.get q).isSome = true) (d t k : Nat) : (q = (⟨d, t, H.gen d t + 1, k⟩ : Ref)) = False :=
  eq_false fun e => by subst e; rw [hF _ _ _ _ (Nat.le_succ _)] at h; cases h
theorem get_new1 {H : Heap} (hF : Fr H) (d t k : Nat) : H.get ⟨d, t, H.gen d t + 1, k⟩ = none := hF _ _ _ _ (Nat.le_succ _)

theorem Fr_consK {H : Heap} (hF : Fr H) {d t g : Nat} (k : Nat) (hg : g = H.gen d t ∨ g + 1 = H.gen d t) (b : Option Blk) : Fr ((⟨d, t, g, k⟩, b) :: H) := by
  intro d' t' g' k' h
  rw [Heap.gen_cons] at h
  rw [Heap.get_cons]
  by_cases he : d = d' ∧ t = t'
  · obtain ⟨rfl, rfl⟩ := he
    rw [if_pos ⟨rfl, rfl⟩] at h
    rw [if_neg (by intro e; injection e; omega)]
    exact hF _ _ _ _ (by omega)
  · rw [if_neg he] at h
    rw [if_neg (by intro e; injection e with e1 e2; exact he ⟨e1, e2⟩)]
    exact hF _ _ _ _ h

end Go.Ab
