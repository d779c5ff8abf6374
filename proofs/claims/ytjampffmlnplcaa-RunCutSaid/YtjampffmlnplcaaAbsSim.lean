/-
  How the abstract machine's values and memory stand to the model's. No statement of a seat is proved here.
-/
import Derived.Test.YtjampffmlnplcaaAbsDef
set_option linter.unusedVariables false
set_option linter.unusedSimpArgs false
namespace Go.Ab

theorem pureRun_run {α : Type} {P : Program} {s : Sem α} : ∀ {a : α}, pureRun P s = some a → ∀ w, s.run P w = .ok a w := by
  induction s with
  | pure a => intro b h w; simp [pureRun] at h; subst h; rfl
  | program k ih => intro a h w; exact ih P h w
  | mark m k ih => intro a h w; exact ih h w
  | _ => intro a h; simp [pureRun] at h

/- ## Lists in Option -/
theorem mapM_len {α β : Type} {f : α → Option β} : ∀ {l : List α} {l' : List β}, l.mapM f = some l' → l'.length = l.length := by
  intro l
  induction l with
  | nil => intro l' h; simp at h; subst h; rfl
  | cons a l ih =>
    intro l' h
    simp only [List.mapM_cons, Option.pure_def, Option.bind_eq_bind, Option.bind_eq_some_iff] at h
    obtain ⟨b, _, bs, hbs, hh⟩ := h
    simp at hh
    subst hh
    simp [ih hbs]

theorem mapM_at {α β : Type} {f : α → Option β} : ∀ {l : List α} {l' : List β}, l.mapM f = some l' → ∀ (i : Nat) (y : β), l'[i]? = some y → ∃ x, l[i]? = some x ∧ f x = some y := by
  intro l
  induction l with
  | nil => intro l' h i y hy; simp at h; subst h; simp at hy
  | cons a l ih =>
    intro l' h i y hy
    simp only [List.mapM_cons, Option.pure_def, Option.bind_eq_bind, Option.bind_eq_some_iff] at h
    obtain ⟨b, hb, bs, hbs, hh⟩ := h
    simp at hh
    subst hh
    cases i with
    | zero => simp at hy; subst hy; exact ⟨a, rfl, hb⟩
    | succ i => simp at hy; simpa using ih hbs i y hy

theorem mapM_at' {α β : Type} {f : α → Option β} {l : List α} {l' : List β} (h : l.mapM f = some l') (i : Nat) (x : α) (hx : l[i]? = some x) : ∃ y, l'[i]? = some y ∧ f x = some y := by
  have hl := mapM_len h
  have hi : i < l'.length := by rw [hl]; exact (List.getElem?_eq_some_iff.1 hx).1
  obtain ⟨x', hx', hf⟩ := mapM_at h i l'[i] (List.getElem?_eq_getElem hi)
  rw [hx] at hx'
  cases hx'
  exact ⟨_, List.getElem?_eq_getElem hi, hf⟩

/- ## Values -/
abbrev Mem := Nat → Nat → Option Value

/-- Where a block of the abstract machine stands: the model's block, how many cells an element has, how many elements there is room for. -/
structure Loc where
  b : Nat
  esz : Nat
  n : Nat

abbrev Map := Ref → Option Loc
def noMap : Map := fun _ => none

inductive VR (M : Mem) : Map → AV → Value → Prop
  | v {ι x} (h : scalar x = true) : VR M ι (.v x) x
  | agg {ι cs vs} (hl : cs.length = vs.size) (h : ∀ (i : Nat) c u, cs[i]? = some c → vs[i]? = some u → VR M ι c u) : VR M ι (.agg cs) (.agg vs)
  | tup {ι cs vs} (h0 : cs ≠ []) (hl : cs.length = vs.size) (h : ∀ (i : Nat) c u, cs[i]? = some c → vs[i]? = some u → VR M ι c u) : VR M ι (.tup cs) (.tuple vs)
  | isl {ι esz es cap a c} (cell : Nat → Nat → Value) (hs : a.spot = none ∨ es = []) (hc : es.length ≤ c) (hk : ∀ k, cap = some k → c = k)
      (hm : ∀ i j, i < es.length → j < esz → M a.block (a.off + (i * esz + j)) = some (cell i j) ∧ (cell i j).oneCell' = true)
      (he : ∀ e ∈ es, e.cells.length = esz)
      (h : ∀ (i j : Nat) e x, es[i]? = some e → e.cells[j]? = some x → VR M noMap x (cell i j)) : VR M ι (.isl esz es cap) (.slice (some a) es.length c)
  | osl {ι r off len cap l a c} (hr : ι r = some l) (hb : a.block = l.b) (hs : a.spot = none) (ha : c = 0 ∨ a.off = off * l.esz) (hc : len ≤ c) (hn : c = 0 ∨ off + c ≤ l.n)
      (hk : ∀ k, cap = some k → c = k) (hz : 0 < l.esz) : VR M ι (.osl r off len cap) (.slice (some a) len c)
  | ptr {ι r i j l} (hr : ι r = some l) (hz : 0 < l.esz) : VR M ι (.ptr r i j) (.pointer (some ⟨l.b, i * l.esz + j, none⟩))
  | iptr {ι esz es i j b o} (cell : Nat → Nat → Value)
      (hm : ∀ i j, i < es.length → j < esz → M b (o + (i * esz + j)) = some (cell i j) ∧ (cell i j).oneCell' = true)
      (he : ∀ e ∈ es, e.cells.length = esz)
      (h : ∀ (i j : Nat) e x, es[i]? = some e → e.cells[j]? = some x → VR M noMap x (cell i j)) : VR M ι (.iptr esz es i j) (.pointer (some ⟨b, o + (i * esz + j), none⟩))
  | fn {ι f a b a' b'} (ha : a.length = a'.size) (hb : b.length = b'.size) (h : ∀ (i : Nat) c u, a[i]? = some c → a'[i]? = some u → VR M ι c u)
      (h' : ∀ (i : Nat) c u, b[i]? = some c → b'[i]? = some u → VR M ι c u) : VR M ι (.fn f a b) (.func f a' b')
  | ifc {ι t x u} (h : VR M ι x u) : VR M ι (.ifc t x) (.iface t u)
  | yld {ι r l} (hr : ι r = some l) (hz : l.esz = 0) : VR M ι (.yld r) (.func (.yield l.b) #[] #[])
  | mp {ι r l} (hr : ι r = some l) (hz : l.esz = 0) : VR M ι (.mp r) (.map (some l.b))

theorem VR.mono {M M' : Mem} (hM : ∀ b o x, M b o = some x → M' b o = some x) {ι : Map} {x : AV} {u : Value} (h : VR M ι x u) :
    ∀ ι' : Map, (∀ r l, ι r = some l → ι' r = some l) → VR M' ι' x u := by
  induction h with
  | v h => intro ι' _; exact .v h
  | agg hl _ ih => intro ι' hi; exact .agg hl fun i c u hc hu => ih i c u hc hu ι' hi
  | tup h0 hl _ ih => intro ι' hi; exact .tup h0 hl fun i c u hc hu => ih i c u hc hu ι' hi
  | isl cell hs hc hk hm he _ ih =>
    intro ι' hi
    exact .isl cell hs hc hk (fun i j h1 h2 => ⟨hM _ _ _ (hm i j h1 h2).1, (hm i j h1 h2).2⟩) he fun i j e x h1 h2 => ih i j e x h1 h2 noMap (fun _ _ h => h)
  | osl hr hb hs ha hc hn hk hz => intro ι' hi; exact .osl (hi _ _ hr) hb hs ha hc hn hk hz
  | ptr hr hz => intro ι' hi; exact .ptr (hi _ _ hr) hz
  | yld hr hz => intro ι' hi; exact .yld (hi _ _ hr) hz
  | mp hr hz => intro ι' hi; exact .mp (hi _ _ hr) hz
  | iptr cell hm he _ ih =>
    intro ι' hi
    exact .iptr cell (fun i j h1 h2 => ⟨hM _ _ _ (hm i j h1 h2).1, (hm i j h1 h2).2⟩) he fun i j e x h1 h2 => ih i j e x h1 h2 noMap (fun _ _ h => h)
  | fn ha hb _ _ ih ih' => intro ι' hi; exact .fn ha hb (fun i c u hc hu => ih i c u hc hu ι' hi) fun i c u hc hu => ih' i c u hc hu ι' hi
  | ifc _ ih => intro ι' hi; exact .ifc (ih ι' hi)

theorem VR.up {M : Mem} {x : AV} {u : Value} (h : VR M noMap x u) (ι : Map) : VR M ι x u := h.mono (fun _ _ _ h => h) ι (fun _ _ h => by cases h)

/-- Lists of values. -/
def VRs (M : Mem) (ι : Map) (xs : List AV) (us : List Value) : Prop := xs.length = us.length ∧ ∀ (i : Nat) x u, xs[i]? = some x → us[i]? = some u → VR M ι x u

theorem VRs.nil {M : Mem} {ι : Map} : VRs M ι [] [] := ⟨rfl, fun i x u h => by simp at h⟩
theorem VRs.cons {M : Mem} {ι : Map} {x : AV} {u : Value} {xs : List AV} {us : List Value} (h : VR M ι x u) (hs : VRs M ι xs us) : VRs M ι (x :: xs) (u :: us) :=
  ⟨by simp [hs.1], fun i y v hy hv => by
    cases i with
    | zero => simp at hy hv; subst hy; subst hv; exact h
    | succ i => simp at hy hv; exact hs.2 i y v hy hv⟩
theorem VRs.append {M : Mem} {ι : Map} {xs ys : List AV} {us vs : List Value} (h : VRs M ι xs us) (h' : VRs M ι ys vs) : VRs M ι (xs ++ ys) (us ++ vs) :=
  ⟨by simp [h.1, h'.1], fun i y v hy hv => by
    rcases Nat.lt_or_ge i xs.length with hi | hi
    · rw [List.getElem?_append_left hi] at hy
      rw [List.getElem?_append_left (h.1 ▸ hi)] at hv
      exact h.2 i y v hy hv
    · rw [List.getElem?_append_right hi] at hy
      rw [List.getElem?_append_right (h.1 ▸ hi)] at hv
      rw [← h.1] at hv
      exact h'.2 _ y v hy hv⟩
theorem VRs.mono {M M' : Mem} {ι ι' : Map} {xs : List AV} {us : List Value} (h : VRs M ι xs us) (hM : ∀ b o x, M b o = some x → M' b o = some x) (hι : ∀ r l, ι r = some l → ι' r = some l) : VRs M' ι' xs us :=
  ⟨h.1, fun i x u hx hu => (h.2 i x u hx hu).mono hM ι' hι⟩
theorem VRs.take {M : Mem} {ι : Map} {xs : List AV} {us : List Value} (h : VRs M ι xs us) (n : Nat) : VRs M ι (xs.take n) (us.take n) :=
  ⟨by simp [h.1], fun i x u hx hu => by
    rw [List.getElem?_take] at hx hu
    split at hx
    · rename_i hlt; rw [if_pos hlt] at hu; exact h.2 i x u hx hu
    · cases hx⟩
theorem VRs.drop {M : Mem} {ι : Map} {xs : List AV} {us : List Value} (h : VRs M ι xs us) (n : Nat) : VRs M ι (xs.drop n) (us.drop n) :=
  ⟨by simp [h.1], fun i x u hx hu => by
    rw [List.getElem?_drop] at hx hu
    exact h.2 _ x u hx hu⟩

theorem VR.agg_iff {M : Mem} {ι : Map} {cs : List AV} {vs : Array Value} : VR M ι (.agg cs) (.agg vs) ↔ VRs M ι cs vs.toList :=
  ⟨fun h => by cases h with | agg hl h => exact ⟨by simpa using hl, fun i x u hx hu => h i x u hx (by simpa using hu)⟩,
   fun h => .agg (by simpa using h.1) fun i c u hc hu => h.2 i c u hc (by simpa using hu)⟩

/-- The cells of a value. -/
theorem VR.cells {M : Mem} {ι : Map} {x : AV} {u : Value} (h : VR M ι x u) : VRs M ι x.cells u.cells.toList := by
  have one : ∀ {x : AV} {u : Value}, VR M ι x u → x.cells = [x] → u.cells = #[u] → VRs M ι x.cells u.cells.toList := by
    intro x u h hx hu
    rw [hx, hu]
    exact VRs.cons h VRs.nil
  cases h with
  | agg hl h => exact ⟨by simpa [AV.cells, Value.cells] using hl, fun i x u hx hu => h i x u (by simpa [AV.cells] using hx) (by simpa [Value.cells] using hu)⟩
  | v h => 
    refine one (.v h) rfl ?_
    cases u <;> first | rfl | (simp [scalar] at h)
  | tup h0 hl h => exact one (.tup h0 hl h) rfl rfl
  | isl cell hs hc hk hm he h => exact one (.isl cell hs hc hk hm he h) rfl rfl
  | osl hr hb hs ha hc hn hk hz => exact one (.osl hr hb hs ha hc hn hk hz) rfl rfl
  | ptr hr hz => exact one (.ptr hr hz) rfl rfl
  | yld hr hz => exact one (.yld hr hz) rfl rfl
  | mp hr hz => exact one (.mp hr hz) rfl rfl
  | iptr cell hm he h => exact one (.iptr cell hm he h) rfl rfl
  | fn ha hb h h' => exact one (.fn ha hb h h') rfl rfl
  | ifc h => exact one (.ifc h) rfl rfl

theorem VR.one {M : Mem} {ι : Map} {x : AV} {u : Value} (h : VR M ι x u) (hx : x.one = true) : u.oneCell' = true := by
  cases h with
  | v h => cases u <;> first | rfl | (simp [AV.one] at hx)
  | agg hl h => simp [AV.one] at hx
  | tup h0 hl h => simp [AV.one] at hx
  | isl => rfl
  | osl => rfl
  | ptr => rfl
  | iptr => rfl
  | fn => rfl
  | ifc => rfl
  | yld => rfl
  | mp => rfl

theorem ofScalar_ok {M : Mem} {ι : Map} {u : Value} {x : AV} (h : ofScalar u = some x) : VR M ι x u := by
  unfold ofScalar at h
  split at h
  · cases h; exact .v (by assumption)
  · cases h

theorem ofScalars_ok {M : Mem} {ι : Map} {us : List Value} {xs : List AV} (h : us.mapM ofScalar = some xs) : VRs M ι xs us :=
  ⟨mapM_len h, fun i x u hx hu => by
    obtain ⟨u', hu', hf⟩ := mapM_at h i x hx
    rw [hu] at hu'; cases hu'
    exact ofScalar_ok hf⟩

theorem ofValue_ok {M : Mem} {ι : Map} {u : Value} {x : AV} (h : ofValue u = some x) : VR M ι x u := by
  cases u with
  | agg cs =>
    simp only [ofValue, Option.map_eq_some_iff] at h
    obtain ⟨xs, hxs, rfl⟩ := h
    exact VR.agg_iff.2 (ofScalars_ok hxs)
  | func f a b =>
    simp only [ofValue] at h
    split at h
    · rename_i hab
      cases h
      simp at hab
      obtain ⟨rfl, rfl⟩ := hab
      exact .fn rfl rfl (fun i c u hc => by simp at hc) (fun i c u hc => by simp at hc)
    · cases h
  | tuple vs =>
    simp only [ofValue] at h
    split at h
    · rename_i hv
      simp at hv
      subst hv
      cases h
      exact .v rfl
    · rename_i hv
      simp only [Option.map_eq_some_iff] at h
      obtain ⟨xs, hxs, rfl⟩ := h
      have hs := ofScalars_ok (M := M) (ι := ι) hxs
      refine .tup ?_ (by simpa using hs.1) fun i c u hc hu => hs.2 i c u hc (by simpa using hu)
      intro e
      subst e
      have := hs.1
      simp at this
      exact hv (by simpa using Array.eq_empty_of_size_eq_zero this.symm)
  | iface t x =>
    simp only [ofValue, Option.map_eq_some_iff] at h
    obtain ⟨y, hy, rfl⟩ := h
    exact .ifc (ofScalar_ok hy)
  | _ => exact ofScalar_ok (by simpa [ofValue] using h)

theorem unV_ok {M : Mem} {ι : Map} {x : AV} {u v : Value} (h : VR M ι x u) (hx : unV x = some v) : u = v := by
  cases h <;> simp [unV] at hx
  exact hx

theorem toValue_ok {M : Mem} {ι : Map} {x : AV} {u v : Value} (h : VR M ι x u) (hx : toValue x = some v) : u = v := by
  cases h <;> simp [toValue] at hx
  · exact hx
  · rename_i cs vs hl hh
    obtain ⟨l, hl', rfl⟩ := hx
    congr 1
    apply Array.ext_getElem?
    intro i
    rcases Nat.lt_or_ge i vs.size with hi | hi
    · have hlen := mapM_len hl'
      have hi' : i < l.length := by omega
      obtain ⟨c, hc, hf⟩ := mapM_at hl' i l[i] (List.getElem?_eq_getElem hi')
      have := unV_ok (hh i c vs[i] hc (Array.getElem?_eq_getElem hi)) hf
      simp [this, Array.getElem?_eq_getElem hi, List.getElem?_eq_getElem hi']
    · have hlen := mapM_len hl'
      rw [Array.getElem?_eq_none hi]
      simp
      omega

/- ## Memory -/
def Blk.map (k : Blk) (ι : Map) : Map := if k.arr then noMap else ι

structure CellsOk (M : Mem) (ι : Map) (w : World) (l : Loc) (k : Blk) : Prop where
  esz : l.esz = k.esz
  heap : ∃ arr T fz, w.heap[l.b]? = some (.cells arr T fz) ∧ arr.size = l.n * k.esz ∧ (∀ o, o < arr.size → ¬ (fz.1 ≤ o ∧ (o < fz.2 ∨ fz.2 < fz.1))) ∧
    ∀ (i j : Nat) e x, k.es[i]? = some e → e.cells[j]? = some x → ∃ u, arr[i * k.esz + j]? = some u ∧ u.oneCell' = true ∧ VR M (k.map ι) x u
  len : k.es.length ≤ l.n
  cells : ∀ e ∈ k.es, e.cells.length = k.esz
  frozen : ∀ o x, M l.b o = some x → k.frz = true ∧ o < k.es.length * k.esz

/-- The state of a loop over a function. -/
def stateOf (n : Nat) (r : Loop) : Prop := match n with
  | 0 => r.state = .ready ∧ r.pending = none
  | 1 => r.state = .busy
  | 2 => r.state = .done ∧ r.pending = some .ret
  | id + 3 => r.state = .done ∧ r.pending = some (.exit id)

def LoopOk (M : Mem) (ι : Map) (w : World) (l : Loc) (k : Blk) : Prop :=
  ∃ (n nt : Nat) (ps : List Tmp) (assign body : Code) (tm : List AV) (r : Loop), k.esz = 0 ∧ k.arr = false ∧ k.es = [.v (.int .i64 n), .lp 0 nt ps assign body tm] ∧ w.heap[l.b]? = some (.loop r) ∧ r.params = ps.toArray ∧ r.assign = assign ∧ r.body = body ∧
    r.tmps.size = nt ∧ (∀ t, VR M ι (tget tm t) (r.tmps.getD t undef)) ∧ stateOf n r

def MapOk (M : Mem) (ι : Map) (w : World) (l : Loc) (k : Blk) : Prop :=
  ∃ (ents : List AV) (entries : Array MapEntry), k.esz = 0 ∧ k.arr = false ∧ k.es = .v (.bool true) :: ents ∧ w.heap[l.b]? = some (.map entries entries.size) ∧ entries.size = ents.length ∧
    ∀ (i : Nat) ent e, ents[i]? = some ent → entries[i]? = some e → ∃ ka va, ent = .tup [ka, va] ∧ toValue ka = some e.key ∧ VR M ι va e.val ∧ e.born = i

def ObjOk (M : Mem) (ι : Map) (w : World) (l : Loc) (k : Blk) : Prop := LoopOk M ι w l k ∨ MapOk M ι w l k

structure BlkOk (M : Mem) (ι : Map) (w : World) (l : Loc) (k : Blk) : Prop where
  esz : l.esz = k.esz
  cellsOk : 0 < k.esz → CellsOk M ι w l k
  objOk : k.esz = 0 → ObjOk M ι w l k
  frozen : ∀ o x, M l.b o = some x → k.frz = true ∧ o < k.es.length * k.esz

theorem CellsOk.blk {M : Mem} {ι : Map} {w : World} {l : Loc} {k : Blk} (h : CellsOk M ι w l k) (hz : 0 < k.esz) : BlkOk M ι w l k := ⟨h.esz, fun _ => h, fun e => by omega, h.frozen⟩
theorem ObjOk.zero {M : Mem} {ι : Map} {w : World} {l : Loc} {k : Blk} (h : ObjOk M ι w l k) : k.esz = 0 ∧ k.arr = false := by
  rcases h with ⟨n, nt, ps, as, bd, tm, r, h1, h2, _⟩ | ⟨ents, entries, h1, h2, _⟩
  · exact ⟨h1, h2⟩
  · exact ⟨h1, h2⟩

theorem ObjOk.obj {M : Mem} {ι : Map} {w : World} {l : Loc} {k : Blk} (h : ObjOk M ι w l k) : (∃ r, w.heap[l.b]? = some (.loop r)) ∨ ∃ es c, w.heap[l.b]? = some (.map es c) := by
  rcases h with ⟨n, nt, ps, as, bd, tm, r, _, _, _, h, _⟩ | ⟨ents, entries, _, _, _, h, _⟩
  · exact .inl ⟨_, h⟩
  · exact .inr ⟨_, _, h⟩

theorem ObjOk.same {M : Mem} {ι : Map} {w : World} {l : Loc} {k k' : Blk} (h : ObjOk M ι w l k) (h1 : k'.esz = k.esz) (h2 : k'.arr = k.arr) (h3 : k'.es = k.es) : ObjOk M ι w l k' := by
  rcases h with ⟨n, nt, ps, as, bd, tm, r, g1, g2, g3, g4⟩ | ⟨ents, entries, g1, g2, g3, g4⟩
  · exact .inl ⟨n, nt, ps, as, bd, tm, r, h1.trans g1, h2.trans g2, h3.trans g3, g4⟩
  · exact .inr ⟨ents, entries, h1.trans g1, h2.trans g2, h3.trans g3, g4⟩

theorem ObjOk.blk {M : Mem} {ι : Map} {w : World} {l : Loc} {k : Blk} (h : ObjOk M ι w l k) (hl : l.esz = 0) (hf : ∀ o x, M l.b o = some x → False) : BlkOk M ι w l k :=
  ⟨by rw [hl, h.zero.1], fun e => by have := h.zero.1; omega, fun _ => h, fun o x hx => (hf o x hx).elim⟩

/-- An array's block is of cells. -/
theorem BlkOk.pos {M : Mem} {ι : Map} {w : World} {l : Loc} {k : Blk} (h : BlkOk M ι w l k) (ha : k.arr = true) : 0 < k.esz := by
  rcases Nat.eq_zero_or_pos k.esz with e | e
  · have := (h.objOk e).zero.2; rw [ha] at this; cases this
  · exact e

structure Sim (M : Mem) (ι : Map) (g : Get) (w : World) : Prop where
  mem : ∀ b o x, M b o = some x → w.cell? ⟨b, o, none⟩ = some x
  live : ∀ r k, g r = some k → ∃ l, ι r = some l ∧ BlkOk M ι w l k
  inj : ∀ r r' k k' l l', g r = some k → g r' = some k' → ι r = some l → ι r' = some l' → l.b = l'.b → r = r'

theorem Sim.at {M : Mem} {ι : Map} {g : Get} {w : World} (hS : Sim M ι g w) {r : Ref} {b : Blk} {l : Loc} (hl : ι r = some l) (hz : 0 < l.esz) (hb : g r = some b) : CellsOk M ι w l b := by
  obtain ⟨l', hl', hk⟩ := hS.live r b hb
  rw [hl] at hl'; cases hl'
  exact hk.cellsOk (by have := hk.esz; omega)

/-- Where a loop stands, in the model's memory. -/
theorem ObjOk.mono {M M' : Mem} {ι ι' : Map} {w w' : World} {l : Loc} {k : Blk} (h : ObjOk M ι w l k) (hM : ∀ b o x, M b o = some x → M' b o = some x) (hι : ∀ r l, ι r = some l → ι' r = some l) (hw : w'.heap[l.b]? = w.heap[l.b]?) : ObjOk M' ι' w' l k := by
  rcases h with ⟨n, nt, ps, as, bd, tm, r, h0, h00, h1, h2, h3, h4, h5, h6, h7, h8⟩ | ⟨ents, entries, h0, h1, h2, h3, h4, h5⟩
  · exact .inl ⟨n, nt, ps, as, bd, tm, r, h0, h00, h1, by rw [hw]; exact h2, h3, h4, h5, h6, fun t => (h7 t).mono hM ι' hι, h8⟩
  · exact .inr ⟨ents, entries, h0, h1, h2, by rw [hw]; exact h3, h4, fun i ent e a b => by obtain ⟨ka, va, c1, c2, c3⟩ := h5 i ent e a b; exact ⟨ka, va, c1, c2, c3.1.mono hM ι' hι, c3.2⟩⟩

structure Fwd (M : Mem) (ι : Map) (g : Get) (w : World) (M' : Mem) (ι' : Map) (g' : Get) (w' : World) : Prop where
  os : w'.os = w.os
  tape : w'.tape = w.tape
  output : w'.output = w.output
  size : w.heap.size ≤ w'.heap.size
  chg : ∀ b, b < w.heap.size → (∀ r k l, g r = some k → ι r = some l → l.b ≠ b) → w'.heap[b]? = w.heap[b]?
  mem : ∀ b o x, M b o = some x → M' b o = some x
  map : ∀ r l, ι r = some l → ι' r = some l
  live : ∀ r k l, g' r = some k → ι' r = some l → w.heap.size ≤ l.b ∨ ∃ r0 k0 l0, g r0 = some k0 ∧ ι r0 = some l0 ∧ l0.b = l.b
  new : ∀ b o x, M' b o = some x → M b o = some x ∨ w.heap.size ≤ b ∨ ∃ r0 k0 l0, g r0 = some k0 ∧ ι r0 = some l0 ∧ l0.b = b

theorem Fwd.refl {M : Mem} {ι : Map} {g : Get} {w : World} : Fwd M ι g w M ι g w :=
  ⟨rfl, rfl, rfl, Nat.le_refl _, fun _ _ _ => rfl, fun _ _ _ h => h, fun _ _ h => h, fun r k l h h' => .inr ⟨r, k, l, h, h', rfl⟩, fun _ _ _ h => .inl h⟩

theorem Fwd.trans {M ι g w M' ι' g' w' M'' ι'' g'' w''} (h : Fwd M ι g w M' ι' g' w') (h' : Fwd M' ι' g' w' M'' ι'' g'' w'') : Fwd M ι g w M'' ι'' g'' w'' := by
  have hlive : ∀ b, b < w.heap.size → (∀ r k l, g r = some k → ι r = some l → l.b ≠ b) → ∀ r k l, g' r = some k → ι' r = some l → l.b ≠ b := by
    intro b hb hno r k l hg hl e
    rcases h.live r k l hg hl with h1 | ⟨r0, k0, l0, h1, h2, h3⟩
    · omega
    · exact hno r0 k0 l0 h1 h2 (h3.trans e)
  refine ⟨h'.os.trans h.os, h'.tape.trans h.tape, h'.output.trans h.output, Nat.le_trans h.size h'.size, ?_, fun b o x hx => h'.mem b o x (h.mem b o x hx),
    fun r l hl => h'.map r l (h.map r l hl), ?_, ?_⟩
  · intro b hb hno
    rw [h'.chg b (Nat.lt_of_lt_of_le hb h.size) (hlive b hb hno), h.chg b hb hno]
  · intro r k l hg hl
    rcases h'.live r k l hg hl with h1 | ⟨r0, k0, l0, h1, h2, h3⟩
    · exact .inl (Nat.le_trans h.size h1)
    · rcases h.live r0 k0 l0 h1 h2 with h4 | ⟨r1, k1, l1, h4, h5, h6⟩
      · exact .inl (h3 ▸ h4)
      · exact .inr ⟨r1, k1, l1, h4, h5, h6.trans h3⟩
  · intro b o x hx
    rcases h'.new b o x hx with h1 | h1 | ⟨r0, k0, l0, h1, h2, h3⟩
    · exact h.new b o x h1
    · exact .inr (.inl (Nat.le_trans h.size h1))
    · rcases h.live r0 k0 l0 h1 h2 with h4 | ⟨r1, k1, l1, h4, h5, h6⟩
      · exact .inr (.inl (h3 ▸ h4))
      · exact .inr (.inr ⟨r1, k1, l1, h4, h5, h6.trans h3⟩)

end Go.Ab
