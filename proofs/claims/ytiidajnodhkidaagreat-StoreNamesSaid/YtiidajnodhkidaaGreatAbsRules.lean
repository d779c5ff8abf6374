/-
  The arguments of a law: from what is read before the call to data. No statement of a seat is proved here.
  The shapes of the arguments' data, type by type. No statement of a seat is proved here.
  '==' of structs and arrays of bools, numbers and strings: cell by cell. No statement of a seat is proved here.
  More rules for the conditions: slices, strings, calls that answer slices, small slices. No statement of a seat is proved here.
  Boxes, fields, structs in the conditions; branches as ifs; calls as rules. No statement of a seat is proved here.
  Rules that let a simplifier go through calls, boxes and own slices by itself. No statement of a seat is proved here.
  Rules for a simplifier, on: what a call hands out as the caller's own, and what is behind a call. No statement of a seat is proved here.
  Rules for a simplifier, on: appends to data, bytes. No statement of a seat is proved here.
  More rules for the simplifier. No statement of a seat is proved here.
  Numbers as bytes, the highest first. No statement of a seat is proved here.
-/
import Derived.Test.YtiidajnodhkidaaGreatAbsCond
import Derived.ChangeKeysEq
import Derived.Laws.Strings
set_option linter.unusedVariables false
set_option linter.unusedSimpArgs false
namespace Go.Ab
open Go.ChangeShapes Go.WideShapes Go.RowKit
def mkEl (ag : Bool) (xs : List AV) : AV := match ag, xs with
  | false, [x] => x
  | _, xs => .agg xs
def ShRep (S : List AV → Prop) : Nat → List AV → Prop
  | 0, xs => xs = []
  | k + 1, xs => ∃ a b, xs = a ++ b ∧ S a ∧ ShRep S k b
def ShFs (S : TypeId → List AV → Prop) : List Field → List AV → Prop
  | [], xs => xs = []
  | f :: fs, xs => ∃ a b, xs = a ++ b ∧ S f.type a ∧ ShFs S fs b
def ShC (P : Program) : Nat → TypeId → List AV → Prop
  | 0, _, _ => False
  | n + 1, t, xs => match P.underlying t with
    | some .bool => ∃ b, xs = [aB b]
    | some (.int k) => ∃ i, (k.min ≤ i ∧ i ≤ k.max) ∧ xs = [.v (.int k i)]
    | some .string => ∃ s : ByteArray, xs = [aS s]
    | some (.slice e) => xs = [aNil] ∨ ∃ es : List (List AV), xs = [.isl (P.cellsOf e) (es.map (mkEl ((tagg P e).getD false))) none] ∧ ∀ x ∈ es, ShC P n e x
    | some (.struct fs) => ShFs (ShC P n) fs.toList xs
    | some (.array k e) => ShRep (ShC P n e) k xs
    | _ => False
def layout (P : Program) : List Field → Nat → Option Nat
  | [], o => some o
  | f :: fs, o => if f.offset = o then layout P fs (o + P.cellsOf f.type) else none
def plain (P : Program) : Nat → TypeId → Bool
  | 0, _ => false
  | n + 1, t => match P.underlying t with
    | some .bool | some (.int _) | some .string => P.cellsOf t == 1
    | some (.slice e) => P.cellsOf t == 1 && plain P n e && decide (0 < P.cellsOf e)
    | some (.struct fs) => fs.toList.all (fun f => plain P n f.type) && layout P fs.toList 0 == some (P.cellsOf t)
    | some (.array k e) => plain P n e && P.cellsOf t == k * P.cellsOf e
    | _ => false
section
variable {H : Type} {enc : TypeId × Value → H} {P : Program} {w : World} {base : Nat} {spare : Nat → Bool} {held : Bool}
def ShV (P : Program) (n : Nat) (t : TypeId) (x : AV) : Prop :=
  match tagg P t with
  | some true => ∃ xs, x = .agg xs ∧ ShC P n t xs
  | _ => ShC P n t [x]
end
end Go.Ab
namespace Go.Ab
theorem ShV.cell {P : Program} {n : Nat} {t : TypeId} {x : AV} (ha : tagg P t = some false) (h : ShV P n t x) : ShC P n t [x] := by
  unfold ShV at h; rw [ha] at h; exact h
theorem ShV.agg {P : Program} {n : Nat} {t : TypeId} {x : AV} (ha : tagg P t = some true) (h : ShV P n t x) : ∃ xs, x = .agg xs ∧ ShC P n t xs := by
  unfold ShV at h; rw [ha] at h; exact h
end Go.Ab
namespace Go.Ab
end Go.Ab
namespace Go.Ab
theorem view_full {g : Get} {r : Ref} {z : Nat} {es : List AV} {fz : Bool} (hr : g r = some ⟨z, es, true, fz⟩) {n : Nat} (hn : n = es.length) (k : Nat) (c : Option Nat) : view g (k + 1) (.osl r 0 n c) = some (.isl z es c) := by
  subst hn
  rw [view_osl hr, if_pos ⟨rfl, by simp⟩, List.drop_zero, List.take_length]
theorem Own.keep {z : Nat} {es : List AV} {H H' : Heap} {x s s' : AV} (h : Own z es H x) (hp : ∀ q b, H.get q = some b → s.at? ≠ some q → H'.get q = some b ∧ s'.at? ≠ some q) (hne : ∀ q, x.at? = some q → s.at? ≠ some q) : Own z es H' x ∧ ∀ q, x.at? = some q → s'.at? ≠ some q := by
  rcases h with ⟨rfl, rfl⟩ | ⟨r, rfl, hr⟩
  · exact ⟨own_nil z H', fun q hq => by simp [AV.at?] at hq⟩
  · obtain ⟨h1, h2⟩ := hp r _ hr (hne r rfl)
    exact ⟨.inr ⟨r, rfl, h1⟩, fun q hq => by simp only [AV.at?, Option.some.injEq] at hq; subst hq; exact h2⟩
theorem Own.cons {z : Nat} {es : List AV} {H : Heap} {x : AV} (h : Own z es H x) (hF : Fr H) (d t : Nat) (b : Option Blk) : Own z es ((⟨d, t, H.gen d t, 0⟩, b) :: H) x := by
  rcases h with ⟨rfl, rfl⟩ | ⟨r, rfl, hr⟩
  · exact own_nil z _
  · refine .inr ⟨r, rfl, ?_⟩
    rw [Heap.get_cons, if_neg (live_ne hF (by rw [hr]; rfl) d t 0)]
    exact hr
end Go.Ab
namespace Go.Ab
@[simp] theorem Heap.gen_cons (d t g k : Nat) (b : Option Blk) (H : Heap) (d' t' : Nat) : Heap.gen ((⟨d, t, g, k⟩, b) :: H) d' t' = if d = d' ∧ t = t' then g + 1 else Heap.gen H d' t' := id rfl
end Go.Ab
namespace Go.Ab
theorem new_ne {H : Heap} (hF : Fr H) {q : Ref} (h : (H.get q).isSome = true) (d t k : Nat) : ((⟨d, t, H.gen d t, k⟩ : Ref) = q) = False :=
  eq_false (live_ne hF h d t k)
theorem ne_new {H : Heap} (hF : Fr H) {q : Ref} (h : (H.get q).isSome = true) (d t k : Nat) : (q = (⟨d, t, H.gen d t, k⟩ : Ref)) = False :=
  eq_false fun e => live_ne hF h d t k e.symm
theorem gen_put' {H : Heap} {r : Ref} (hr : (H.get r).isSome = true) (b : Option Blk) (d t : Nat) : (H.put r b).gen d t = H.gen d t := Heap.gen_put H r b hr d t
def ptrRefs (g : Get) (n : Nat) (o : Option Blk) : List Ref := match o with
  | some b => if b.arr then [] else b.es.flatMap (viewRefs g n)
  | none => []
theorem Sl.exp {z : Nat} {es : List AV} {x : AV} (h : Sl z es x) (g : Get) (n : Nat) : exportA g (n + 1) x = some x := by
  rcases h with ⟨rfl, rfl⟩ | ⟨c, rfl, _⟩ <;> rfl
theorem Sl.imp' {z : Nat} {es : List AV} {x : AV} (h : Sl z es x) (r : Ref) (n : Nat) (bs : List Blk) : importA r n x bs = (x, bs) := by
  rcases h with ⟨rfl, rfl⟩ | ⟨c, rfl, _⟩ <;> cases n <;> rfl
theorem Sl.r {z : Nat} {es : List AV} {x : AV} (h : Sl z es x) : lenAV x = some es.length ∧ (∀ g n, Ab.view g (n + 1) x = some x) ∧ (∀ g n, viewRefs g n x = []) ∧ x.cells = [x] ∧ x.one = true ∧ (∀ g n, exportA g (n + 1) x = some x) ∧ (∀ r n bs, importA r n x bs = (x, bs)) :=
  ⟨h.len, h.view, h.refs, h.cells.1, h.cells.2, h.exp, h.imp'⟩
def elZ (P : Program) (t : TypeId) : Nat := ((telem P t).bind (tsize P)).getD 0
def elBy (P : Program) (t : TypeId) : Nat := ((telem P t).bind (tbytes P)).getD 0
def elZero (P : Program) (t : TypeId) : AV := ((telem P t).bind (tzero P)).getD AV.undef
def elOk (P : Program) (t : TypeId) : Bool := elT P t (elZ P t) (elBy P t)
end Go.Ab
namespace Go.Ab
@[simp] theorem put_cons (r' : Ref) (b' : Option Blk) (H : Heap) (r : Ref) (b : Option Blk) : Heap.put ((r', b') :: H) r b = if r' = r then (r, b) :: H else (r', b') :: Heap.put H r b := id rfl
def SeenS (z : Nat) (es : List AV) (H : Heap) (x y : AV) : Prop := (x = y ∧ Sl z es y) ∨ ∃ r c fz, x = .osl r 0 es.length c ∧ H.get r = some ⟨z, es, true, fz⟩ ∧ y = .isl z es c ∧ es.length ≤ c.getD es.length
theorem SeenS.sl {z : Nat} {es : List AV} {H : Heap} {x y : AV} (h : SeenS z es H x y) : Sl z es y := by
  rcases h with ⟨_, h⟩ | ⟨r, c, fz, _, _, rfl, h⟩
  · exact h
  · exact .inr ⟨c, rfl, h⟩
theorem SeenS.view {z : Nat} {es : List AV} {H : Heap} {x y : AV} (h : SeenS z es H x y) (n : Nat) : Ab.view H.get (n + 1) x = some y := by
  rcases h with ⟨rfl, h⟩ | ⟨r, c, fz, rfl, hr, rfl, _⟩
  · exact h.view _ _
  · rw [view_full hr rfl]
theorem SeenS.len {z : Nat} {es : List AV} {H : Heap} {x y : AV} (h : SeenS z es H x y) : lenAV x = some es.length := by
  rcases h with ⟨rfl, h⟩ | ⟨r, c, fz, rfl, hr, rfl, _⟩
  · exact h.len
  · rfl
theorem SeenS.cells {z : Nat} {es : List AV} {H : Heap} {x y : AV} (h : SeenS z es H x y) : x.cells = [x] ∧ x.one = true := by
  rcases h with ⟨rfl, h⟩ | ⟨r, c, fz, rfl, hr, rfl, _⟩
  · exact h.cells
  · exact ⟨rfl, rfl⟩
theorem SeenS.put {z : Nat} {es : List AV} {H : Heap} {x y : AV} (h : SeenS z es H x y) {q : Ref} (hq : x.at? ≠ some q) (b : Option Blk) : SeenS z es (H.put q b) x y := by
  rcases h with h | ⟨r, c, fz, rfl, hr, rfl, hc⟩
  · exact .inl h
  · refine .inr ⟨r, c, fz, rfl, ?_, rfl, hc⟩
    rw [Heap.get_put, if_neg (by rintro rfl; exact hq rfl), hr]
theorem SeenS.cons {z : Nat} {es : List AV} {H : Heap} {x y : AV} (h : SeenS z es H x y) (hF : Fr H) (d t : Nat) (b : Option Blk) : SeenS z es ((⟨d, t, H.gen d t, 0⟩, b) :: H) x y := by
  rcases h with h | ⟨r, c, fz, rfl, hr, rfl, hc⟩
  · exact .inl h
  · refine .inr ⟨r, c, fz, rfl, ?_, rfl, hc⟩
    rw [Heap.get_cons, if_neg (live_ne hF (by rw [hr]; rfl) d t 0), hr]
theorem SeenS.r {z : Nat} {es : List AV} {H : Heap} {x y : AV} (h : SeenS z es H x y) : lenAV x = some es.length ∧ (∀ n, Ab.view H.get (n + 1) x = some y) ∧ x.cells = [x] ∧ x.one = true := ⟨h.len, h.view, h.cells⟩
theorem SeenS.of {z : Nat} {es : List AV} {x : AV} (h : Sl z es x) (H : Heap) : SeenS z es H x x := .inl ⟨rfl, h⟩
def Mine (z : Nat) (es : List AV) (H : Heap) (x : AV) (r : Ref) : Prop := (x = aNil ∧ es = []) ∨ ∃ c, x = .osl r 0 es.length c ∧ H.get r = some ⟨z, es, true, false⟩
theorem Mine.len {z : Nat} {es : List AV} {H : Heap} {x : AV} {r : Ref} (h : Mine z es H x r) : lenAV x = some es.length := by
  rcases h with ⟨rfl, rfl⟩ | ⟨c, rfl, _⟩ <;> rfl
theorem Mine.cells {z : Nat} {es : List AV} {H : Heap} {x : AV} {r : Ref} (h : Mine z es H x r) : x.cells = [x] ∧ x.one = true := by
  rcases h with ⟨rfl, rfl⟩ | ⟨c, rfl, _⟩ <;> exact ⟨rfl, rfl⟩
theorem Mine.osl {z : Nat} {es : List AV} {H : Heap} {x : AV} {r : Ref} (h : Mine z es H x r) {k : Nat} (hk : k < es.length) : ∃ c, x = .osl r 0 es.length c ∧ H.get r = some ⟨z, es, true, false⟩ := by
  rcases h with ⟨rfl, rfl⟩ | h
  · simp at hk
  · exact h
theorem SeenS.live {z : Nat} {es : List AV} {H : Heap} {x y : AV} (h : SeenS z es H x y) {r : Ref} (hr : x.at? = some r) : (H.get r).isSome = true := by
  rcases h with ⟨rfl, h⟩ | ⟨r', c, fz, rfl, hr', rfl, _⟩
  · rcases h with ⟨rfl, _⟩ | ⟨c, rfl, _⟩ <;> cases hr
  · cases hr; rw [hr']; rfl
theorem SeenS.mono {z : Nat} {es : List AV} {H H' : Heap} {x y : AV} (h : SeenS z es H x y) (hk : ∀ r, x.at? = some r → H'.get r = H.get r) : SeenS z es H' x y := by
  rcases h with h | ⟨r', c, fz, rfl, hr', rfl, hc⟩
  · exact .inl h
  · exact .inr ⟨r', c, fz, rfl, by rw [hk r' rfl, hr'], rfl, hc⟩
theorem new_ne1 {H : Heap} (hF : Fr H) {q : Ref} (h : (H.get q).isSome = true) (d t k : Nat) : ((⟨d, t, H.gen d t + 1, k⟩ : Ref) = q) = False :=
  eq_false fun e => by subst e; rw [hF _ _ _ _ (Nat.le_succ _)] at h; cases h
theorem ne_new1 {H : Heap} (hF : Fr H) {q : Ref} (h : (H.get q).isSome = true) (d t k : Nat) : (q = (⟨d, t, H.gen d t + 1, k⟩ : Ref)) = False :=
  eq_false fun e => by subst e; rw [hF _ _ _ _ (Nat.le_succ _)] at h; cases h
end Go.Ab
namespace Go.Ab
end Go.Ab
namespace Go.Ab
@[simp] theorem bounds_n (len : Nat) (cap : Option Nat) (lo hi : Option Int) : bounds len cap lo hi none = if 0 ≤ lo.getD 0 ∧ lo.getD 0 ≤ hi.getD len ∧ hi.getD len ≤ len then some ((lo.getD 0).toNat, (hi.getD len).toNat, cap.map (· - (lo.getD 0).toNat)) else none := id rfl
end Go.Ab
namespace Go.Ab
def valF (a : Int) (l : List UInt8) : Int := l.foldl (fun a b => 256 * a + (b.toNat : Int)) a
def val (l : List UInt8) : Int := valF 0 l
def oslB (z : Nat) (b : Option Blk) (q : QRes) : QRes := match b with
  | some b => if z = b.esz then q else none
  | none => none
@[simp] theorem oslB_some (z : Nat) (b : Blk) (q : QRes) : oslB z (some b) q = if z = b.esz then q else none := id rfl
@[simp] theorem qSlice_osl {P : Program} {t : TypeId} (h : elOk P t = true) (g : Get) (r : Ref) (o n : Nat) (c : Option Nat) (lo hi mx : Option Int) :
    qSlice P g t (some (.osl r o n c)) (some lo) (some hi) (some mx) = oslB (elZ P t) (g r) ((bounds n c lo hi mx).map fun p => (.osl r (o + p.1) (p.2.1 - p.1) p.2.2, [])) := by
  unfold elOk at h
  obtain ⟨e, zz, h1, h2, h3, h4, h5, h6, h7, h8⟩ := elT_some h
  have hz : (telem P t).bind (tsize P) = some (elZ P t) := by rw [h1]; exact h2
  unfold qSlice
  dsimp only
  rw [hz]
  cases g r with
  | none => rfl
  | some b => simp [oslB]
end Go.Ab
