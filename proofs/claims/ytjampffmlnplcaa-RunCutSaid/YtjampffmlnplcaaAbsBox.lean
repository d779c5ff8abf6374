/-
  Boxes, fields, structs in the conditions; branches as ifs; calls as rules. No statement of a seat is proved here.
-/
import Derived.Test.YtjampffmlnplcaaAbsLib
set_option linter.unusedVariables false
set_option linter.unusedSimpArgs false
namespace Go.Ab

/- ## Branches as ifs -/
theorem gQ_true (b : Bool) (q : QRes) (K : AV → Prop) (m : Mk (q, K)) : gQ (aB b) true q K m ↔ if b = true then doQ q K else K AV.undef := by cases b <;> simp
theorem gQ_false (b : Bool) (q : QRes) (K : AV → Prop) (m : Mk (q, K)) : gQ (aB b) false q K m ↔ if b = true then K AV.undef else doQ q K := by cases b <;> simp
theorem gW_true (b : Bool) (H : Heap) (q : WRes) (K : AV → Heap → Prop) (m : Mk (q, K)) : gW (aB b) true H q K m ↔ if b = true then doW q K else K AV.undef H := by cases b <;> simp
theorem gW_false (b : Bool) (H : Heap) (q : WRes) (K : AV → Heap → Prop) (m : Mk (q, K)) : gW (aB b) false H q K m ↔ if b = true then K AV.undef H else doW q K := by cases b <;> simp
theorem br_ite (b : Bool) (A B : Prop) (m : Mk (A, B)) : br (some (aB b)) A B m ↔ if b = true then A else B := by cases b <;> simp

/- ## Boxes -/
@[simp] theorem qAlloc_if (P : Program) (r : Ref) (e : TypeId) {z : AV} (hz : tzero P e = some z) (h0 : 0 < (tsize P e).getD 0) : qAlloc P r e = if some z.cells.length = tsize P e ∧ z.cells.all AV.one = true then some (.ptr r 0 0, [⟨(tsize P e).getD 0, [z], false, false⟩]) else none := by
  unfold qAlloc
  rw [hz]
  cases h : tsize P e with
  | none => simp
  | some n => rw [h] at h0; simp only [Option.getD_some] at h0; simp [h0]

def fOff (P : Program) (t : TypeId) (f : Nat) : Nat := ((fieldPlaces P t f).getD (0, 0)).1
@[simp] theorem qFieldAddr_ptr {P : Program} {t f : Nat} (h : 0 < ((fieldPlaces P t f).getD (0, 0)).2) (r : Ref) (i j : Nat) : qFieldAddr P t (some (.ptr r i j)) f = some (.ptr r i (j + ((fieldPlaces P t f).getD (0, 0)).1), []) := by
  unfold qFieldAddr
  cases hf : fieldPlaces P t f with
  | none => rw [hf] at h; simp at h
  | some p => obtain ⟨o, s⟩ := p; rw [hf] at h; simp only [Option.getD_some] at h ⊢; rw [if_pos h]
@[simp] theorem qFieldAddr_iptr {P : Program} {t f : Nat} (h : 0 < ((fieldPlaces P t f).getD (0, 0)).2) (n : Nat) (es : List AV) (i j : Nat) : qFieldAddr P t (some (.iptr n es i j)) f = some (.iptr n es i (j + ((fieldPlaces P t f).getD (0, 0)).1), []) := by
  unfold qFieldAddr
  cases hf : fieldPlaces P t f with
  | none => rw [hf] at h; simp at h
  | some p => obtain ⟨o, s⟩ := p; rw [hf] at h; simp only [Option.getD_some] at h ⊢; rw [if_pos h]

def partR (cs : List AV) (off n : Nat) (ag : Bool) : Option AV := if ag then (if off + n ≤ cs.length then some (.agg ((cs.drop off).take n)) else none) else cs[off]?
@[simp] theorem partR_t (cs : List AV) (off n : Nat) : partR cs off n true = if off + n ≤ cs.length then some (.agg ((cs.drop off).take n)) else none := id rfl
@[simp] theorem partR_f (cs : List AV) (off n : Nat) : partR cs off n false = cs[off]? := id rfl
@[simp] theorem qField_agg {P : Program} {t f : Nat} (h : (((tfield P t f).bind fun p => tsize P p.2).isSome && ((tfield P t f).bind fun p => tagg P p.2).isSome) = true) (cs : List AV) :
    qField P t (some (.agg cs)) f = qVal (partR cs ((tfield P t f).getD (0, 0)).1 ((tsize P ((tfield P t f).getD (0, 0)).2).getD 0) ((tagg P ((tfield P t f).getD (0, 0)).2).getD false)) := by
  unfold qField
  cases hf : tfield P t f with
  | none => rw [hf] at h; simp at h
  | some p =>
    obtain ⟨o, ft⟩ := p
    rw [hf] at h
    simp only [Option.bind_some, Bool.and_eq_true] at h
    obtain ⟨n, hn⟩ := Option.isSome_iff_exists.1 h.1
    obtain ⟨b, hb⟩ := Option.isSome_iff_exists.1 h.2
    simp only [Option.getD_some, partAV, hn, hb]
    cases b <;> rfl

/-- What is written into a box. -/
def storeB (P : Program) (H : Heap) (r : Ref) (o : Option Blk) (n i j : Nat) (x : AV) : WRes := match o with
  | some ⟨z, es, false, false⟩ => if x.cells.length = n ∧ x.cells.all AV.one = true then (writeAt es i j x.cells).map fun es => (AV.undef, H.put r (some ⟨z, es, false, false⟩)) else none
  | _ => none
@[simp] theorem storeB_some (P : Program) (H : Heap) (r : Ref) (z : Nat) (es : List AV) (n i j : Nat) (x : AV) :
    storeB P H r (some ⟨z, es, false, false⟩) n i j x = if x.cells.length = n ∧ x.cells.all AV.one = true then (writeAt es i j x.cells).map fun es => (AV.undef, H.put r (some ⟨z, es, false, false⟩)) else none := rfl
theorem wStore_box {P : Program} {t : TypeId} {n : Nat} (hn : tsize P t = some n) {H : Heap} {r : Ref} {z : Nat} {es : List AV} (hr : H.get r = some ⟨z, es, false, false⟩) (i j : Nat) (x : AV) :
    wStore P H t (some (.ptr r i j)) (some x) = storeB P H r (H.get r) n i j x := by
  simp only [wStore, hn, hr, storeB_some, Bool.false_eq_true, if_false, and_true]
@[simp] theorem wStore_new {P : Program} {t : TypeId} (hn : (tsize P t).isSome = true) (H : Heap) (r : Ref) (z : Nat) (es : List AV) (i j : Nat) (x : AV) :
    wStore P ((r, some ⟨z, es, false, false⟩) :: H) t (some (.ptr r i j)) (some x) = if x.cells.length = (tsize P t).getD 0 ∧ x.cells.all AV.one = true then (writeAt es i j x.cells).map fun es => (AV.undef, (r, some ⟨z, es, false, false⟩) :: H) else none := by
  obtain ⟨n, hn⟩ := Option.isSome_iff_exists.1 hn
  rw [wStore_box (z := z) (es := es) hn (by simp), Heap.get_cons, if_pos rfl, storeB_some, hn, Option.getD_some]
  simp only [Heap.put, if_true]
@[simp] theorem doW_map {α : Type} (o : Option α) (f : α → AV × Heap) (K : AV → Heap → Prop) (m : Mk K) (a : α) (h : o = some a) : doW (o.map f) K m ↔ K (f a).1 (f a).2 := by
  subst h
  constructor
  · rintro ⟨v, H, e, h⟩
    simp only [Option.map_some, Option.some.injEq] at e
    rw [e]; exact h
  · intro h; exact ⟨(f a).1, (f a).2, rfl, h⟩
@[simp] theorem writeAt_whole (cs : List AV) (new : List AV) (h : new.length = cs.length) : writeAt [AV.agg cs] 0 0 new = some [AV.agg new] := by
  simp [writeAt, writeElem, patch, h]
@[simp low] theorem writeAt_part (cs : List AV) (j : Nat) (new : List AV) (h : j + new.length ≤ cs.length) : writeAt [AV.agg cs] 0 j new = some [AV.agg (patch cs j new)] := by
  simp [writeAt, writeElem, h]
@[simp] theorem patch_eq (cs : List AV) (j : Nat) (new : List AV) : patch cs j new = cs.take j ++ new ++ cs.drop (j + new.length) := id rfl

@[simp] theorem readCell_ptr {P : Program} {t : TypeId} (ha : (tagg P t).isSome = true) (hn : (tsize P t).isSome = true) (H : Heap) (r : Ref) (i j : Nat) : readCell P H (.ptr r i j) t = loadB (H.get r) i j ((tsize P t).getD 0) ((tagg P t).getD false) := by
  obtain ⟨a, ha⟩ := Option.isSome_iff_exists.1 ha
  obtain ⟨n, hn⟩ := Option.isSome_iff_exists.1 hn
  simp only [readCell, ha, hn, Option.getD_some]
  rfl

/-- A struct built. -/
@[simp] theorem qBuild_struct {P : Program} {t : TypeId} {z : List AV} (hz : tzero P t = some (.agg z)) (ht : tarr P t = none) (hp : (placesOf P t).isSome = true) (vs : List (Nat × AV)) :
    qBuild P t (some vs) = (fillAV (fun i => ((placesOf P t).getD [])[i]?) z vs).map fun cs => (.agg cs, []) := by
  obtain ⟨ps, hp⟩ := Option.isSome_iff_exists.1 hp
  simp only [qBuild, hz, ht, hp, Option.getD_some]

@[simp] theorem qExtract_tup (vs : List AV) (i : Nat) : qExtract (some (.tup vs)) i = qVal vs[i]? := id rfl
@[simp] theorem qNil_ptr (r : Ref) (i j : Nat) : qNil (some (.ptr r i j)) = some (.ptr r i j, []) := id rfl
@[simp] theorem qNil_iptr (n : Nat) (es : List AV) (i j : Nat) : qNil (some (.iptr n es i j)) = some (.iptr n es i j, []) := id rfl
@[simp] theorem doQ_map {α : Type} (o : Option α) (f : α → AV × List Blk) (K : AV → Prop) (m : Mk K) (a : α) (h : o = some a) : doQ (o.map f) K m ↔ doQ (some (f a)) K m := by
  subst h; rfl

/- ## Calls as rules: the arguments are data, the answer is flat -/
theorem callRes_flat {E : Env} {wk : Bool} {dep : Nat} {H : Heap} {r : Ref} {f : FuncId} {args xs : List AV} {y : AV} (hm : (E.mode f == 2) = false) (hv : args.mapM (view H.get depth) = some xs) (hy : limf E f xs = some y) (hf : flat depth y = true) :
    callRes E wk (limf E) (limt E dep) H r (some (.fn (.func f) [] [])) args = some (y, H) := by
  have hm' : E.mode f ≠ 2 := by simpa using hm
  simp only [callRes, qCall, if_neg hm', List.nil_append, List.append_nil, hv, hy, hf, Bool.true_or, if_true]
  rw [import_flat r depth depth y [] hf]
  rfl

@[simp] theorem Heap.gen_nil (d t : Nat) : Heap.gen [] d t = 0 := id rfl
@[simp] theorem Heap.gen_cons (d t g k : Nat) (b : Option Blk) (H : Heap) (d' t' : Nat) : Heap.gen ((⟨d, t, g, k⟩, b) :: H) d' t' = if d = d' ∧ t = t' then g + 1 else Heap.gen H d' t' := id rfl

end Go.Ab
