/-
  Rules that let a simplifier go through calls, boxes and own slices by itself. No statement of a seat is proved here.
-/
import Derived.Test.YtjampffmlnplcaaAbsBox
set_option linter.unusedVariables false
set_option linter.unusedSimpArgs false
namespace Go.Ab

/- ## Lists of options -/
@[simp] theorem mapM_nil_o {α β : Type} (f : α → Option β) : List.mapM f [] = some [] := id rfl
@[simp] theorem mapM_cons_o {α β : Type} (f : α → Option β) (a : α) (l : List α) : List.mapM f (a :: l) = (f a).bind fun b => (List.mapM f l).map (b :: ·) := by
  rw [List.mapM_cons]; cases f a <;> cases List.mapM f l <;> rfl

/- ## Elements that stand in a list -/
@[simp] theorem readAt_map {α : Type} (f : α → AV) (l : List α) (i j n : Nat) (ag : Bool) : readAt (l.map f) i j n ag = (l[i]?).bind fun a => readAt [f a] 0 j n ag := by
  unfold readAt
  rw [List.getElem?_map]
  cases l[i]? <;> rfl
theorem drop_cons {α : Type} {l : List α} {k : Nat} {a : α} {s : List α} (h : l.drop k = a :: s) : ∃ hk : k < l.length, l[k] = a ∧ l.drop (k + 1) = s ∧ l[k]? = some a := by
  have hk : k < l.length := by
    have := congrArg List.length h
    simp at this; omega
  rw [List.drop_eq_getElem_cons hk] at h
  cases h
  exact ⟨hk, rfl, rfl, List.getElem?_eq_getElem hk⟩
theorem drop_nil {α : Type} {l : List α} {k : Nat} (h : l.drop k = []) (hk : k ≤ l.length) : k = l.length := by
  have := congrArg List.length h
  simp at this; omega

/- ## Cases at a guard -/
theorem gQ_oft {b : Bool} {q : QRes} {K : AV → Prop} {m : Mk (q, K)} (h1 : b = true → doQ q K) (h2 : b = false → K AV.undef) : gQ (aB b) true q K m := by
  cases b
  · exact (gQ_ft q K m).2 (h2 rfl)
  · exact (gQ_tt q K m).2 (h1 rfl)
theorem gQ_off {b : Bool} {q : QRes} {K : AV → Prop} {m : Mk (q, K)} (h1 : b = true → K AV.undef) (h2 : b = false → doQ q K) : gQ (aB b) false q K m := by
  cases b
  · exact (gQ_ff q K m).2 (h2 rfl)
  · exact (gQ_tf q K m).2 (h1 rfl)
theorem gW_oft {b : Bool} {H : Heap} {q : WRes} {K : AV → Heap → Prop} {m : Mk (q, K)} (h1 : b = true → doW q K) (h2 : b = false → K AV.undef H) : gW (aB b) true H q K m := by
  cases b
  · exact (gW_ft H q K m).2 (h2 rfl)
  · exact (gW_tt H q K m).2 (h1 rfl)
theorem gW_off {b : Bool} {H : Heap} {q : WRes} {K : AV → Heap → Prop} {m : Mk (q, K)} (h1 : b = true → K AV.undef H) (h2 : b = false → doW q K) : gW (aB b) false H q K m := by
  cases b
  · exact (gW_ff H q K m).2 (h2 rfl)
  · exact (gW_tf H q K m).2 (h1 rfl)

/- ## The heap: new places, places that stand -/
theorem new_ne {H : Heap} (hF : Fr H) {q : Ref} (h : (H.get q).isSome = true) (d t k : Nat) : ((⟨d, t, H.gen d t, k⟩ : Ref) = q) = False :=
  eq_false (live_ne hF h d t k)
theorem ne_new {H : Heap} (hF : Fr H) {q : Ref} (h : (H.get q).isSome = true) (d t k : Nat) : (q = (⟨d, t, H.gen d t, k⟩ : Ref)) = False :=
  eq_false fun e => live_ne hF h d t k e.symm
theorem get_new {H : Heap} (hF : Fr H) (d t k : Nat) : H.get ⟨d, t, H.gen d t, k⟩ = none := hF _ _ _ _ (Nat.le_refl _)
theorem Fr_cons {H : Heap} (hF : Fr H) {d t g : Nat} (hg : g = H.gen d t) (b : Option Blk) : Fr ((⟨d, t, g, 0⟩, b) :: H) := by subst hg; exact hF.cons d t b
theorem Fr_put {H : Heap} (hF : Fr H) {r : Ref} (hr : (H.get r).isSome = true) (b : Option Blk) : Fr (H.put r b) := hF.put b hr
theorem gen_put' {H : Heap} {r : Ref} (hr : (H.get r).isSome = true) (b : Option Blk) (d t : Nat) : (H.put r b).gen d t = H.gen d t := Heap.gen_put H r b hr d t

/- ## Answers -/
theorem handed_of {E : Env} {f : FuncId} (hm : (E.mode f == 1) = false) (x : AV) (H : Heap) (y : AV) : handed E f x H y ↔ view H.get depth x = some y := by
  unfold handed
  rw [if_neg (by simpa using hm)]
theorem handed_keep {E : Env} {f : FuncId} (hm : (E.mode f == 1) = true) (x : AV) (H : Heap) (y : AV) : handed E f x H y ↔ (viewRefs H.get depth x).Nodup ∧ exportA H.get depth x = some y := by
  unfold handed
  rw [if_pos (by simpa using hm)]

/- ## Calls: what is seen of the arguments, then the answer -/
/-- What a call comes to whose answer is told. -/
def callG (wk : Bool) (H : Heap) (r : Ref) (refs : List Ref) (o : Option AV) : WRes := match o with
  | some y => if flat depth y || allFrz H.get refs then some ((importA r depth y []).1, keyed r 0 (importA r depth y []).2 H)
    else if wk then some ((importA r depth y []).1, keyed r 0 (importA r depth y []).2 (freezeAll H refs)) else none
  | none => none
noncomputable def callV (E : Env) (wk : Bool) (H : Heap) (r : Ref) (refs : List Ref) (f : FuncId) (o : Option (List AV)) : WRes := match o with
  | some xs => callG wk H r refs (limf E f xs)
  | none => none
theorem callRes_V {E : Env} (wk : Bool) (dep : Nat) (H : Heap) (r : Ref) (f : FuncId) (hm : (E.mode f == 2) = false) (first captured args : List AV) :
    callRes E wk (limf E) (limt E dep) H r (some (.fn (.func f) first captured)) args = callV E wk H r (refsAll H.get (first ++ args ++ captured)) f ((first ++ args ++ captured).mapM (view H.get depth)) := by
  have hm' : E.mode f ≠ 2 := by simpa using hm
  simp only [callRes, qCall, wCall, if_neg hm']
  cases (first ++ args ++ captured).mapM (view H.get depth) with
  | none => cases wk <;> rfl
  | some xs =>
    dsimp only [callV]
    cases limf E f xs with
    | none => cases wk <;> rfl
    | some y =>
      dsimp only [callG, Option.map_some]
      cases hc : (flat depth y || allFrz H.get (refsAll H.get (first ++ args ++ captured))) with
      | true => rfl
      | false => cases wk <;> rfl
@[simp] theorem callV_some (E : Env) (wk : Bool) (H : Heap) (r : Ref) (refs : List Ref) (f : FuncId) (xs : List AV) : callV E wk H r refs f (some xs) = callG wk H r refs (limf E f xs) := id rfl
/-- An answer that bears no address. -/
@[simp] theorem callG_flat (wk : Bool) (H : Heap) (r : Ref) (refs : List Ref) (y : AV) (h : flat depth y = true) : callG wk H r refs (some y) = some (y, H) := by
  simp only [callG, h, Bool.true_or, if_true]
  rw [import_flat r depth depth y [] h]
  rfl
/-- An answer, where the arguments bear no own memory. -/
theorem callG_data (wk : Bool) (H : Heap) (r : Ref) (y : AV) : callG wk H r [] (some y) = some ((importA r depth y []).1, keyed r 0 (importA r depth y []).2 H) := by
  simp only [callG, allFrz, List.all_nil, Bool.or_true, if_true]
theorem callG_frz (wk : Bool) (H : Heap) (r : Ref) (refs : List Ref) (y : AV) (h : allFrz H.get refs = true) : callG wk H r refs (some y) = some ((importA r depth y []).1, keyed r 0 (importA r depth y []).2 H) := by
  simp only [callG, h, Bool.or_true, if_true]

@[simp] theorem flat_v (n : Nat) (x : Value) : flat (n + 1) (.v x) = true := id rfl
@[simp] theorem flat_8 (n : Nat) (x : UInt8) : flat (n + 1) (a8 x) = true := id rfl
@[simp] theorem flat_32 (n : Nat) (x : UInt32) : flat (n + 1) (a32 x) = true := id rfl
@[simp] theorem flat_agg (n : Nat) (cs : List AV) : flat (n + 1) (.agg cs) = cs.all (flat n) := id rfl
@[simp] theorem flat_tupl (n : Nat) (cs : List AV) : flat (n + 1) (.tup cs) = cs.all (flat n) := id rfl
@[simp] theorem flat_ifc (n : Nat) (t : TypeId) (x : AV) : flat (n + 1) (.ifc t x) = flat n x := id rfl
@[simp] theorem flat_isl (n z : Nat) (es : List AV) (c : Option Nat) : flat (n + 1) (.isl z es c) = false := id rfl
@[simp] theorem flat_fsl (n z : Nat) (es : List AV) (c : Option Nat) : flat (n + 1) (.fsl z es c) = false := id rfl

/- ## What is looked at -/
@[simp] theorem refsAll_nil (g : Get) : refsAll g [] = [] := id rfl
@[simp] theorem refsAll_cons (g : Get) (x : AV) (xs : List AV) : refsAll g (x :: xs) = viewRefs g depth x ++ refsAll g xs := id rfl
@[simp] theorem viewRefs_v (g : Get) (n : Nat) (x : Value) : viewRefs g n (.v x) = [] := by cases n <;> rfl
@[simp] theorem viewRefs_8 (g : Get) (n : Nat) (x : UInt8) : viewRefs g n (a8 x) = [] := by cases n <;> rfl
@[simp] theorem viewRefs_32 (g : Get) (n : Nat) (x : UInt32) : viewRefs g n (a32 x) = [] := by cases n <;> rfl
@[simp] theorem viewRefs_isl (g : Get) (n z : Nat) (es : List AV) (c : Option Nat) : viewRefs g n (.isl z es c) = [] := by cases n <;> rfl
@[simp] theorem viewRefs_iptr (g : Get) (n z : Nat) (es : List AV) (i j : Nat) : viewRefs g n (.iptr z es i j) = [] := by cases n <;> rfl
@[simp] theorem viewRefs_agg (g : Get) (n : Nat) (cs : List AV) : viewRefs g (n + 1) (.agg cs) = cs.flatMap (viewRefs g n) := id rfl
@[simp] theorem viewRefs_tup (g : Get) (n : Nat) (cs : List AV) : viewRefs g (n + 1) (.tup cs) = cs.flatMap (viewRefs g n) := id rfl
@[simp] theorem viewRefs_osl (g : Get) (n : Nat) (r : Ref) (o l : Nat) (c : Option Nat) : viewRefs g (n + 1) (.osl r o l c) = [r] := id rfl
@[simp] theorem viewRefs_ifc (g : Get) (n : Nat) (t : TypeId) (x : AV) : viewRefs g (n + 1) (.ifc t x) = viewRefs g n x := id rfl
@[simp] theorem viewRefs_fn (g : Get) (n : Nat) (f : Fn) (a b : List AV) : viewRefs g (n + 1) (.fn f a b) = a.flatMap (viewRefs g n) ++ b.flatMap (viewRefs g n) := id rfl
def ptrRefs (g : Get) (n : Nat) (o : Option Blk) : List Ref := match o with
  | some b => if b.arr then [] else b.es.flatMap (viewRefs g n)
  | none => []
@[simp] theorem viewRefs_ptr (g : Get) (n : Nat) (r : Ref) (i j : Nat) : viewRefs g (n + 1) (.ptr r i j) = r :: ptrRefs g n (g r) := id rfl
@[simp] theorem ptrRefs_some (g : Get) (n : Nat) (b : Blk) : ptrRefs g n (some b) = if b.arr then [] else b.es.flatMap (viewRefs g n) := id rfl

def viewO (o l : Nat) (c : Option Nat) (b : Option Blk) : Option AV := match b with
  | some b => if b.arr = true ∧ o + l ≤ b.es.length then some (.isl b.esz ((b.es.drop o).take l) c) else none
  | none => none
@[simp] theorem view_oslO (g : Get) (n : Nat) (r : Ref) (o l : Nat) (c : Option Nat) : view g (n + 1) (.osl r o l c) = viewO o l c (g r) := id rfl
@[simp] theorem viewO_some (o l : Nat) (c : Option Nat) (b : Blk) : viewO o l c (some b) = if b.arr = true ∧ o + l ≤ b.es.length then some (.isl b.esz ((b.es.drop o).take l) c) else none := id rfl
def viewP (g : Get) (n i j : Nat) (b : Option Blk) : Option AV := match b with
  | some b => if b.arr then some (.iptr b.esz b.es i j) else (b.es.mapM (view g n)).map fun es => .iptr b.esz es i j
  | none => none
@[simp] theorem view_ptrP (g : Get) (n : Nat) (r : Ref) (i j : Nat) : view g (n + 1) (.ptr r i j) = viewP g n i j (g r) := id rfl
@[simp] theorem viewP_some (g : Get) (n i j : Nat) (b : Blk) : viewP g n i j (some b) = if b.arr then some (.iptr b.esz b.es i j) else (b.es.mapM (view g n)).map fun es => .iptr b.esz es i j := id rfl
@[simp] theorem view_fn (g : Get) (n : Nat) (f : Fn) (a b : List AV) : view g (n + 1) (.fn f a b) = (a.mapM (view g n)).bind fun a => (b.mapM (view g n)).map fun b => .fn f a b := by
  rw [view]
  cases a.mapM (view g n) <;> cases b.mapM (view g n) <;> rfl

/- ## Answers that are the caller's own -/
@[simp] theorem import_v (r : Ref) (n : Nat) (x : Value) (bs : List Blk) : importA r n (.v x) bs = (.v x, bs) := by cases n <;> rfl
@[simp] theorem import_8 (r : Ref) (n : Nat) (x : UInt8) (bs : List Blk) : importA r n (a8 x) bs = (a8 x, bs) := by cases n <;> rfl
@[simp] theorem import_32 (r : Ref) (n : Nat) (x : UInt32) (bs : List Blk) : importA r n (a32 x) bs = (a32 x, bs) := by cases n <;> rfl
@[simp] theorem import_isl (r : Ref) (n z : Nat) (es : List AV) (c : Option Nat) (bs : List Blk) : importA r n (.isl z es c) bs = (.isl z es c, bs) := by cases n <;> rfl
@[simp] theorem import_fsl (r : Ref) (n z : Nat) (es : List AV) (c : Option Nat) (bs : List Blk) (hz : z ≠ 0) : importA r (n + 1) (.fsl z es c) bs = (.osl { r with k := bs.length } 0 es.length c, bs ++ [⟨z, es, true, false⟩]) := by
  simp only [importA, if_neg hz]
def importL (r : Ref) (n : Nat) : List AV → List AV → List Blk → List AV × List Blk
  | [], acc, bs => (acc, bs)
  | c :: cs, acc, bs => importL r n cs (acc ++ [(importA r n c bs).1]) (importA r n c bs).2
theorem importL_eq (r : Ref) (n : Nat) (cs : List AV) : ∀ (acc : List AV) (bs : List Blk), cs.foldl (fun (p : List AV × List Blk) c => let (y, bs) := importA r n c p.2; (p.1 ++ [y], bs)) (acc, bs) = importL r n cs acc bs := by
  induction cs with
  | nil => intro acc bs; rfl
  | cons c cs ih => intro acc bs; rw [List.foldl_cons]; exact ih _ _
@[simp] theorem import_agg (r : Ref) (n : Nat) (cs : List AV) (bs : List Blk) : importA r (n + 1) (.agg cs) bs = (.agg (importL r n cs [] bs).1, (importL r n cs [] bs).2) := by
  rw [← importL_eq]; rfl
@[simp] theorem import_tup (r : Ref) (n : Nat) (cs : List AV) (bs : List Blk) : importA r (n + 1) (.tup cs) bs = (.tup (importL r n cs [] bs).1, (importL r n cs [] bs).2) := by
  rw [← importL_eq]; rfl
@[simp] theorem importL_nil (r : Ref) (n : Nat) (acc : List AV) (bs : List Blk) : importL r n [] acc bs = (acc, bs) := id rfl
@[simp] theorem importL_cons (r : Ref) (n : Nat) (c : AV) (cs acc : List AV) (bs : List Blk) : importL r n (c :: cs) acc bs = importL r n cs (acc ++ [(importA r n c bs).1]) (importA r n c bs).2 := id rfl

@[simp] theorem freezeAll_nil (H : Heap) : freezeAll H [] = H := id rfl
def freezeB (H : Heap) (r : Ref) (b : Option Blk) : Heap := match b with
  | some b => H.put r (some { b with frz := true })
  | none => H
@[simp] theorem freezeAll_cons (H : Heap) (r : Ref) (rs : List Ref) : freezeAll H (r :: rs) = freezeAll (freezeB H r (H.get r)) rs := by
  show (match H.get r with | some b => freezeAll (H.put r (some { b with frz := true })) rs | none => freezeAll H rs) = _
  cases H.get r <;> rfl
@[simp] theorem freezeB_some (H : Heap) (r : Ref) (b : Blk) : freezeB H r (some b) = H.put r (some { b with frz := true }) := id rfl

/- ## What is handed out as the caller's own -/
def exportO (l : Nat) (c : Option Nat) (b : Option Blk) : Option AV := match b with
  | some b => if b.arr = true ∧ l ≤ b.es.length then some (if b.frz then .isl b.esz (b.es.take l) c else .fsl b.esz (b.es.take l) c) else none
  | none => none
@[simp] theorem export_osl (g : Get) (n : Nat) (r : Ref) (l : Nat) (c : Option Nat) : exportA g (n + 1) (.osl r 0 l c) = exportO l c (g r) := id rfl
@[simp] theorem exportO_some (l : Nat) (c : Option Nat) (b : Blk) : exportO l c (some b) = if b.arr = true ∧ l ≤ b.es.length then some (if b.frz then .isl b.esz (b.es.take l) c else .fsl b.esz (b.es.take l) c) else none := id rfl
@[simp] theorem export_v (g : Get) (n : Nat) (x : Value) : exportA g (n + 1) (.v x) = some (.v x) := id rfl
@[simp] theorem export_8 (g : Get) (n : Nat) (x : UInt8) : exportA g (n + 1) (a8 x) = some (a8 x) := id rfl
@[simp] theorem export_32 (g : Get) (n : Nat) (x : UInt32) : exportA g (n + 1) (a32 x) = some (a32 x) := id rfl
@[simp] theorem export_isl (g : Get) (n z : Nat) (es : List AV) (c : Option Nat) : exportA g (n + 1) (.isl z es c) = some (.isl z es c) := id rfl
@[simp] theorem export_agg (g : Get) (n : Nat) (cs : List AV) : exportA g (n + 1) (.agg cs) = (cs.mapM (exportA g n)).map .agg := id rfl
@[simp] theorem export_tup (g : Get) (n : Nat) (cs : List AV) : exportA g (n + 1) (.tup cs) = (cs.mapM (exportA g n)).map .tup := id rfl

/- ## Slices that nobody writes: all rules at once -/
theorem Sl.idx {z : Nat} {es : List AV} {x : AV} (h : Sl z es x) {P : Program} {t : TypeId} (ht : (telem P t).bind (tsize P) = some z) (g : Get) (kd : IntKind) (k : Int) :
    qIndexAddr P g t (some x) (some (.v (.int kd k))) = if 0 ≤ k ∧ k < es.length then some (.iptr z es k.toNat 0, []) else none := by
  rcases h with ⟨rfl, rfl⟩ | ⟨c, rfl, _⟩
  · obtain ⟨e, he, hz⟩ := elemSize ht
    rw [if_neg (by simp)]
    simp [qIndexAddr, intOf, he]
  · exact qIndexAddr_isl ht g es c kd k
theorem Sl.exp {z : Nat} {es : List AV} {x : AV} (h : Sl z es x) (g : Get) (n : Nat) : exportA g (n + 1) x = some x := by
  rcases h with ⟨rfl, rfl⟩ | ⟨c, rfl, _⟩ <;> rfl
theorem Sl.imp' {z : Nat} {es : List AV} {x : AV} (h : Sl z es x) (r : Ref) (n : Nat) (bs : List Blk) : importA r n x bs = (x, bs) := by
  rcases h with ⟨rfl, rfl⟩ | ⟨c, rfl, _⟩ <;> cases n <;> rfl
theorem Sl.r {z : Nat} {es : List AV} {x : AV} (h : Sl z es x) : lenAV x = some es.length ∧ (∀ g n, Ab.view g (n + 1) x = some x) ∧ (∀ g n, viewRefs g n x = []) ∧ x.cells = [x] ∧ x.one = true ∧ (∀ g n, exportA g (n + 1) x = some x) ∧ (∀ r n bs, importA r n x bs = (x, bs)) :=
  ⟨h.len, h.view, h.refs, h.cells.1, h.cells.2, h.exp, h.imp'⟩
@[simp] theorem Sl_isl (z : Nat) (es es' : List AV) (c : Option Nat) : Sl z es (.isl z es' c) ↔ es = es' ∧ es.length ≤ c.getD es.length := by
  constructor
  · rintro (⟨e, _⟩ | ⟨c', e, h⟩)
    · cases e
    · cases e; exact ⟨rfl, h⟩
  · rintro ⟨rfl, h⟩; exact .inr ⟨c, rfl, h⟩
@[simp] theorem Sl_nil (z : Nat) (es : List AV) : Sl z es aNil ↔ es = [] := by
  constructor
  · rintro (⟨_, e⟩ | ⟨c', e, h⟩)
    · exact e
    · cases e
  · rintro rfl; exact .inl ⟨rfl, rfl⟩
/-- Slices handed out as the caller's own. -/
def Fsl (z : Nat) (es : List AV) (y : AV) : Prop := (y = aNil ∧ es = []) ∨ y = .fsl z es none

/- ## Own slices -/
@[simp] theorem Own_nil (z : Nat) (es : List AV) (H : Heap) : Own z es H aNil ↔ es = [] := by
  constructor
  · rintro (⟨_, e⟩ | ⟨r, e, h⟩)
    · exact e
    · cases e
  · rintro rfl; exact own_nil z H
@[simp] theorem Own_osl (z : Nat) (es : List AV) (H : Heap) (r : Ref) (n : Nat) : Own z es H (.osl r 0 n none) ↔ n = es.length ∧ H.get r = some ⟨z, es, true, false⟩ := by
  constructor
  · rintro (⟨e, _⟩ | ⟨r', e, h⟩)
    · cases e
    · cases e; exact ⟨rfl, h⟩
  · rintro ⟨rfl, h⟩; exact .inr ⟨r, rfl, h⟩
@[simp] theorem at_nil : aNil.at? = none := id rfl
@[simp] theorem at_osl (r : Ref) (o n : Nat) (c : Option Nat) : (AV.osl r o n c).at? = some r := id rfl

theorem app_nilB {P : Program} {t t' z by' : Nat} (hT : elT P t z by' = true) (hA : apT P t' = true) (wk : Bool) (H : Heap) (r : Ref) {new : List AV} {x : AV} (hx : Els H.get z new x) (hn : new ≠ []) (hb : new.length * by' ≤ roomB) :
    appRes P wk H r (some t) (some t') aNil x = some (.osl r 0 new.length none, ({ r with k := 0 }, some ⟨z, new, true, false⟩) :: H) := by
  obtain ⟨e, zz, h1, h2, h3, h4, h5, h6, h7, h8⟩ := elT_some hT
  have hnew := hx.newOf hT h1
  unfold apT at hA
  simp only [Bool.and_eq_true, Bool.not_eq_true'] at hA
  have hun : (P.underlying t').isNone = false := by cases h : P.underlying t' with | none => rw [h] at hA; simp at hA | some d => rfl
  have hc : ¬ ((P.underlying t').isNone = true ∨ isInt P t' ≠ isNum x) := by
    rw [hun, hA.2, hx.num]; simp
  have hd : ¬ (z ≠ z ∨ z = 0 ∨ by' = 0 ∨ zz.cells.length ≠ z) := by simp [h5, h7, h8]
  simp only [appRes, qAppend, Option.bind_some, h1, Option.map_some, Option.getD_some, if_neg hc, h2, h3, h4, hnew, if_neg hd, if_neg hn, if_pos hb]
  rfl
theorem app_ownB {P : Program} {t t' z by' : Nat} (hT : elT P t z by' = true) (hA : apT P t' = true) (H : Heap) (r q : Ref) (n : Nat) {new es : List AV} {x : AV} (hx : Els H.get z new x) {fz : Bool} (hq : H.get q = some ⟨z, es, true, fz⟩) (hn : n = es.length) (hne : new ≠ []) (hb : (es.length + new.length) * by' ≤ roomB) :
    appRes P true H r (some t) (some t') (.osl q 0 n none) x = some (.osl ⟨q.d, q.t, H.gen q.d q.t, 0⟩ 0 (es.length + new.length) none, (⟨q.d, q.t, H.gen q.d q.t, 0⟩, some ⟨z, es ++ new, true, fz⟩) :: H.put q none) := by
  subst hn
  obtain ⟨e, zz, h1, h2, h3, h4, h5, h6, h7, h8⟩ := elT_some hT
  have hnew := hx.newOf hT h1
  unfold apT at hA
  simp only [Bool.and_eq_true, Bool.not_eq_true'] at hA
  have hun : (P.underlying t').isNone = false := by cases h : P.underlying t' with | none => rw [h] at hA; simp at hA | some d => rfl
  have hc : ¬ ((P.underlying t').isNone = true ∨ isInt P t' ≠ isNum x) := by
    rw [hun, hA.2, hx.num]; simp
  have hd : ¬ (z ≠ z ∨ z = 0 ∨ by' = 0 ∨ zz.cells.length ≠ z) := by simp [h5, h7, h8]
  have hd' : ¬ (z ≠ z ∨ z = 0 ∨ by' = 0 ∨ new = [] ∨ zz.cells.length ≠ z) := by simp [h5, h7, h8, hne]
  have hqa : qAppend P H.get r (some t) (some t') (.osl q 0 es.length none) x = none := by
    simp only [qAppend, Option.bind_some, h1, Option.map_some, Option.getD_some, if_neg hc, h2, h3, h4, hnew, if_neg hd, hq, if_neg hne]
    simp
  simp only [appRes, hqa, nRes_none, orW_none]
  simp only [wAppend, Option.bind_some, h1, Option.map_some, Option.getD_some, if_neg hc, h2, h3, h4, hnew, if_neg hd', hq, hb, and_self, if_true, true_and]

/- ### By the type's own numbers -/
def elZ (P : Program) (t : TypeId) : Nat := ((telem P t).bind (tsize P)).getD 0
def elBy (P : Program) (t : TypeId) : Nat := ((telem P t).bind (tbytes P)).getD 0
def elZero (P : Program) (t : TypeId) : AV := ((telem P t).bind (tzero P)).getD AV.undef
def elOk (P : Program) (t : TypeId) : Bool := elT P t (elZ P t) (elBy P t)

/-- The elements of what is appended; 'nil' has none. -/
def elsO (z : Nat) (o : Option (Nat × List AV)) : Option (List AV) := match o with
  | some (z', es) => if z' = z then some es else none
  | none => none
def elsOf (z : Nat) (g : Get) (x : AV) : Option (List AV) := match x with
  | .v (.slice none 0 0) => some []
  | .v (.int _ _) => none
  | x => elsO z (elemsOf g x)
@[simp] theorem elsOf_nil (z : Nat) (g : Get) : elsOf z g aNil = some [] := id rfl
@[simp] theorem elsOf_isl (z : Nat) (g : Get) (z' : Nat) (es : List AV) (c : Option Nat) : elsOf z g (.isl z' es c) = if z' = z then some es else none := id rfl
def elsB (z o n : Nat) (b : Option Blk) : Option (List AV) := match b with
  | some b => if (b.arr = true ∧ o + n ≤ b.es.length) ∧ b.esz = z then some ((b.es.drop o).take n) else none
  | none => none
@[simp] theorem elsB_some (z o n : Nat) (b : Blk) : elsB z o n (some b) = if (b.arr = true ∧ o + n ≤ b.es.length) ∧ b.esz = z then some ((b.es.drop o).take n) else none := id rfl
@[simp] theorem elsOf_osl (z : Nat) (g : Get) (r : Ref) (o n : Nat) (c : Option Nat) : elsOf z g (.osl r o n c) = elsB z o n (g r) := by
  unfold elsOf elsB
  simp only [elemsOf]
  cases g r with
  | none => rfl
  | some b =>
    dsimp only
    by_cases h : b.arr = true ∧ o + n ≤ b.es.length
    · by_cases h2 : b.esz = z
      · rw [if_pos h, if_pos ⟨h, h2⟩]; simp [elsO, h2]
      · rw [if_pos h, if_neg (fun e => h2 e.2)]; simp [elsO, h2]
    · rw [if_neg h, if_neg (fun e => h e.1)]; rfl
theorem Sl.elsOf {z : Nat} {es : List AV} {x : AV} (h : Sl z es x) (g : Get) : Ab.elsOf z g x = some es := by
  rcases h with ⟨rfl, rfl⟩ | ⟨c, rfl, _⟩ <;> simp
theorem elsOf_Els {z : Nat} {g : Get} {x : AV} {new : List AV} (h : elsOf z g x = some new) : Els g z new x := by
  unfold elsOf at h
  split at h
  · cases h; exact .inl ⟨rfl, rfl⟩
  · cases h
  · rename_i h1 h2
    unfold elsO at h
    split at h
    · rename_i z' es he
      split at h
      · rename_i hz
        cases h; subst hz
        refine .inr ⟨?_, fun e => ?_, he⟩
        · cases x with
          | v u => cases u with
            | int k n => exact (h2 _ _ rfl).elim
            | _ => rfl
          | _ => rfl
        · exact h1 e
      · cases h
    · cases h

def appN (z by' : Nat) (H : Heap) (r : Ref) (new : Option (List AV)) : WRes := match new with
  | some new => if new = [] then some (aNil, H) else if new.length * by' ≤ roomB then some (.osl r 0 new.length none, ({ r with k := 0 }, some ⟨z, new, true, false⟩) :: H) else none
  | none => none
@[simp] theorem appN_some (z by' : Nat) (H : Heap) (r : Ref) (new : List AV) : appN z by' H r (some new) = if new = [] then some (aNil, H) else if new.length * by' ≤ roomB then some (.osl r 0 new.length none, ({ r with k := 0 }, some ⟨z, new, true, false⟩) :: H) else none := id rfl
@[simp] theorem appRes_nil {P : Program} {t t' : TypeId} (hT : elOk P t = true) (hA : apT P t' = true) (wk : Bool) (H : Heap) (r : Ref) (x : AV) (hx : (elsOf (elZ P t) H.get x).isSome = true) :
    appRes P wk H r (some t) (some t') aNil x = appN (elZ P t) (elBy P t) H r (elsOf (elZ P t) H.get x) := by
  obtain ⟨new, hn⟩ := Option.isSome_iff_exists.1 hx
  rw [hn, appN_some]
  have hx := elsOf_Els hn
  unfold elOk at hT
  by_cases hne : new = []
  · rw [if_pos hne]
    subst hne
    obtain ⟨e, zz, h1, h2, h3, h4, h5, h6, h7, h8⟩ := elT_some hT
    have hnew := hx.newOf hT h1
    unfold apT at hA
    simp only [Bool.and_eq_true, Bool.not_eq_true'] at hA
    have hun : (P.underlying t').isNone = false := by cases h : P.underlying t' with | none => rw [h] at hA; simp at hA | some d => rfl
    have hc : ¬ ((P.underlying t').isNone = true ∨ isInt P t' ≠ isNum x) := by rw [hun, hA.2, hx.num]; simp
    have hd : ¬ (elZ P t ≠ elZ P t ∨ elZ P t = 0 ∨ elBy P t = 0 ∨ zz.cells.length ≠ elZ P t) := by simp [h5, h7, h8]
    simp only [appRes, qAppend, Option.bind_some, h1, Option.map_some, Option.getD_some, if_neg hc, h2, h3, h4, hnew, if_neg hd, if_true]
    rfl
  · rw [if_neg hne]
    split
    · rename_i hb; exact app_nilB hT hA wk H r hx hne hb
    · rename_i hb
      obtain ⟨e, zz, h1, h2, h3, h4, h5, h6, h7, h8⟩ := elT_some hT
      have hnew := hx.newOf hT h1
      unfold apT at hA
      simp only [Bool.and_eq_true, Bool.not_eq_true'] at hA
      have hun : (P.underlying t').isNone = false := by cases h : P.underlying t' with | none => rw [h] at hA; simp at hA | some d => rfl
      have hc : ¬ ((P.underlying t').isNone = true ∨ isInt P t' ≠ isNum x) := by rw [hun, hA.2, hx.num]; simp
      have hd : ¬ (elZ P t ≠ elZ P t ∨ elZ P t = 0 ∨ elBy P t = 0 ∨ zz.cells.length ≠ elZ P t) := by simp [h5, h7, h8]
      have hd' : ¬ (elZ P t ≠ elZ P t ∨ elZ P t = 0 ∨ elBy P t = 0 ∨ new = [] ∨ zz.cells.length ≠ elZ P t) := by simp [h5, h7, h8, hne]
      have hqa : qAppend P H.get r (some t) (some t') aNil x = none := by
        simp only [qAppend, Option.bind_some, h1, Option.map_some, Option.getD_some, if_neg hc, h2, h3, h4, hnew, if_neg hd, if_neg hne, if_neg hb]
      simp only [appRes, hqa, nRes_none]
      cases wk
      · rfl
      · simp only [orW_none, wAppend, Option.bind_some, h1, Option.map_some, Option.getD_some, if_neg hc, h2, h3, h4, hnew, if_neg hd']

/-- What an append to a block of the call's own comes to. -/
def appO (z by' : Nat) (H : Heap) (q : Ref) (n : Nat) (b : Option Blk) (new : Option (List AV)) : WRes := match b, new with
  | some ⟨z', es, true, fz⟩, some new => if z' = z ∧ n = es.length ∧ new ≠ [] ∧ (es.length + new.length) * by' ≤ roomB then
      some (.osl ⟨q.d, q.t, H.gen q.d q.t, 0⟩ 0 (es.length + new.length) none, (⟨q.d, q.t, H.gen q.d q.t, 0⟩, some ⟨z, es ++ new, true, fz⟩) :: H.put q none)
      else if z' = z ∧ new = [] then some (.osl q 0 n none, H) else none
  | _, _ => none
@[simp] theorem appO_some (z by' : Nat) (H : Heap) (q : Ref) (n : Nat) (z' : Nat) (es : List AV) (fz : Bool) (new : List AV) : appO z by' H q n (some ⟨z', es, true, fz⟩) (some new) = if z' = z ∧ n = es.length ∧ new ≠ [] ∧ (es.length + new.length) * by' ≤ roomB then
      some (.osl ⟨q.d, q.t, H.gen q.d q.t, 0⟩ 0 (es.length + new.length) none, (⟨q.d, q.t, H.gen q.d q.t, 0⟩, some ⟨z, es ++ new, true, fz⟩) :: H.put q none)
      else if z' = z ∧ new = [] then some (.osl q 0 n none, H) else none := rfl
theorem appRes_osl {P : Program} {t t' : TypeId} (hT : elOk P t = true) (hA : apT P t' = true) (H : Heap) (r q : Ref) (n : Nat) (x : AV) {es new : List AV} {fz : Bool} (hq : H.get q = some ⟨elZ P t, es, true, fz⟩) (hx : elsOf (elZ P t) H.get x = some new) (hn : n = es.length) (hb : (es.length + new.length) * elBy P t ≤ roomB) :
    appRes P true H r (some t) (some t') (.osl q 0 n none) x = appO (elZ P t) (elBy P t) H q n (H.get q) (elsOf (elZ P t) H.get x) := by
  rw [hq, hx, appO_some]
  have hx := elsOf_Els hx
  unfold elOk at hT
  by_cases hne : new = []
  · rw [if_neg (fun h => h.2.2.1 hne), if_pos ⟨rfl, hne⟩]
    subst hne
    obtain ⟨e, zz, h1, h2, h3, h4, h5, h6, h7, h8⟩ := elT_some hT
    have hnew := hx.newOf hT h1
    unfold apT at hA
    simp only [Bool.and_eq_true, Bool.not_eq_true'] at hA
    have hun : (P.underlying t').isNone = false := by cases h : P.underlying t' with | none => rw [h] at hA; simp at hA | some d => rfl
    have hc : ¬ ((P.underlying t').isNone = true ∨ isInt P t' ≠ isNum x) := by rw [hun, hA.2, hx.num]; simp
    have hd : ¬ (elZ P t ≠ elZ P t ∨ elZ P t = 0 ∨ elBy P t = 0 ∨ zz.cells.length ≠ elZ P t) := by simp [h5, h7, h8]
    simp only [appRes, qAppend, Option.bind_some, h1, Option.map_some, Option.getD_some, if_neg hc, h2, h3, h4, hnew, if_neg hd, hq, if_true]
    simp
  · rw [if_pos ⟨rfl, hn, hne, hb⟩]
    exact app_ownB hT hA H r q n hx hq hn hne hb

/-- Slices built of data. -/
def bsG (draw : Bool) (z : Nat) (zz : AV) (H : Heap) (r : Ref) (n : Nat) (ps : List (Nat × AV)) : WRes := match fillSlice (List.replicate n zz) ps with
  | some es => if draw then some (.isl z es (some n), H) else some (.osl r 0 n (some n), ({ r with k := 0 }, some ⟨z, es, true, false⟩) :: H)
  | none => none
@[simp] theorem bsRes_G {P : Program} {t : TypeId} (hT : elOk P t = true) (draw wk : Bool) (H : Heap) (r : Ref) (n : Nat) (ps : List (Nat × AV)) (hsz : n * elZ P t ≤ 16777216) (hv : viewParts H.get ps = some ps) (hrf : refsAll H.get (ps.map (·.2)) = [])
    (hc : ps.all (fun p => p.2.cells.length == elZ P t && p.2.cells.all AV.one) = true) (hf : (fillSlice (List.replicate n (elZero P t)) ps).isSome = true) :
    bsRes P draw wk H r t n (some ps) = bsG draw (elZ P t) (elZero P t) H r n ps := by
  obtain ⟨es, hf⟩ := Option.isSome_iff_exists.1 hf
  unfold elOk at hT
  obtain ⟨e, zz, h1, h2, h3, h4, h5, h6, h7, h8⟩ := elT_some hT
  have hz : (telem P t).bind (tzero P) = some zz := by rw [h1]; exact h4
  have hz' : elZero P t = zz := by unfold elZero; rw [hz]; rfl
  rw [hz'] at hf ⊢
  rw [bs_plain hT hsz hv hrf hc hz hf]
  unfold bsG
  rw [hf]
@[simp] theorem fillSlice_nil (es : List AV) : fillSlice es [] = some es := id rfl
@[simp] theorem fillSlice_cons (es : List AV) (i : Nat) (v : AV) (ps : List (Nat × AV)) : fillSlice es ((i, v) :: ps) = if i < es.length then fillSlice (es.set i v) ps else none := id rfl
@[simp] theorem bsG_some (draw : Bool) (z : Nat) (zz : AV) (H : Heap) (r : Ref) (n : Nat) (ps : List (Nat × AV)) : bsG draw z zz H r n ps = (fillSlice (List.replicate n zz) ps).bind fun es => if draw then some (.isl z es (some n), H) else some (.osl r 0 n (some n), ({ r with k := 0 }, some ⟨z, es, true, false⟩) :: H) := by
  unfold bsG; cases fillSlice (List.replicate n zz) ps <;> rfl
@[simp] theorem viewParts_nil (g : Get) : viewParts g [] = some [] := id rfl
@[simp] theorem viewParts_cons (g : Get) (i : Nat) (x : AV) (ps : List (Nat × AV)) : viewParts g ((i, x) :: ps) = (view g depth x).bind fun y => (viewParts g ps).map ((i, y) :: ·) := by
  unfold viewParts
  rw [mapM_cons_o]
  dsimp only
  cases view g depth x <;> rfl

/-- An element of a slice of the call's own. -/
def idxB (z o n : Nat) (k : Int) (r : Ref) (b : Option Blk) : QRes := match b with
  | some b => if 0 ≤ k ∧ k < n ∧ z = b.esz then some (.ptr r (o + k.toNat) 0, []) else none
  | none => none
@[simp] theorem idxB_some (z o n : Nat) (k : Int) (r : Ref) (b : Blk) : idxB z o n k r (some b) = if 0 ≤ k ∧ k < n ∧ z = b.esz then some (.ptr r (o + k.toNat) 0, []) else none := id rfl
@[simp] theorem qIndexAddr_oslB {P : Program} {t : TypeId} (h : elOk P t = true) (g : Get) (r : Ref) (o n : Nat) (c : Option Nat) (kd : IntKind) (k : Int) :
    qIndexAddr P g t (some (.osl r o n c)) (some (.v (.int kd k))) = idxB (elZ P t) o n k r (g r) := by
  unfold elOk at h
  obtain ⟨e, zz, h1, h2, h3, h4, h5, h6, h7, h8⟩ := elT_some h
  simp only [qIndexAddr, Option.bind_some, intOf, h1, h2]
  cases g r <;> rfl

/-- A store: into a box, or into an element of a slice of the call's own. -/
def storeE (H : Heap) (r : Ref) (o : Option Blk) (n i j : Nat) (x : AV) : WRes := match o with
  | some ⟨z, es, true, false⟩ => if x.cells.length = n ∧ x.cells.all AV.one = true then (writeAt es i j x.cells).map fun es => (AV.undef, H.put r (some ⟨z, es, true, false⟩)) else none
  | some ⟨z, es, false, false⟩ => if x.cells.length = n ∧ x.cells.all AV.one = true then (writeAt es i j x.cells).map fun es => (AV.undef, H.put r (some ⟨z, es, false, false⟩)) else none
  | _ => none
@[simp] theorem storeE_arr (H : Heap) (r : Ref) (z : Nat) (es : List AV) (n i j : Nat) (x : AV) : storeE H r (some ⟨z, es, true, false⟩) n i j x = if x.cells.length = n ∧ x.cells.all AV.one = true then (writeAt es i j x.cells).map fun es => (AV.undef, H.put r (some ⟨z, es, true, false⟩)) else none := id rfl
@[simp] theorem storeE_box (H : Heap) (r : Ref) (z : Nat) (es : List AV) (n i j : Nat) (x : AV) : storeE H r (some ⟨z, es, false, false⟩) n i j x = if x.cells.length = n ∧ x.cells.all AV.one = true then (writeAt es i j x.cells).map fun es => (AV.undef, H.put r (some ⟨z, es, false, false⟩)) else none := id rfl
/-- Asked of a store: the block stands, and is not frozen. -/
def stFine (H : Heap) (o : Option Blk) (x : AV) : Prop := match o with
  | some ⟨_, _, false, false⟩ => True
  | some ⟨_, _, true, false⟩ => view H.get depth x = some x ∧ viewRefs H.get depth x = []
  | _ => False
@[simp] theorem stFine_box (H : Heap) (z : Nat) (es : List AV) (x : AV) : stFine H (some ⟨z, es, false, false⟩) x = True := id rfl
@[simp] theorem stFine_arr (H : Heap) (z : Nat) (es : List AV) (x : AV) : stFine H (some ⟨z, es, true, false⟩) x = (view H.get depth x = some x ∧ viewRefs H.get depth x = []) := id rfl
theorem wStore_E {P : Program} {t : TypeId} (hn : (tsize P t).isSome = true) (H : Heap) (r : Ref) (i j : Nat) (x : AV) (hf : stFine H (H.get r) x) :
    wStore P H t (some (.ptr r i j)) (some x) = storeE H r (H.get r) ((tsize P t).getD 0) i j x := by
  obtain ⟨n, hn⟩ := Option.isSome_iff_exists.1 hn
  simp only [wStore, hn, Option.getD_some]
  cases hr : H.get r with
  | none => rw [hr] at hf; exact hf.elim
  | some b =>
    rw [hr] at hf
    obtain ⟨z, es, arr, frz⟩ := b
    cases frz with
    | true => cases arr <;> exact hf.elim
    | false =>
      cases arr with
      | false => simp only [and_true, Bool.false_eq_true, if_false]; rfl
      | true =>
        obtain ⟨h1, h2⟩ := hf
        simp only [and_true, if_true, h1, h2, List.not_mem_nil, if_false, freezeAll]
        by_cases hc : x.cells.length = n ∧ x.cells.all AV.one = true
        · rw [if_pos hc, storeE_arr, if_pos hc, if_pos hc.2]
        · rw [if_neg hc, storeE_arr, if_neg hc]
/-- Into an element of a row. -/
theorem writeAt_map {α : Type} (f : α → AV) (l : List α) (i j : Nat) (new : List AV) : writeAt (l.map f) i j new = (l[i]?).bind fun a => (writeElem (f a) j new).map fun e' => (l.map f).set i e' := by
  unfold writeAt
  rw [List.getElem?_map]
  cases l[i]? <;> rfl
@[simp] theorem writeElem_agg (cs : List AV) (j : Nat) (new : List AV) : writeElem (.agg cs) j new = if j + new.length ≤ cs.length then some (.agg (patch cs j new)) else none := id rfl
@[simp] theorem writeElem_8 (x : UInt8) (y : AV) : writeElem (a8 x) 0 [y] = some y := id rfl
@[simp] theorem writeElem_v (x : Value) (y : AV) : writeElem (.v x) 0 [y] = some y := id rfl

end Go.Ab
