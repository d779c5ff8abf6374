/-
  Maps of the abstract machine against the model's. No statement of a seat is proved here.
-/
import Derived.Test.YtjampffmlnplcaaAbsOps9
set_option linter.unusedVariables false
set_option linter.unusedSimpArgs false
namespace Go.Ab

theorem pureRun_bind {α β : Type} {P : Program} (s : Sem α) (f : α → Sem β) : pureRun P (s >>= f) = (pureRun P s).bind fun a => pureRun P (f a) := by
  induction s with
  | pure a => rfl
  | program k ih => exact ih P
  | mark m k ih => exact ih
  | _ => rfl

theorem pureRun_pure {α : Type} {P : Program} (a : α) : pureRun P (pure a : Sem α) = some a := rfl

/- ## Finding a key -/
def dummy (es : List MapEntry) : List MapEntry := es.map fun e => ⟨e.key, Go.undef, 0⟩

theorem findNow_dummy {d : TypeDesc} {k : Value} : ∀ (es : List MapEntry) (i : Nat), (Instr.findNow d k es i = none ↔ Instr.findNow d k (dummy es) i = none) ∧ (Instr.findNow d k es i = some none ↔ Instr.findNow d k (dummy es) i = some none) ∧
    ∀ j v, Instr.findNow d k (dummy es) i = some (some (j, v)) → i ≤ j ∧ ∃ e, es[j - i]? = some e ∧ Instr.findNow d k es i = some (some (j, e.val)) := by
  intro es
  induction es with
  | nil => intro i; simp [dummy, Instr.findNow]
  | cons e es ih =>
    intro i
    obtain ⟨h1, h2, h3⟩ := ih (i + 1)
    simp only [dummy, List.map_cons, Instr.findNow]
    cases hs : Instr.sameNow d k e.key with
    | none => simp
    | some b =>
      cases b with
      | true =>
        refine ⟨by simp, by simp, fun j v h => ?_⟩
        simp only [Option.some.injEq, Prod.mk.injEq] at h
        obtain ⟨rfl, _⟩ := h
        exact ⟨Nat.le_refl _, e, by simp, rfl⟩
      | false =>
        refine ⟨h1, h2, fun j v h => ?_⟩
        obtain ⟨g1, e', g2, g3⟩ := h3 j v h
        refine ⟨by omega, e', ?_, g3⟩
        rw [show j - i = (j - (i + 1)) + 1 by omega]
        simpa using g2

theorem findAsking_dummy {P : Program} {kt : TypeId} {k : Value} : ∀ (es : List MapEntry) (i : Nat) (o : Option (Nat × Value)), pureRun P (Instr.findAsking kt k (dummy es) i) = some o → ∀ w : World,
    (o = none → (Instr.findAsking kt k es i).run P w = .ok none w) ∧ ∀ j v, o = some (j, v) → i ≤ j ∧ ∃ e, es[j - i]? = some e ∧ (Instr.findAsking kt k es i).run P w = .ok (some (j, e.val)) w := by
  intro es
  induction es with
  | nil =>
    intro i o h w
    simp only [dummy, List.map_nil, Instr.findAsking, pureRun_pure, Option.some.injEq] at h
    subst h
    exact ⟨fun _ => rfl, fun j v e => by cases e⟩
  | cons e es ih =>
    intro i o h w
    simp only [dummy, List.map_cons, Instr.findAsking] at h
    rw [pureRun_bind] at h
    obtain ⟨b, hb, h⟩ := Option.bind_eq_some_iff.1 h
    have hr := pureRun_run hb w
    cases b with
    | true =>
      simp only [if_true, pureRun_pure, Option.some.injEq] at h
      subst h
      refine ⟨fun e => by (cases e), fun j v e' => ?_⟩
      cases e'
      exact ⟨Nat.le_refl _, e, by simp, by simp [Instr.findAsking, hr]⟩
    | false =>
      simp only [Bool.false_eq_true, if_false] at h
      obtain ⟨h1, h2⟩ := ih (i + 1) o h w
      refine ⟨fun e' => by simp [Instr.findAsking, hr, h1 e'], fun j v e' => ?_⟩
      obtain ⟨g1, e2, g2, g3⟩ := h2 j v e'
      refine ⟨by omega, e2, ?_, by simp [Instr.findAsking, hr, g3]⟩
      rw [show j - i = (j - (i + 1)) + 1 by omega]
      simpa using g2

theorem mapFind_ok {P : Program} {empty : Bool} {kt : TypeId} {k : Value} {es : List MapEntry} {o : Option Nat} (h : mapFind P empty kt k (es.map (·.key)) = some o) (w : World) :
    (Instr.checkKey empty 10000 kt k).run P w = .ok () w ∧ (o = none → (Instr.findKey kt k es).run P w = .ok none w) ∧ ∀ j, o = some j → ∃ e, es[j]? = some e ∧ (Instr.findKey kt k es).run P w = .ok (some (j, e.val)) w := by
  unfold mapFind at h
  split at h
  · rename_i hc
    obtain ⟨o', ho', e⟩ := Option.map_eq_some_iff.1 h
    have hD : (es.map (·.key)).map (fun x => (⟨x, Go.undef, 0⟩ : MapEntry)) = dummy es := by simp [dummy, Function.comp_def]
    rw [hD] at ho'
    unfold Instr.findKey at ho'
    rw [pureRun_bind] at ho'
    obtain ⟨d, hd, ho'⟩ := Option.bind_eq_some_iff.1 ho'
    have hrd := pureRun_run hd w
    refine ⟨pureRun_run hc w, ?_⟩
    obtain ⟨h1, h2, h3⟩ := findNow_dummy (d := d) (k := k) es 0
    cases hn : Instr.findNow d k (dummy es) 0 with
    | some r =>
      rw [hn] at ho'
      simp only [pureRun_pure, Option.some.injEq] at ho'
      subst ho'
      cases r with
      | none =>
        simp only [Option.map_none] at e
        subst e
        refine ⟨fun _ => ?_, fun j e => ?_⟩
        · simp [Instr.findKey, hrd, h2.2 hn]
        · cases e
      | some p =>
        obtain ⟨j0, v0⟩ := p
        simp only [Option.map_some] at e
        subst e
        refine ⟨fun e => (by cases e), fun j e => ?_⟩
        cases e
        obtain ⟨_, e', g2, g3⟩ := h3 j0 v0 hn
        exact ⟨e', by simpa using g2, by simp [Instr.findKey, hrd, g3]⟩
    | none =>
      rw [hn] at ho'
      simp only at ho'
      obtain ⟨g1, g2⟩ := findAsking_dummy es 0 o' ho' w
      have hnn := h1.2 hn
      cases o' with
      | none =>
        simp only [Option.map_none] at e
        subst e
        refine ⟨fun _ => ?_, fun j e => ?_⟩
        · simp [Instr.findKey, hrd, hnn, g1 rfl]
        · cases e
      | some p =>
        obtain ⟨j0, v0⟩ := p
        simp only [Option.map_some] at e
        subst e
        refine ⟨fun e => (by cases e), fun j e => ?_⟩
        cases e
        obtain ⟨_, e', k2, k3⟩ := g2 j0 v0 rfl
        exact ⟨e', by simpa using k2, by simp [Instr.findKey, hrd, hnn, k3]⟩
  · cases h

theorem tmap_ok {P : Program} {t kt et : TypeId} (h : tmap P t = some (kt, et)) : P.underlying t = some (.map kt et) := by
  unfold tmap at h
  split at h
  · rename_i k e hu; cases h; exact hu
  · cases h

section
variable {P : Program} {M : Mem} {ι : Map} {g : Get} {w : World} {r : Ref}

/-- A map's block. -/
theorem map_blk (hS : Sim M ι g w) {ents : List AV} (hm : mapAt g r = some ents) {l : Loc} (hr : ι r = some l) (hz : l.esz = 0) :
    ∃ a f entries, g r = some ⟨0, .v (.bool true) :: ents, a, f⟩ ∧ w.heap[l.b]? = some (.map entries entries.size) ∧ entries.size = ents.length ∧
      (∀ (i : Nat) ent e, ents[i]? = some ent → entries[i]? = some e → ∃ ka va, ent = .tup [ka, va] ∧ toValue ka = some e.key ∧ VR M ι va e.val ∧ e.born = i) ∧ ∀ ks, ents.mapM entKey = some ks → ks = entries.toList.map (·.key) := by
  unfold mapAt at hm
  split at hm
  · rename_i es a f hg
    cases hm
    obtain ⟨l', hl', hb⟩ := hS.live r _ hg
    rw [hr] at hl'; cases hl'
    rcases hb.objOk rfl with ⟨_, _, _, _, _, _, _, _, _, h3, _⟩ | ⟨ents', entries, h1, h2, h3, h4, h5, h6⟩
    · simp at h3
    · simp only [List.cons.injEq, true_and] at h3
      subst h3
      refine ⟨a, f, entries, hg, h4, h5, h6, fun ks hks => ?_⟩
      have hl := mapM_len hks
      apply List.ext_getElem?
      intro i
      rcases Nat.lt_or_ge i entries.size with hi | hi
      · have hie : i < ents.length := by omega
        obtain ⟨y, hy, hk⟩ := mapM_at' hks i _ (List.getElem?_eq_getElem hie)
        obtain ⟨ka, va, e1, e2, _⟩ := h6 i _ entries[i] (List.getElem?_eq_getElem hie) (Array.getElem?_eq_getElem hi)
        rw [hy]
        rw [e1] at hk
        simp only [entKey] at hk
        rw [hk] at e2
        cases e2
        simp [Array.getElem?_eq_getElem hi]
      · rw [List.getElem?_eq_none (by rw [hl]; omega), List.getElem?_eq_none (by simp; omega)]
  · cases hm

theorem qLookup_ok (hS : Sim M ι g w) {t : TypeId} {x k y : AV} {ux uk : Value} (hx : VR M ι x ux) (hk : VR M ι k uk) {ok : Bool} {bs : List Blk} (h : qLookup P g t (some x) (some k) ok = some (y, bs)) :
    bs = [] ∧ ∃ u, (Instr.lookup t ux uk ok).run P w = .ok u w ∧ VR M ι y u := by
  have fin : ∀ {v : AV} {u : Value} (b : Bool), VR M ι v u → VR M ι (if ok then .tup [v, .v (.bool b)] else v) (if ok then .tuple #[u, .bool b] else u) := by
    intro v u b hv
    cases ok with
    | false => exact hv
    | true =>
      refine .tup (by simp) rfl fun i c u' hc hu => ?_
      match i with
      | 0 => simp at hc hu; subst hc; subst hu; exact hv
      | 1 => simp at hc hu; subst hc; subst hu; exact .v rfl
      | i + 2 => simp at hc
  unfold qLookup at h
  split at h
  · rename_i kt et r' kv ht hxe hke
    cases hxe
    cases hx with | mp hr hz =>
    rename_i l
    have huk : uk = kv := by simpa using toValue_ok hk (by simpa using hke)
    subst huk
    split at h
    · rename_i ents hm
      obtain ⟨a, f, entries, hg, hh, hsz, hent, hks⟩ := map_blk hS hm hr hz
      split at h
      · rename_i ks hks0
        have hkse := hks ks hks0
        have hemp : entries.isEmpty = ks.isEmpty := by rw [hkse]; simp
        split at h
        · rename_i i hf
          rw [hkse] at hf
          obtain ⟨v, hv, h⟩ := Option.map_eq_some_iff.1 h
          cases h
          obtain ⟨h1, _, h3⟩ := mapFind_ok hf w
          obtain ⟨e, he, hrun⟩ := h3 i rfl
          obtain ⟨ent, hent1, hv⟩ := Option.bind_eq_some_iff.1 hv
          obtain ⟨ka, va, e1, e2, e3⟩ := hent i ent e hent1 (by simpa using he)
          subst e1
          simp only [entVal, Option.some.injEq] at hv
          subst hv
          refine ⟨rfl, _, ?_, fin true e3.1⟩
          rw [← hkse, ← hemp] at h1
          have hgo : (getObj l.b).run P w = .ok (.map entries entries.size) w := by simp [getObj, Sem.run, hh]
          simp only [Instr.lookup, Sem.run_bind, Sem.run_pure, run_und (tmap_ok ht), Result.andThen_ok, hgo, h1, hrun]
        · rename_i hf
          rw [hkse] at hf
          obtain ⟨z, hzz, h⟩ := Option.map_eq_some_iff.1 h
          cases h
          obtain ⟨h1, h2, _⟩ := mapFind_ok hf w
          obtain ⟨u, hu, hv⟩ := run_zero hzz w
          refine ⟨rfl, _, ?_, fin false (ofValue_ok hv)⟩
          rw [← hkse, ← hemp] at h1
          have hgo : (getObj l.b).run P w = .ok (.map entries entries.size) w := by simp [getObj, Sem.run, hh]
          simp only [Instr.lookup, Sem.run_bind, Sem.run_pure, run_und (tmap_ok ht), Result.andThen_ok, hgo, h1, h2 rfl, hu]
        · cases h
      · cases h
    · cases h
  · cases h

theorem qLenMap_ok (hS : Sim M ι g w) {ts : Array TypeId} {ty : TypeId} {r' : Ref} {x : AV} {u0 : Value} (hy : VR M ι (.mp r') u0) {bs : List Blk} (h : qLenMap P g ts[0]? r' = some (x, bs)) :
    bs = [] ∧ ∃ u, (Builtin.len_ ts ty #[u0]).run P w = .ok u w ∧ VR M ι x u := by
  unfold qLenMap at h
  split at h
  · rename_i p ents ht hm
    obtain ⟨t, ht, htm⟩ := Option.bind_eq_some_iff.1 ht
    cases h
    cases hy with | mp hr hz =>
    rename_i l
    obtain ⟨a, f, entries, hg, hh, hsz, _, _⟩ := map_blk hS hm hr hz
    have hgo : (getObj l.b).run P w = .ok (.map entries entries.size) w := by simp [getObj, Sem.run, hh]
    refine ⟨rfl, goInt entries.size, by simp [Builtin.len_, ht, run_und (tmap_ok htm), hgo], ?_⟩
    rw [← hsz]
    exact .v rfl
  · cases h

/-- A new object. -/
theorem obj_alloc (hS : Sim M ι g w) (hq : ι r = none) {w' : World} {o : Obj} (hw : Grew w w' o) {k : Blk} (hob : ObjOk M (updM ι r ⟨w.heap.size, 0, 0⟩) w' ⟨w.heap.size, 0, 0⟩ k) :
    Sim M (updM ι r ⟨w.heap.size, 0, 0⟩) (updG g r k) w' ∧ Fwd M ι g w M (updM ι r ⟨w.heap.size, 0, 0⟩) (updG g r k) w' := by
  have hle := updM_le (l := ⟨w.heap.size, 0, 0⟩) hq
  have hMlt : ∀ b o x, M b o = some x → b < w.heap.size := fun b o x h => World.block_lt_of_cell? w ⟨b, o, none⟩ (hS.mem b o x h)
  have one : ∀ {q : Ref} {k' l1}, updG g r k q = some k' → updM ι r ⟨w.heap.size, 0, 0⟩ q = some l1 → (q = r ∧ l1.b = w.heap.size) ∨ (q ≠ r ∧ g q = some k' ∧ ι q = some l1 ∧ l1.b < w.heap.size) := by
    intro q k' l1 h h'
    unfold updG at h
    unfold updM at h'
    split at h
    · rename_i e; rw [if_pos e] at h'; cases h'; exact .inl ⟨e, rfl⟩
    · rename_i e
      rw [if_neg e] at h'
      obtain ⟨l2, hl2, hb2⟩ := hS.live q k' h
      rw [h'] at hl2; cases hl2
      exact .inr ⟨e, h, h', hb2.lt⟩
  refine ⟨⟨fun b o x h => hw.cell (hS.mem b o x h), fun q k' h => ?_, fun q q' k1 k2 l1 l2 h1 h2 h3 h4 h5 => ?_⟩, ⟨hw.os, hw.tape, hw.output, by rw [hw.heap]; simp, fun b hb _ => hw.old b hb, fun _ _ _ h => h, hle, fun q k' l1 h1 h2 => ?_, fun _ _ _ h => .inl h⟩⟩
  · unfold updG at h
    split at h
    · rename_i e
      subst e
      cases h
      exact ⟨⟨w.heap.size, 0, 0⟩, by simp [updM], hob.blk rfl fun o x hx => absurd (hMlt _ _ _ hx) (Nat.lt_irrefl _)⟩
    · obtain ⟨l1, hl1, hb1⟩ := hS.live q k' h
      exact ⟨l1, hle q l1 hl1, hb1.keep (fun _ _ _ h => h) hle (hw.old _ hb1.lt) hb1.frozen⟩
  · rcases one h1 h3 with ⟨e1, e2⟩ | ⟨e1, e2, e3, e4⟩ <;> rcases one h2 h4 with ⟨f1, f2⟩ | ⟨f1, f2, f3, f4⟩
    · rw [e1, f1]
    · omega
    · omega
    · exact hS.inj q q' k1 k2 l1 l2 e2 f2 e3 f3 h5
  · rcases one h1 h2 with ⟨e1, e2⟩ | ⟨e1, e2, e3, e4⟩
    · exact .inl (by omega)
    · exact .inr ⟨q, k', l1, e2, e3, rfl⟩

theorem qMakeMap_ok (hS : Sim M ι g w) (hr : r.k = 0) (hq : ι r = none) (t : TypeId) :
    ∃ u w', (Instr.makeMap t none).run P w = .ok u w' ∧ QOut M ι g w r (.mp r) [mapBlk []] u w' := by
  have hgr : Grew w (w.alloc (.map #[] 0)) (.map #[] 0) := ⟨rfl, rfl, rfl, rfl⟩
  obtain ⟨h1, h2⟩ := obj_alloc hS hq hgr (k := mapBlk []) (.inr ⟨[], #[], rfl, rfl, rfl, by rw [hgr.heap]; simp, rfl, fun i ent e h => by simp at h⟩)
  refine ⟨.map (some w.heap.size), w.alloc (.map #[] 0), by simp [Instr.makeMap, run_newObj_alloc], M, updM ι r ⟨w.heap.size, 0, 0⟩, .mp (l := ⟨w.heap.size, 0, 0⟩) (by simp [updM]) rfl, by rw [addK_one _ _ hr]; exact h1, by rw [addK_one _ _ hr]; exact h2, ?_⟩
  intro q hq' hk
  have : q ≠ r := by intro e; exact hk 0 (by simp) (by rw [e]; cases r; simp_all)
  simpa [updM, this] using hq'

/-- An object turned. -/
theorem obj_turn {H : Heap} {l : Loc} {k : Blk} (hS : Sim M ι H.get w) (hD : Dom ι H) (hr : ι r = some l) (hz : l.esz = 0) (hg : H.get r = some k) {k' : Blk} {o' : Obj} (hob : ObjOk M ι (setBlk w l.b o') l k') :
    Sim M ι (H.put r (some k')).get (setBlk w l.b o') ∧ Fwd M ι H.get w M ι (H.put r (some k')).get (setBlk w l.b o') ∧ Dom ι (H.put r (some k')) := by
  obtain ⟨l', hl', hb⟩ := hS.live r _ hg
  rw [hr] at hl'; cases hl'
  have hk0 : k.esz = 0 := by rw [← hb.esz]; exact hz
  have hM : ∀ o x, M l.b o = some x → False := by
    intro o x hx
    have := hS.mem _ _ _ hx
    rcases (hb.objOk hk0).obj with ⟨_, h4⟩ | ⟨_, _, h4⟩
    · simp [World.cell?, h4] at this
    · simp [World.cell?, h4] at this
  have back : ∀ q k1, (H.put r (some k')).get q = some k1 → ∃ k0, H.get q = some k0 := by
    intro q k1 hq
    rw [Heap.get_put] at hq
    split at hq
    · rename_i e; exact ⟨_, e ▸ hg⟩
    · exact ⟨k1, hq⟩
  refine ⟨⟨fun b o x hx => ?_, fun q k1 hq => ?_, fun q q' k1 k2 l1 l2 h1 h2 h3 h4 h5 => ?_⟩, ⟨rfl, rfl, rfl, by simp [setBlk], fun b _ hno => setBlk_other (hno r _ l hg hr), fun _ _ _ h => h, fun _ _ h => h, fun q k1 l1 h1 h2 => ?_, fun _ _ _ h => .inl h⟩, fun q lq hq => ?_⟩
  · have hne : l.b ≠ b := fun e => hM o x (e ▸ hx)
    rw [World.cell?_of_block (w := w) (setBlk_other hne)]
    exact hS.mem b o x hx
  · by_cases hqr : q = r
    · subst hqr
      rw [Heap.get_put, if_pos rfl] at hq
      cases hq
      exact ⟨l, hr, hob.blk hz hM⟩
    · rw [Heap.get_put, if_neg hqr] at hq
      obtain ⟨l1, hl1, hb1⟩ := hS.live q k1 hq
      have hnb : l.b ≠ l1.b := fun e => hqr (hS.inj q r k1 _ l1 l hq hg hl1 hr e.symm)
      exact ⟨l1, hl1, hb1.keep (fun _ _ _ h => h) (fun _ _ h => h) (setBlk_other hnb) hb1.frozen⟩
  · obtain ⟨k0, g1⟩ := back q k1 h1
    obtain ⟨k3, g2⟩ := back q' k2 h2
    exact hS.inj q q' k0 k3 l1 l2 g1 g2 h3 h4 h5
  · obtain ⟨k0, g1⟩ := back q k1 h1
    exact .inr ⟨q, k0, l1, g1, h2, rfl⟩
  · rw [Heap.gen_put _ _ _ (by rw [hg]; rfl)]
    exact hD q lq hq

theorem wMapUpdate_ok {H : Heap} (hS : Sim M ι H.get w) (hD : Dom ι H) {t : TypeId} {m k x y : AV} {um uk ux : Value} (hm : VR M ι m um) (hk : VR M ι k uk) (hx : VR M ι x ux) {H' : Heap} (h : wMapUpdate P H t (some m) (some k) (some x) = some (y, H')) :
    ∃ w', (Instr.mapUpdate t um uk ux).run P w = .ok () w' ∧ WOut M ι H w y H' undef w' := by
  unfold wMapUpdate at h
  split at h
  · rename_i kt et r' k' x' ht e1 e2 e3
    cases e1; cases e2; cases e3
    cases hm with | mp hr hz =>
    rename_i l
    split at h
    · rename_i kv ents hkv hma
      have huk : uk = kv := toValue_ok hk hkv
      subst huk
      obtain ⟨a, f, entries, hg, hh, hsz, hent, hks⟩ := map_blk hS hma hr hz
      have hlt : l.b < w.heap.size := (Array.getElem?_eq_some_iff.1 hh).1
      have hgo : (getObj l.b).run P w = .ok (.map entries entries.size) w := by simp [getObj, Sem.run, hh]
      have hso : ∀ o, (setObj l.b o).run P w = .ok () (setBlk w l.b o) := by intro o; simp [setObj, Sem.run, hh, setBlk]
      split at h
      · rename_i ks hks0
        have hkse := hks ks hks0
        split at h
        · rename_i i hf
          rw [hkse] at hf
          obtain ⟨hc, h⟩ := Option.ite_none_right_eq_some.1 h
          cases h
          obtain ⟨h1, _, h3⟩ := mapFind_ok hf w
          obtain ⟨e, he, hrun⟩ := h3 i rfl
          have he' : entries[i]? = some e := by simpa using he
          have hil : i < entries.size := (Array.getElem?_eq_some_iff.1 he').1
          have hsb : Instr.sameBits 10000 e.key uk = true := by
            rw [hkse] at hc
            simp only [List.getElem?_map, Array.getElem?_toList, he', Option.map_some, Option.some.injEq] at hc
            exact hc
          have hstay : (Instr.keyThatStays (((entries[i]?).map (·.key)).getD uk) uk).run P w = .ok uk w := by
            rw [he']
            simp [Instr.keyThatStays, hsb]
          refine ⟨setBlk w l.b (.map (entries.modify i fun e => { e with key := uk, val := ux }) entries.size), by simp only [Instr.mapUpdate, Sem.run_bind, run_und (tmap_ok ht), Result.andThen_ok, hgo, h1, hrun, hstay, hso], M, ι, .v rfl, ?_⟩
          refine obj_turn hS hD hr hz hg (.inr ⟨ents.set i (.tup [k, x]), entries.modify i fun e => { e with key := uk, val := ux }, rfl, rfl, rfl, ?_, by simp [hsz], fun j ent e1 hj he1 => ?_⟩)
          · rw [setBlk_same hlt]; simp
          · rw [Array.getElem?_modify] at he1
            by_cases hij : i = j
            · subst hij
              rw [if_pos rfl, he'] at he1
              simp only [Option.map_some, Option.some.injEq] at he1
              subst he1
              rw [List.getElem?_set_self (by omega)] at hj
              cases hj
              obtain ⟨_, _, _, _, _, hb⟩ := hent i _ e (List.getElem?_eq_getElem (by omega)) he'
              exact ⟨k, x, rfl, hkv, hx, hb⟩
            · rw [if_neg hij] at he1
              rw [List.getElem?_set_ne hij] at hj
              exact hent j ent e1 hj he1
        · rename_i hf
          rw [hkse] at hf
          cases h
          obtain ⟨h1, h2, _⟩ := mapFind_ok hf w
          refine ⟨setBlk w l.b (.map (entries.push { key := uk, val := ux, born := entries.size }) (entries.size + 1)), by simp only [Instr.mapUpdate, Sem.run_bind, run_und (tmap_ok ht), Result.andThen_ok, hgo, h1, h2 rfl, hso], M, ι, .v rfl, ?_⟩
          refine obj_turn hS hD hr hz hg (.inr ⟨ents ++ [.tup [k, x]], entries.push { key := uk, val := ux, born := entries.size }, rfl, rfl, rfl, ?_, by simp [hsz], fun j ent e1 hj he1 => ?_⟩)
          · rw [setBlk_same hlt]; simp
          · rcases Nat.lt_or_ge j entries.size with hlt' | hge
            · rw [Array.getElem?_push_lt hlt', ← Array.getElem?_eq_getElem hlt'] at he1
              rw [List.getElem?_append_left (by omega)] at hj
              exact hent j ent e1 hj he1
            · rw [List.getElem?_append_right (by omega)] at hj
              have hj0 : j = entries.size := by
                have := (List.getElem?_eq_some_iff.1 hj).1
                simp at this
                omega
              subst hj0
              simp only [hsz, Nat.sub_self, List.getElem?_cons_zero, Option.some.injEq] at hj
              subst hj
              simp at he1
              subst he1
              exact ⟨k, x, rfl, hkv, hx, rfl⟩
        · cases h
      · cases h
    · cases h
  · cases h


theorem wMapEntry_ok {H : Heap} (hS : Sim M ι H.get w) (hD : Dom ι H) {t : TypeId} {m k y : AV} {um uk : Value} (hm : VR M ι m um) (hk : VR M ι k uk) {H' : Heap} (h : wMapEntry P H t (some m) (some k) = some (y, H')) :
    ∃ u w', (Instr.mapEntry t um uk).run P w = .ok u w' ∧ WOut M ι H w y H' u w' := by
  have two : ∀ {v : AV} {u : Value} (n : Nat), VR M ι v u → VR M ι (.tup [v, .v (.int .i64 n)]) (.tuple #[u, goInt n]) := by
    intro v u n hv
    refine .tup (by simp) rfl fun i c u' hc hu => ?_
    match i with
    | 0 => simp at hc hu; subst hc; subst hu; exact hv
    | 1 => simp at hc hu; subst hc; subst hu; exact .v rfl
    | i + 2 => simp at hc
  unfold wMapEntry at h
  split at h
  · rename_i kt et r' k' ht e1 e2
    cases e1; cases e2
    cases hm with | mp hr hz =>
    rename_i l
    split at h
    · rename_i kv ents hkv hma
      have huk : uk = kv := toValue_ok hk hkv
      subst huk
      obtain ⟨a, f, entries, hg, hh, hsz, hent, hks⟩ := map_blk hS hma hr hz
      have hlt : l.b < w.heap.size := (Array.getElem?_eq_some_iff.1 hh).1
      have hgo : (getObj l.b).run P w = .ok (.map entries entries.size) w := by simp [getObj, Sem.run, hh]
      have hso : ∀ o, (setObj l.b o).run P w = .ok () (setBlk w l.b o) := by intro o; simp [setObj, Sem.run, hh, setBlk]
      split at h
      · rename_i ks hks0
        have hkse := hks ks hks0
        split at h
        · rename_i i hf
          rw [hkse] at hf
          obtain ⟨hc, h⟩ := Option.ite_none_right_eq_some.1 h
          obtain ⟨v, hv, h⟩ := Option.map_eq_some_iff.1 h
          cases h
          obtain ⟨h1, _, h3⟩ := mapFind_ok hf w
          obtain ⟨e, he, hrun⟩ := h3 i rfl
          have he' : entries[i]? = some e := by simpa using he
          have hil : i < entries.size := (Array.getElem?_eq_some_iff.1 he').1
          have hsb : Instr.sameBits 10000 e.key uk = true := by
            rw [hkse] at hc
            simp only [List.getElem?_map, Array.getElem?_toList, he', Option.map_some, Option.some.injEq] at hc
            exact hc
          have hstay : (Instr.keyThatStays (((entries[i]?).map (·.key)).getD uk) uk).run P w = .ok uk w := by
            rw [he']
            simp [Instr.keyThatStays, hsb]
          obtain ⟨ent, hent1, hv⟩ := Option.bind_eq_some_iff.1 hv
          obtain ⟨ka, va, q1, q2, q3, q4⟩ := hent i ent e hent1 he'
          subst q1
          simp only [entVal, Option.some.injEq] at hv
          subst hv
          refine ⟨.tuple #[e.val, goInt i], setBlk w l.b (.map (entries.modify i fun e => { e with key := uk }) entries.size), ?_, M, ι, two i q3, ?_⟩
          · have hborn : (Option.map (fun x : MapEntry => (x.born : Int)) entries[i]?).getD 0 = (i : Int) := by rw [he']; simp [q4]
            simp only [Instr.mapEntry, Sem.run_bind, Sem.run_pure, run_und (tmap_ok ht), Result.andThen_ok, hgo, h1, hrun, hstay, hso, hborn]
          refine obj_turn hS hD hr hz hg (.inr ⟨ents.set i (.tup [k, va]), entries.modify i fun e => { e with key := uk }, rfl, rfl, rfl, ?_, by simp [hsz], fun j ent e1 hj he1 => ?_⟩)
          · rw [setBlk_same hlt]; simp
          · rw [Array.getElem?_modify] at he1
            by_cases hij : i = j
            · subst hij
              rw [if_pos rfl, he'] at he1
              simp only [Option.map_some, Option.some.injEq] at he1
              subst he1
              rw [List.getElem?_set_self (by omega)] at hj
              cases hj
              exact ⟨k, va, rfl, hkv, q3, q4⟩
            · rw [if_neg hij] at he1
              rw [List.getElem?_set_ne hij] at hj
              exact hent j ent e1 hj he1
        · rename_i hf
          rw [hkse] at hf
          obtain ⟨z, hzz, h⟩ := Option.map_eq_some_iff.1 h
          cases h
          obtain ⟨h1, h2, _⟩ := mapFind_ok hf w
          obtain ⟨uz, hu, hv⟩ := run_zero hzz w
          refine ⟨.tuple #[uz, goInt ents.length], setBlk w l.b (.map (entries.push { key := uk, val := uz, born := entries.size }) (entries.size + 1)), ?_, M, ι, two ents.length (ofValue_ok hv), ?_⟩
          · simp only [Instr.mapEntry, Sem.run_bind, Sem.run_pure, run_und (tmap_ok ht), Result.andThen_ok, hgo, h1, h2 rfl, hu, hso, hsz]
          refine obj_turn hS hD hr hz hg (.inr ⟨ents ++ [.tup [k, z]], entries.push { key := uk, val := uz, born := entries.size }, rfl, rfl, rfl, ?_, by simp [hsz], fun j ent e1 hj he1 => ?_⟩)
          · rw [setBlk_same hlt]; simp
          · rcases Nat.lt_or_ge j entries.size with hlt' | hge
            · rw [Array.getElem?_push_lt hlt', ← Array.getElem?_eq_getElem hlt'] at he1
              rw [List.getElem?_append_left (by omega)] at hj
              exact hent j ent e1 hj he1
            · rw [List.getElem?_append_right (by omega)] at hj
              have hj0 : j = entries.size := by
                have := (List.getElem?_eq_some_iff.1 hj).1
                simp at this
                omega
              subst hj0
              simp only [hsz, Nat.sub_self, List.getElem?_cons_zero, Option.some.injEq] at hj
              subst hj
              simp at he1
              subst he1
              exact ⟨k, z, rfl, hkv, ofValue_ok hv, rfl⟩
        · cases h
      · cases h
    · cases h
  · cases h

theorem wEntryStore_ok {H : Heap} (hS : Sim M ι H.get w) (hD : Dom ι H) {t : TypeId} {m s x y : AV} {um us ux : Value} (hm : VR M ι m um) (hs : VR M ι s us) (hx : VR M ι x ux) {H' : Heap} (h : wEntryStore H (some m) (some s) (some x) = some (y, H')) :
    ∃ w', (Instr.entryStore t um us ux).run P w = .ok () w' ∧ WOut M ι H w y H' undef w' := by
  unfold wEntryStore at h
  split at h
  · rename_i r' kd n x' e1 e2 e3
    cases e1; cases e2; cases e3
    cases hm with | mp hr hz =>
    rename_i l
    cases hs
    split at h
    · rename_i ents hma
      obtain ⟨hn, h⟩ := Option.ite_none_right_eq_some.1 h
      split at h
      · rename_i ka va hen
        cases h
        obtain ⟨a, f, entries, hg, hh, hsz, hent, _⟩ := map_blk hS hma hr hz
        have hlt : l.b < w.heap.size := (Array.getElem?_eq_some_iff.1 hh).1
        have hgo : (getObj l.b).run P w = .ok (.map entries entries.size) w := by simp [getObj, Sem.run, hh]
        have hso : ∀ o, (setObj l.b o).run P w = .ok () (setBlk w l.b o) := by intro o; simp [setObj, Sem.run, hh, setBlk]
        have hil : n.toNat < entries.size := by have := (List.getElem?_eq_some_iff.1 hen).1; omega
        have born : ∀ j (hj : j < entries.size), entries[j].born = j := by
          intro j hj
          obtain ⟨_, _, _, _, _, hb⟩ := hent j _ entries[j] (List.getElem?_eq_getElem (by omega)) (Array.getElem?_eq_getElem hj)
          exact hb
        have hfi : entries.findIdx? (fun e => (e.born : Int) == n) = some n.toNat := by
          rw [Array.findIdx?_eq_some_iff_getElem]
          refine ⟨hil, ?_, fun j hj => ?_⟩
          · rw [born _ hil]; simp; omega
          · rw [born j (by omega)]; simp; omega
        obtain ⟨ka', va', q1, q2, q3, q4⟩ := hent n.toNat _ entries[n.toNat] hen (Array.getElem?_eq_getElem hil)
        cases q1
        refine ⟨setBlk w l.b (.map (entries.modify n.toNat fun e => { e with val := ux }) entries.size), ?_, M, ι, .v rfl, ?_⟩
        · simp only [Instr.entryStore, Sem.run_bind, Sem.run_pure, Result.andThen_ok, hgo, asInt, asIntOf, hfi, hso]
        refine obj_turn hS hD hr hz hg (.inr ⟨ents.set n.toNat (.tup [ka, x]), entries.modify n.toNat fun e => { e with val := ux }, rfl, rfl, rfl, ?_, by simp [hsz], fun j ent e1 hj he1 => ?_⟩)
        · rw [setBlk_same hlt]; simp
        · rw [Array.getElem?_modify] at he1
          by_cases hij : n.toNat = j
          · subst hij
            rw [if_pos rfl, Array.getElem?_eq_getElem hil] at he1
            simp only [Option.map_some, Option.some.injEq] at he1
            subst he1
            rw [List.getElem?_set_self (by omega)] at hj
            cases hj
            exact ⟨ka, x, rfl, q2, hx, q4⟩
          · rw [if_neg hij] at he1
            rw [List.getElem?_set_ne hij] at hj
            exact hent j ent e1 hj he1
      · cases h
    · cases h
  · cases h

end
end Go.Ab
