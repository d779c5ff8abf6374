/-
  What the abstract machine's quiet operations give is what the model's give: the second part. No statement of a seat is proved here.
-/
import Derived.Test.YtjampffmlnplcaaAbsOps1
import Derived.Lib.SliceRun
import Derived.WalkSpells
set_option linter.unusedVariables false
set_option linter.unusedSimpArgs false
namespace Go.Ab

section
variable {P : Program} {M : Mem} {ι : Map} {g : Get} {w : World} {r : Ref}

/- ## Filling -/
theorem fold_set (off : Nat) : ∀ (us : List Value) (k : Nat) (cells : Array Value), off + k + us.length ≤ cells.size →
    (us.zipIdx k).foldl (fun cs (p : Value × Nat) => cs.setIfInBounds (off + p.2) p.1) cells = putCells cells (off + k) us := by
  intro us
  induction us with
  | nil => intro k cells h; simp [putCells]
  | cons u us ih =>
    intro k cells h
    simp only [List.length_cons] at h
    rw [List.zipIdx_cons, List.foldl_cons, ih (k + 1) _ (by simp; omega)]
    apply Array.ext_getElem?
    intro i
    rw [putCells_at (by simp; omega), putCells_at (by simp; omega)]
    by_cases h2 : i = off + k
    · subst h2
      rw [if_neg (by omega), if_pos ⟨Nat.le_refl _, by simp⟩]
      simp [show off + k < cells.size by omega]
    · by_cases h3 : off + (k + 1) ≤ i ∧ i < off + (k + 1) + us.length
      · rw [if_pos h3, if_pos (by simp; omega)]
        rw [show i - (off + k) = (i - (off + (k + 1))) + 1 by omega]
        simp
      · rw [if_neg h3, if_neg (by simp; omega)]
        rw [Array.getElem?_setIfInBounds_ne (by omega)]

theorem VRs.patch {cs new : List AV} {us vs : List Value} {j : Nat} (h : VRs M ι cs us) (h' : VRs M ι new vs) : VRs M ι (patch cs j new) (us.take j ++ vs ++ us.drop (j + vs.length)) := by
  unfold Ab.patch
  rw [← h'.1]
  exact ((h.take j).append h').append (h.drop _)

theorem fill_ok (place : Nat → Option (Nat × Nat)) : ∀ (ps : List (Nat × AV)) (qs : List (Nat × Value)) (cs cs' : List AV) (zc : Array Value), fillAV place cs ps = some cs' → VRs M ι cs zc.toList →
    ps.length = qs.length → (∀ (i : Nat) p q, ps[i]? = some p → qs[i]? = some q → p.1 = q.1 ∧ VR M ι p.2 q.2) →
    ∃ zc', Instr.fill place zc qs = some zc' ∧ VRs M ι cs' zc'.toList := by
  intro ps
  induction ps with
  | nil =>
    intro qs cs cs' zc h hv hl hp
    simp [fillAV] at h
    subst h
    cases qs with
    | nil => exact ⟨zc, rfl, hv⟩
    | cons q qs => simp at hl
  | cons p ps ih =>
    intro qs cs cs' zc h hv hl hp
    cases qs with
    | nil => simp at hl
    | cons q qs =>
      obtain ⟨i, v⟩ := p
      obtain ⟨i', u⟩ := q
      obtain ⟨h1, h2⟩ := hp 0 _ _ rfl rfl
      simp only at h1 h2
      subst h1
      simp only [fillAV] at h
      split at h
      · cases h
      · rename_i off size hpl
        split at h
        · rename_i hc
          obtain ⟨hsz, hle⟩ := hc
          have hcs := h2.cells
          have hus : u.cells.size = size := by have := hcs.1; simp at this; omega
          have hzl : zc.size = cs.length := by have := hv.1; simp at this; omega
          have hput := fold_set off u.cells.toList 0 zc (by simp; omega)
          have hfold : u.cells.zipIdx.foldl (fun cs (p : Value × Nat) => cs.setIfInBounds (off + p.2) p.1) zc = putCells zc off u.cells.toList := by
            rw [Nat.add_zero] at hput
            rw [← hput, ← Array.foldl_toList, Array.toList_zipIdx]
          have hv' : VRs M ι (patch cs off v.cells) (putCells zc off u.cells.toList).toList := by
            have := hv.patch (j := off) hcs
            simpa [putCells] using this
          obtain ⟨zc', h3, h4⟩ := ih qs (patch cs off v.cells) cs' (putCells zc off u.cells.toList) h hv' (by simpa using hl) (fun k p q hp' hq' => hp (k + 1) p q hp' hq')
          refine ⟨zc', ?_, h4⟩
          simp only [Instr.fill, hpl]
          rw [if_neg (by simp; omega)]
          rw [← h3, ← hfold]
        · cases h

theorem evalParts_ok {tm : List AV} {a : Act} (h : TR M ι tm a) {ps : List (Nat × Operand)} {vs : List (Nat × AV)} (hx : evalParts tm ps = some vs) :
    vs.length = (ps.map fun p => (p.1, a.eval p.2)).length ∧ ∀ (i : Nat) p q, vs[i]? = some p → (ps.map fun p => (p.1, a.eval p.2))[i]? = some q → p.1 = q.1 ∧ VR M ι p.2 q.2 := by
  unfold evalParts at hx
  refine ⟨by simpa using mapM_len hx, fun i p q hp hq => ?_⟩
  obtain ⟨⟨k, o⟩, ho, hf⟩ := mapM_at hx i p hp
  simp only [Option.map_eq_some_iff] at hf
  obtain ⟨y, hy, rfl⟩ := hf
  simp only [List.getElem?_map, ho, Option.map_some, Option.some.injEq] at hq
  subst hq
  exact ⟨rfl, evalO_ok h hy⟩

theorem tzero_info {t : TypeId} {z : AV} (h : tzero P t = some z) : ∃ i u, P.info? t = some i ∧ i.zero = some u ∧ ofValue u = some z := by
  simp only [tzero, Option.bind_eq_some_iff] at h
  obtain ⟨u, ⟨i, hi, hz⟩, hu⟩ := h
  exact ⟨i, u, hi, hz, hu⟩

theorem qBuild_ok {t : TypeId} {vs : List (Nat × AV)} {qs : Array (Nat × Value)} {x : AV} {bs : List Blk} (hl : vs.length = qs.toList.length)
    (hp : ∀ (i : Nat) p q, vs[i]? = some p → qs.toList[i]? = some q → p.1 = q.1 ∧ VR M ι p.2 q.2) (h : qBuild P t (some vs) = some (x, bs)) :
    bs = [] ∧ ∃ u, (Instr.build t qs).run P w = .ok u w ∧ VR M ι x u := by
  unfold qBuild at h
  split at h
  · rename_i z vs' hz he
    cases he
    obtain ⟨it, u, hit, hiz, hu⟩ := tzero_info hz
    obtain ⟨zc, rfl, hzc⟩ := (ofValue_ok (M := M) (ι := ι) hu).aggOf
    split at h
    · rename_i n e ha
      split at h
      · rename_i s hs
        simp only [Option.map_eq_some_iff] at h
        obtain ⟨cs, hcs, he⟩ := h
        cases he
        obtain ⟨ie, hie, rfl⟩ := tsize_info hs
        obtain ⟨zc', h1, h2⟩ := fill_ok (M := M) (ι := ι) _ vs qs.toList z cs zc hcs hzc hl hp
        refine ⟨rfl, .agg zc', run_build w t qs zc' ?_, VR.agg_iff.2 h2⟩
        simp [Program.built, hit, tarr_ok ha, hiz, hie, Value.cells, h1]
      · cases h
    · split at h
      · rename_i ps hps
        simp only [Option.map_eq_some_iff] at h
        obtain ⟨cs, hcs, he⟩ := h
        cases he
        unfold placesOf at hps
        split at hps
        · rename_i fs hfs
          obtain ⟨zc', h1, h2⟩ := fill_ok (M := M) (ι := ι) _ vs qs.toList z cs zc hcs hzc hl hp
          refine ⟨rfl, .agg zc', run_build w t qs zc' ?_, VR.agg_iff.2 h2⟩
          simp only [Program.built, hit, hfs, hiz, hps, Value.cells]
          rw [← h1]
          congr 1
          funext i
          simp
        · cases hps
      · cases h
  · cases h

/- ## Numbers, tests -/
theorem qBin_ok {op : BinOp} {t : TypeId} {xo yo : Operand} {x y z : AV} {u v : Value} (hx : VR M ι x u) (hy : VR M ι y v) {bs : List Blk} (h : qBin P op t xo yo (some x) (some y) = some (z, bs)) :
    bs = [] ∧ ∃ r, (do eqGuard op t xo yo u v; binOp op t u v : Sem Value).run P w = .ok r w ∧ VR M ι z r := by
  simp only [qBin] at h
  · split at h
    · rename_i hc
      have key : (∃ a n c, u = .slice (some a) n c ∧ v = .slice none 0 0) ∨ (∃ a n c, v = .slice (some a) n c ∧ u = .slice none 0 0) := by
        simp only [Bool.or_eq_true, Bool.and_eq_true] at hc
        rcases hc with ⟨h1, h2⟩ | ⟨h1, h2⟩
        · left
          have : v = .slice none 0 0 := by
            cases hy <;> simp [nilSlice] at h2
            split at h2 <;> simp_all
          cases hx <;> simp [isSl] at h1
          · exact ⟨_, _, _, rfl, this⟩
          · exact ⟨_, _, _, rfl, this⟩
        · right
          have : u = .slice none 0 0 := by
            cases hx <;> simp [nilSlice] at h2
            split at h2 <;> simp_all
          cases hy <;> simp [isSl] at h1
          · exact ⟨_, _, _, rfl, this⟩
          · exact ⟨_, _, _, rfl, this⟩
      have geq : ∀ op, (eqGuard op t xo yo u v).run P w = .ok () w := by
        intro op
        rcases key with ⟨a, n, c, rfl, rfl⟩ | ⟨a, n, c, rfl, rfl⟩ <;> (unfold eqGuard; cases op <;> simp)
      split at h
      · rename_i e hu
        simp at h; obtain ⟨rfl, rfl⟩ := h
        refine ⟨rfl, .bool false, ?_, .v rfl⟩
        simp only [Sem.run_bind, geq, Result.andThen_ok]
        rcases key with ⟨a, n, c, rfl, rfl⟩ | ⟨a, n, c, rfl, rfl⟩
        · rw [Lib.run_eql_slice_nil w t e (some a) n c 0 0 hu]; rfl
        · rw [run_eql_nil_slice w t e (some a) n c 0 0 hu]; rfl
      · rename_i e hu
        simp at h; obtain ⟨rfl, rfl⟩ := h
        refine ⟨rfl, .bool true, ?_, .v rfl⟩
        simp only [Sem.run_bind, geq, Result.andThen_ok]
        rcases key with ⟨a, n, c, rfl, rfl⟩ | ⟨a, n, c, rfl, rfl⟩
        · rw [run_neq_slice_nil_any w t e (some a) n c 0 0 hu]; rfl
        · rw [run_neq_nil_slice w t e (some a) n c 0 0 hu]; rfl
      · cases h
    · split at h
      · rename_i x' y' hx' hy'
        simp only [qVal, Option.map_eq_some_iff, Option.bind_eq_some_iff] at h
        obtain ⟨z', ⟨r, hr, hz⟩, he⟩ := h
        cases he
        have e1 := toValue_ok hx hx'
        have e2 := toValue_ok hy hy'
        subst e1; subst e2
        exact ⟨rfl, r, pureRun_run hr w, ofScalar_ok hz⟩
      · cases h

theorem qUn_ok {op : UnOp} {x z : AV} {u : Value} (hx : VR M ι x u) {bs : List Blk} (h : qUn P op (some x) = some (z, bs)) :
    bs = [] ∧ ∃ r, (Op.unary op u).run P w = .ok r w ∧ VR M ι z r := by
  simp only [qUn, qVal, Option.map_eq_some_iff, Option.bind_eq_some_iff, Option.some.injEq] at h
  obtain ⟨z', ⟨r, ⟨v, ⟨x', rfl, hv⟩, hr⟩, hz⟩, he⟩ := h
  cases he
  have := unV_ok hx hv
  subst this
  exact ⟨rfl, r, pureRun_run hr w, ofScalar_ok hz⟩

theorem unVs_ok {xs : List AV} {us vs : List Value} (hx : VRs M ι xs us) (h : xs.mapM unV = some vs) : us = vs := by
  apply List.ext_getElem?
  intro i
  rcases Nat.lt_or_ge i us.length with hi | hi
  · have hi' : i < xs.length := by rw [hx.1]; exact hi
    obtain ⟨v, hv, hf⟩ := mapM_at' h i xs[i] (List.getElem?_eq_getElem hi')
    rw [hv, List.getElem?_eq_getElem hi, unV_ok (hx.2 i _ _ (List.getElem?_eq_getElem hi') (List.getElem?_eq_getElem hi)) hf]
  · have := mapM_len h
    rw [List.getElem?_eq_none hi, List.getElem?_eq_none (by rw [this, hx.1]; exact hi)]

theorem minmax_ok {f : Value → Value → Sem Value} {xs : List AV} {us : List Value} {z : AV} (hx : VRs M ι xs us) (h : minmax f P xs = some z) :
    ∃ u us', us = u :: us' ∧ ∃ r, (us'.foldlM f u).run P w = .ok r w ∧ VR M ι z r := by
  unfold minmax at h
  split at h
  · rename_i u us' hm
    have := unVs_ok hx hm
    subst this
    simp only [Option.bind_eq_some_iff] at h
    obtain ⟨r, hr, hz⟩ := h
    exact ⟨u, us', rfl, r, pureRun_run hr w, ofScalar_ok hz⟩
  · cases h

theorem lenAV_ok {x : AV} {u : Value} {n : Nat} {t : TypeId} (hx : VR M ι x u) (h : lenAV x = some n) (ht : isStr P t = true ∨ ∃ e, P.underlying t = some (.slice e)) (hs : (∃ s, x = .v (.string s)) ↔ isStr P t = true) :
    True := trivial

theorem isStr_ok {t : TypeId} (h : isStr P t = true) : P.underlying t = some .string := by
  unfold isStr at h
  split at h
  · assumption
  · cases h

theorem isByteSlice_ok {t : TypeId} (h : isByteSlice P t = true) : ∃ e, P.underlying t = some (.slice e) ∧ P.underlying e = some (.int .u8) := by
  unfold isByteSlice at h
  split at h
  · rename_i e he
    split at h
    · exact ⟨e, he, by assumption⟩
    · cases h
  · cases h

theorem isInt_ok {t : TypeId} (h : isInt P t = true) : ∃ k, P.underlying t = some (.int k) := by
  unfold isInt at h
  split at h
  · exact ⟨_, by assumption⟩
  · cases h

end
end Go.Ab
