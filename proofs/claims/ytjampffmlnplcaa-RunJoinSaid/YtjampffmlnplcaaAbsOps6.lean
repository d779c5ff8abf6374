/-
  What the abstract machine's quiet operations give is what the model's give: what is left but calls. No statement of a seat is proved here.
-/
import Derived.Test.YtjampffmlnplcaaAbsOps5
set_option linter.unusedVariables false
set_option linter.unusedSimpArgs false
namespace Go.Ab

section
variable {P : Program} {M : Mem} {ι : Map} {g : Get} {w : World} {r : Ref}

theorem qIndex_ok {t : TypeId} {y z x : AV} {u0 u1 : Value} (hy : VR M ι y u0) (hz : VR M ι z u1) {bs : List Blk} (h : qIndex P t (some y) (some z) = some (x, bs)) :
    bs = [] ∧ ∃ u, (Instr.index t u0 u1).run P w = .ok u w ∧ VR M ι x u := by
  simp only [qIndex, Option.bind_some] at h
  split at h
  · rename_i k cs hk hcs
    injection hcs with hcs
    subst hcs
    obtain ⟨ki, rfl⟩ := intOf_ok hz hk
    split at h
    · rename_i n e ha
      split at h
      · rename_i s hs
        obtain ⟨hc, h⟩ := Option.ite_none_right_eq_some.1 h
        simp only [qVal, Option.map_eq_some_iff] at h
        obtain ⟨y', hy', he⟩ := h
        cases he
        obtain ⟨vs, rfl, hvs⟩ := hy.aggOf
        obtain ⟨u, hu, hv⟩ := part_ok (w := w) hvs hy'
        exact ⟨rfl, u, by simp [Instr.index, asIntOf, run_und (tarr_ok ha), hc.1, hc.2, run_sizeOf hs, hu], hv⟩
      · cases h
    · cases h
  · rename_i k s hk hs
    injection hs with hs
    subst hs
    obtain ⟨ki, rfl⟩ := intOf_ok hz hk
    cases hy
    obtain ⟨hc, h⟩ := Option.ite_none_right_eq_some.1 h
    simp only [qVal, Option.map_eq_some_iff] at h
    obtain ⟨y', ⟨b, hb, rfl⟩, he⟩ := h
    cases he
    refine ⟨rfl, .int .u8 b.toNat, ?_, .v rfl⟩
    have h0 := hc.2
    simp [Instr.index, asIntOf, run_und (isStr_ok hc.1), h0, hb]
  · cases h

theorem qFunc_ok {f : Fn} {a b : List AV} {ua ub : List Value} (ha : VRs M ι a ua) (hb : VRs M ι b ub) {x : AV} {bs : List Blk} (h : qFunc f (some a) (some b) = some (x, bs)) :
    bs = [] ∧ VR M ι x (.func f ua.toArray ub.toArray) := by
  simp only [qFunc, Option.some.injEq, Prod.mk.injEq] at h
  obtain ⟨rfl, rfl⟩ := h
  exact ⟨rfl, .fn (by simpa using ha.1) (by simpa using hb.1) (fun i c u hc hu => ha.2 i c u hc (by simpa using hu)) (fun i c u hc hu => hb.2 i c u hc (by simpa using hu))⟩

theorem qPick_ok {tm : List AV} {a : Act} (h : TR M ι tm a) {c x y : Operand} {z : AV} {bs : List Blk} (hq : qPick (evalO tm) c x y = some (z, bs)) :
    bs = [] ∧ ∃ u, (do pure (if ← asBool (a.eval c) then a.eval x else a.eval y) : Sem Value).run P w = .ok u w ∧ VR M ι z u := by
  unfold qPick at hq
  split at hq
  · rename_i hb
    simp only [Option.bind_eq_some_iff] at hb
    obtain ⟨cv, hc, hcb⟩ := hb
    have := boolOf_ok (evalO_ok h hc) hcb
    simp only [qVal, Option.map_eq_some_iff] at hq
    obtain ⟨z', hz, he⟩ := hq
    cases he
    exact ⟨rfl, _, by simp [this, asBool], evalO_ok h hz⟩
  · rename_i hb
    simp only [Option.bind_eq_some_iff] at hb
    obtain ⟨cv, hc, hcb⟩ := hb
    have := boolOf_ok (evalO_ok h hc) hcb
    simp only [qVal, Option.map_eq_some_iff] at hq
    obtain ⟨z', hz, he⟩ := hq
    cases he
    exact ⟨rfl, _, by simp [this, asBool], evalO_ok h hz⟩
  · cases hq

theorem qCap_ok {ts : Array TypeId} {ty : TypeId} {y x : AV} {u0 : Value} (hy : VR M ι y u0) {bs : List Blk} (h : qCap P ts[0]? y = some (x, bs)) :
    bs = [] ∧ ∃ u, (Builtin.cap_ ts ty #[u0]).run P w = .ok u w ∧ VR M ι x u := by
  unfold qCap at h
  split at h
  · rename_i e he
    obtain ⟨t, ht, he⟩ := Option.bind_eq_some_iff.1 he
    cases h
    cases hy
    exact ⟨rfl, goInt 0, by simp [Builtin.cap_, ht, run_und (telem_ok he)], .v rfl⟩
  · rename_i e z es k he
    obtain ⟨t, ht, he⟩ := Option.bind_eq_some_iff.1 he
    cases h
    cases hy with | isl cell hs hc hk hm hee hh =>
    rename_i a c
    have := hk k rfl
    subst this
    exact ⟨rfl, goInt c, by simp [Builtin.cap_, ht, run_und (telem_ok he)], .v rfl⟩
  · rename_i e r off len k he
    obtain ⟨t, ht, he⟩ := Option.bind_eq_some_iff.1 he
    cases h
    cases hy with | osl hr hb hs ha hc hn hk hzl =>
    rename_i l a c
    have := hk k rfl
    subst this
    exact ⟨rfl, goInt c, by simp [Builtin.cap_, ht, run_und (telem_ok he)], .v rfl⟩
  · cases h

theorem qLen_ok {ts : Array TypeId} {ty : TypeId} {y x : AV} {u0 : Value} (hy : VR M ι y u0) {bs : List Blk} (h : qLen P ts[0]? y = some (x, bs)) :
    bs = [] ∧ ∃ u, (Builtin.len_ ts ty #[u0]).run P w = .ok u w ∧ VR M ι x u := by
  unfold qLen at h
  split at h
  · cases h
  · rename_i t ht
    split at h
    · rename_i n e ha
      injection h with h
      injection h with h1 h2
      subst h1; subst h2
      exact ⟨rfl, goInt n, by simp [Builtin.len_, ht, run_und (tarr_ok ha)], .v rfl⟩
    · split at h
      · rename_i hs
        split at h
        · injection h with h
          injection h with h1 h2
          subst h1; subst h2
          cases hy
          exact ⟨rfl, goInt _, by simp [Builtin.len_, ht, run_und (isStr_ok hs)], .v rfl⟩
        · cases h
      · obtain ⟨hs, h⟩ := Option.ite_none_right_eq_some.1 h
        obtain ⟨e, he⟩ := Option.isSome_iff_exists.1 hs
        have hu := telem_ok he
        simp only [Option.map_eq_some_iff] at h
        obtain ⟨n, hn, h⟩ := h
        injection h with h1 h2
        subst h1; subst h2
        refine ⟨rfl, goInt n, ?_, .v rfl⟩
        unfold lenAV at hn
        split at hn
        · injection hn with hn; subst hn; cases hy; simp [Builtin.len_, ht, run_und hu]
        · injection hn with hn; subst hn; cases hy; simp [Builtin.len_, ht, run_und hu]
        · injection hn with hn; subst hn; cases hy; simp [Builtin.len_, ht, run_und hu]
        · cases hn

theorem byteOf_ok {x : AV} {u : Value} {b : UInt8} (hx : VR M ι x u) (h : byteOf x = some b) : ∃ n : Int, u = .int .u8 n ∧ b = UInt8.ofNat n.toNat := by
  unfold byteOf at h
  split at h
  · injection h with h
    cases hx
    exact ⟨_, rfl, h.symm⟩
  · cases h

theorem fold_bytes : ∀ (ns : List Int) (s : ByteArray), ns.foldl (fun r n => r.push (UInt8.ofNat n.toNat)) s = ⟨s.data ++ (ns.map fun n => UInt8.ofNat n.toNat).toArray⟩ := by
  intro ns
  induction ns with
  | nil => intro s; simp
  | cons n ns ih =>
    intro s
    rw [List.foldl_cons, ih]
    simp [ByteArray.push]

theorem qConvert_ok (hS : Sim M ι g w) (hr : r.k = 0) (hq : ι r = none) {src dst : TypeId} {y x : AV} {u0 : Value} (hy : VR M ι y u0) {bs : List Blk} (h : qConvert P g r src dst (some y) = some (x, bs)) :
    ∃ u w', (Go.convert src dst u0).run P w = .ok u w' ∧ QOut M ι g w r x bs u w' := by
  unfold qConvert at h
  split at h
  · rename_i e
    injection e with e
    subst e
    cases hy
    obtain ⟨hc, h⟩ := Option.ite_none_right_eq_some.1 h
    simp only [Bool.and_eq_true] at hc
    obtain ⟨e, he1, he2⟩ := isByteSlice_ok hc.1
    injection h with h
    injection h with h1 h2
    subst h1; subst h2
    exact ⟨.string .empty, w, by rw [run_convert_bytes_string w src dst e none 0 0 he1 he2 (isStr_ok hc.2)]; rfl, QOut.same hS (.v rfl)⟩
  · rename_i s e
    injection e with e
    subst e
    cases hy
    split at h
    · rename_i hc
      simp only [Bool.and_eq_true] at hc
      injection h with h
      injection h with h1 h2
      subst h1; subst h2
      exact ⟨.string s, w, by simp [Go.convert, run_und (isStr_ok hc.1), run_und (isStr_ok hc.2)], QOut.same hS (.v rfl)⟩
    · split at h
      · rename_i hc
        simp only [Bool.and_eq_true] at hc
        obtain ⟨hrm, h⟩ := Option.ite_none_right_eq_some.1 h
        injection h with h
        injection h with h1 h2
        subst h1; subst h2
        obtain ⟨e, he1, he2⟩ := isByteSlice_ok hc.2
        have hrun := run_bytes_of_string (P := P) w src dst e s (isStr_ok hc.1) he1 he2
        have hcap := grownCap_ge w s.size 0 e
        have hrow : Row M 1 (s.data.toList.map fun b => AV.v (.int .u8 b.toNat)) (s.data.toList.map fun b => Value.int .u8 b.toNat) := by
          refine ⟨by simp, ?_, ?_, ?_⟩
          · intro e he
            simp only [List.mem_map] at he
            obtain ⟨b, _, rfl⟩ := he
            rfl
          · intro x hx
            simp only [List.mem_map] at hx
            obtain ⟨b, _, rfl⟩ := hx
            rfl
          · intro i j e x he hx
            simp only [List.getElem?_map, Option.map_eq_some_iff] at he
            obtain ⟨b, hb, rfl⟩ := he
            cases j with
            | succ j => simp [AV.cells] at hx
            | zero =>
              simp [AV.cells] at hx
              subst hx
              exact ⟨.int .u8 b.toNat, by simp [hb], .v rfl⟩
        have hsize : (bytesRow s (grownCap w s.size 0 e)).size = grownCap w s.size 0 e := by
          have : s.data.size = s.size := rfl
          simp [bytesRow]
          omega
        have := alloc_row hS hr hq (w' := w.drew.alloc (.cells (bytesRow s (grownCap w s.size 0 e)) e ((bytesRow s (grownCap w s.size 0 e)).size, (bytesRow s (grownCap w s.size 0 e)).size + 1)))
          ⟨rfl, rfl, rfl, rfl⟩ hrow (by
            intro k u hu
            have hk := (List.getElem?_eq_some_iff.1 hu).1
            unfold bytesRow
            rw [Array.getElem?_append_left (by simpa using hk)]
            rw [← hu]
            simp) (n := grownCap w s.size 0 e) (c := grownCap w s.size 0 e) (by rw [hsize]; simp) (by intro o ho h; omega) (by simpa using hcap) (Nat.le_refl _) (cap := none) (by intro k hk; cases hk) Nat.one_pos
        simp only [List.length_map, Array.length_toList] at this
        exact ⟨_, _, hrun, this⟩
      · cases h
  · rename_i v hne1 hne2 e
    injection e with e
    subst e
    simp only [qVal, Option.map_eq_some_iff, Option.bind_eq_some_iff] at h
    obtain ⟨z, ⟨u, hu, hz⟩, he⟩ := h
    cases he
    cases hy
    exact ⟨u, w, pureRun_run hu w, QOut.same hS (ofScalar_ok hz)⟩
  · rename_i y' hne1 hne2 hne3 e
    injection e with e
    subst e
    split at h
    · rename_i hc
      simp only [Bool.and_eq_true] at hc
      obtain ⟨e, he1, he2⟩ := isByteSlice_ok hc.1
      split at h
      · rename_i z es hes
        simp only [Option.map_eq_some_iff] at h
        obtain ⟨l, hl, h⟩ := h
        injection h with h1 h2
        subst h1; subst h2
        -- the cells are bytes: one cell an element
        have hz1 : z = 1 ∨ es = [] := by
          cases es with
          | nil => exact .inr rfl
          | cons e0 es0 =>
            left
            obtain ⟨b, _, hb⟩ := mapM_at' hl 0 e0 rfl
            unfold byteOf at hb
            split at hb
            · rename_i n
              cases hy with
              | isl cell hs hcc' hk hm he hh =>
                simp only [elemsOf, Option.some.injEq, Prod.mk.injEq] at hes
                obtain ⟨rfl, rfl⟩ := hes
                have := he _ (List.mem_cons_self ..)
                simpa [AV.cells] using this.symm
              | osl hr' hb' hs ha hcc' hn hk hzl =>
                rename_i r1 off1 len1 cap1 l1 a1 c1
                simp only [elemsOf] at hes
                split at hes
                · rename_i b1 hb1
                  obtain ⟨hcc, hes⟩ := Option.ite_none_right_eq_some.1 hes
                  injection hes with hes
                  injection hes with h3 h4
                  have hbk := hS.at hr' hzl hb1
                  have hmem : (AV.v (.int .u8 n)) ∈ b1.es := by
                    have : (AV.v (.int .u8 n)) ∈ (b1.es.drop off1).take len1 := by rw [h4]; exact List.mem_cons_self ..
                    exact List.mem_of_mem_drop (List.mem_of_mem_take this)
                  have := hbk.cells _ hmem
                  rw [← h3, ← this]
                  rfl
                · cases hes
              | v hv => exact absurd rfl (hne3 _)
              | _ => simp [elemsOf] at hes
            · cases hb
        have hlen := mapM_len hl
        obtain ⟨a, n, c, rfl, hn, cellat⟩ : ∃ a n c, u0 = .slice (some a) n c ∧ es.length = n ∧ ∀ j, j < n → ∃ b : Int, w.cell? (a.add j) = some (.int .u8 b) ∧ l[j]? = some (UInt8.ofNat b.toNat) := by
          rcases hz1 with rfl | rfl
          · obtain ⟨us, hsrc⟩ := elemsOf_ok (P := P) hS hy (Nat.one_pos) hes
            cases hy with
            | isl cell hs hc hk hm he hh =>
              rename_i esz es' cap a c
              simp only [elemsOf, Option.some.injEq, Prod.mk.injEq] at hes
              obtain ⟨rfl, rfl⟩ := hes
              refine ⟨a, es'.length, c, rfl, rfl, ?_⟩
              intro j hj
              have hej := List.getElem?_eq_getElem hj
              obtain ⟨b, hb1, hb2⟩ := mapM_at' hl j _ hej
              have hcl := he _ (List.getElem_mem hj)
              have hbv : es'[j].cells = [es'[j]] := by
                unfold byteOf at hb2
                split at hb2
                · rename_i heq; rw [heq]; rfl
                · cases hb2
              have hvr := hh j 0 _ _ hej (show es'[j].cells[0]? = some es'[j] by rw [hbv]; rfl)
              obtain ⟨nb, hnb, rfl⟩ := byteOf_ok hvr hb2
              refine ⟨nb, ?_, hb1⟩
              have := hS.mem _ _ _ (hm j 0 hj (by omega)).1
              rw [addr_eta (hs.resolve_right (by intro e; subst e; simp at hj)), add_none]
              rw [hnb] at this
              simpa using this
            | osl hr' hb' hs ha hc hn hk hzl =>
              rename_i r1 off len cap l1 a c
              simp only [elemsOf] at hes
              split at hes
              · rename_i b1 hb1
                obtain ⟨hcc, hes⟩ := Option.ite_none_right_eq_some.1 hes
                injection hes with hes
                injection hes with h3 h4
                subst h4
                have hbk := hS.at hr' hzl hb1
                obtain ⟨g1, g2⟩ := getElems b1.es off len hcc.2
                refine ⟨a, len, c, rfl, g1, ?_⟩
                intro j hj
                have hej : ((b1.es.drop off).take len)[j]? = some b1.es[off + j] := by rw [g2 j hj]; exact List.getElem?_eq_getElem (by omega)
                obtain ⟨b, hb1', hb2⟩ := mapM_at' hl j _ hej
                have hcl := hbk.cells _ (List.getElem_mem (by omega : off + j < b1.es.length))
                have hbv : b1.es[off + j].cells = [b1.es[off + j]] := by
                  unfold byteOf at hb2
                  split at hb2
                  · rename_i heq; rw [heq]; rfl
                  · cases hb2
                obtain ⟨u, hu1, hu2, hu3⟩ := hbk.cell (off + j) (List.getElem?_eq_getElem (by omega)) 0 b1.es[off + j] (by rw [hbv]; rfl)
                obtain ⟨nb, hnb, rfl⟩ := byteOf_ok hu3 hb2
                refine ⟨nb, ?_, hb1'⟩
                have hoff : a.off = off * l1.esz := by
                  rcases ha with h | h
                  · omega
                  · exact h
                rw [addr_eta hs, add_none, hb', hoff, hbk.esz, h3]
                rw [h3, hnb] at hu1
                simp only [Nat.mul_one, Nat.add_zero] at hu1 ⊢
                exact hu1
              · cases hes
            | v hv => exact absurd rfl (hne3 _)
            | _ => simp [elemsOf] at hes
          · cases hy with
            | isl cell hs hc hk hm he hh =>
              rename_i esz es' cap a c
              simp only [elemsOf, Option.some.injEq, Prod.mk.injEq] at hes
              obtain ⟨rfl, rfl⟩ := hes
              exact ⟨a, 0, c, rfl, rfl, fun j hj => by omega⟩
            | osl hr' hb' hs ha hc hn hk hzl =>
              rename_i r1 off len cap l1 a c
              simp only [elemsOf] at hes
              split at hes
              · obtain ⟨hcc, hes⟩ := Option.ite_none_right_eq_some.1 hes
                injection hes with hes
                injection hes with h3 h4
                have : len = 0 := by
                  have := (getElems _ off len hcc.2).1
                  rw [h4] at this
                  simpa using this.symm
                exact ⟨a, len, c, rfl, by simp [this], fun j hj => by omega⟩
              · cases hes
            | v hv => exact absurd rfl (hne3 _)
            | _ => simp [elemsOf] at hes
        refine ⟨.string ⟨l.toArray⟩, w, ?_, QOut.same hS (.v rfl)⟩
        rw [run_convert_bytes_string w src dst e (some a) n c he1 he2 (isStr_ok hc.2)]
        let f : Nat → Int := fun j => if h : j < n then (cellat j h).choose else 0
        have hf1 : ∀ j, j < n → w.cell? (a.add j) = some (.int .u8 (f j)) := fun j hj => by simp only [f, dif_pos hj]; exact (cellat j hj).choose_spec.1
        have hf2 : ∀ j, j < n → l[j]? = some (UInt8.ofNat (f j).toNat) := fun j hj => by simp only [f, dif_pos hj]; exact (cellat j hj).choose_spec.2
        have hload := run_loadCells (P := P) w a n (fun j => .int .u8 (f j)) (fun j hj => hf1 j hj)
        have hns : (loadCells a n).run P w = .ok (((List.range n).map f).map (Value.int .u8)).toArray w := by rw [hload]; simp
        rw [run_bytesToString w a n c _ hns, fold_bytes]
        have : ((List.range n).map f).map (fun n => UInt8.ofNat n.toNat) = l := by
          apply List.ext_getElem?
          intro j
          rcases Nat.lt_or_ge j n with hj | hj
          · rw [hf2 j hj]; simp [hj]
          · rw [List.getElem?_eq_none (by simpa using hj), List.getElem?_eq_none (by omega)]
        rw [this]
        have he0 : ByteArray.empty.data = #[] := rfl
        rw [he0]
        simp
      · cases h
    · replace h := Option.ite_none_right_eq_some.1 h
      obtain ⟨hc, h⟩ := h
      simp only [Bool.and_eq_true, beq_iff_eq] at hc
      obtain ⟨he0, hc⟩ := hc
      subst he0
      obtain ⟨e, he1, he2⟩ := isByteSlice_ok hc
      cases y with
      | osl r' off len cap =>
        obtain ⟨hg, h⟩ := Option.ite_none_right_eq_some.1 h
        obtain ⟨k, hk⟩ := Option.isSome_iff_exists.1 hg
        injection h with h; injection h with h1 h2; subst h1; subst h2
        have hy0 := hy
        cases hy with | osl hrl hbb hsp ha hcc hn hkk hzl =>
        rename_i l a c
        have hbk := hS.at hrl hzl hk
        obtain ⟨arr, T, fz, hh, hsz, hfz, hcells⟩ := hbk.heap
        have hlt := hbk.lt
        have hfr : w.freeze ⟨a.block, arr.size, none⟩ 1 = setBlk w l.b (.cells arr T (if fz.1 == fz.2 then (arr.size, arr.size + 1) else (min fz.1 arr.size, max fz.2 (arr.size + 1)))) := by
          unfold World.freeze setBlk
          rw [if_neg (by decide)]
          congr 1
          apply Array.ext_getElem?
          intro i
          rw [Array.getElem?_modify, hbb]
          by_cases hi : l.b = i
          · subst hi
            rw [if_pos rfl, hh, Array.getElem?_setIfInBounds_self_of_lt hlt]
            rfl
          · rw [if_neg hi, Array.getElem?_setIfInBounds_ne hi]
        have hfz' : ∀ o, o < arr.size → ¬ ((if fz.1 == fz.2 then (arr.size, arr.size + 1) else (min fz.1 arr.size, max fz.2 (arr.size + 1)) : Nat × Nat).1 ≤ o ∧ (o < (if fz.1 == fz.2 then (arr.size, arr.size + 1) else (min fz.1 arr.size, max fz.2 (arr.size + 1)) : Nat × Nat).2 ∨ (if fz.1 == fz.2 then (arr.size, arr.size + 1) else (min fz.1 arr.size, max fz.2 (arr.size + 1)) : Nat × Nat).2 < (if fz.1 == fz.2 then (arr.size, arr.size + 1) else (min fz.1 arr.size, max fz.2 (arr.size + 1)) : Nat × Nat).1)) := by
          intro o ho
          split
          · simp only; omega
          · rename_i hne
            simp only [beq_iff_eq] at hne
            have h1 : arr.size ≤ fz.1 := by
              rcases Nat.lt_or_ge fz.1 arr.size with h | h
              · exact absurd ⟨Nat.le_refl _, by omega⟩ (hfz fz.1 h)
              · exact h
            simp only
            omega
        obtain ⟨h3, h4⟩ := hS.mark hk hrl hh hfr hfz'
        refine ⟨.slice (some a) len c, _, ?_, M, ι, hy0, by rw [addK_nil]; exact h3, by rw [addK_nil]; exact h4, fun q hq _ => hq⟩
        have hsh : w.shape? a.block = some (T, arr.size) := by
          unfold World.shape?
          rw [hbb, hh]
        simp [Go.convert, run_und he1, run_und he2, markStringish, hsh]
      | _ => cases h
  · rename_i e; cases e

theorem qMake_ok (hS : Sim M ι g w) (hr : r.k = 0) (hq : ι r = none) {t : TypeId} {y z x : AV} {u0 u1 : Value} (hy : VR M ι y u0) (hz : VR M ι z u1) {bs : List Blk} (h : qMake P r t (some y) (some z) = some (x, bs)) :
    ∃ u w', (Instr.makeSlice t u0 u1).run P w = .ok u w' ∧ QOut M ι g w r x bs u w' := by
  unfold qMake at h
  simp only [Option.bind_some] at h
  split at h
  · rename_i e l c he hl hc
    obtain ⟨kl, rfl⟩ := intOf_ok hy hl
    obtain ⟨kc, rfl⟩ := intOf_ok hz hc
    split at h
    · rename_i zv s b hzv hs hb
      obtain ⟨hcond, h⟩ := Option.ite_none_right_eq_some.1 h
      obtain ⟨c1, c2, c3, c4, c5, c6, c7⟩ := hcond
      injection h with h
      injection h with h1 h2
      subst h1; subst h2
      obtain ⟨it, u, hit, hiz, hu⟩ := tzero_info hzv
      obtain ⟨i', hi', hsz⟩ := tsize_info hs
      rw [hit] at hi'; cases hi'
      simp only [tbytes, hit, Option.map_some, Option.some.injEq] at hb
      have hzr := ofValue_ok (M := M) (ι := noMap) hu
      have huz : u.cells.size = s := by have := hzr.cells.1; simp at this; omega
      obtain ⟨ln, rfl⟩ := Int.eq_ofNat_of_zero_le c1
      obtain ⟨cn, rfl⟩ := Int.eq_ofNat_of_zero_le (Int.le_trans c1 c2)
      have hwl : IntKind.i64.wrap (ln : Int) = ln := IntWalk.i64_in _ ⟨by omega, by omega⟩
      have hwc : IntKind.i64.wrap (cn : Int) = cn := IntWalk.i64_in _ ⟨by omega, by omega⟩
      have hnl : ¬ ((cn : Int) < 0) := by omega
      have hbig : ¬ (281474976710656 < (it.bytes : Int) * (cn : Int)) := by
        rw [hb, Int.mul_comm]
        have e1 : ((roomB : Nat) : Int) = 140737488355328 := rfl
        omega
      have hll : ¬ ((ln : Int) < 0) := by omega
      have hlc : ¬ ((cn : Int) < (ln : Int)) := by omega
      have hflat := flatten_mod (zs := u.cells) (n := cn) (by omega)
      rw [huz] at hflat
      have harr : ((Array.range (cn * s)).map ((if cn * s = 0 then #[] else u.cells)[· % (if cn * s = 0 then #[] else u.cells).size]!)).toList = (List.replicate cn u.cells.toList).flatten := by
        by_cases h0 : cn * s = 0
        · have hcn : cn = 0 := by
            rcases Nat.mul_eq_zero.1 h0 with h | h
            · exact h
            · omega
          simp [hcn]
        · rw [if_neg h0, huz]; exact hflat
      obtain ⟨arr, harr0⟩ : ∃ arr, arr = (Array.range (cn * s)).map ((if cn * s = 0 then #[] else u.cells)[· % (if cn * s = 0 then #[] else u.cells).size]!) := ⟨_, rfl⟩
      rw [← harr0] at harr
      have hrowc := Row.replicate hzr c6 c7 cn
      have hsize : arr.size = cn * s := by rw [← Array.length_toList, harr]; have := hrowc.len; simpa using this
      have hrun : (Instr.makeSlice t (.int kl ln) (.int kc cn)).run P w = .ok (.slice (some ⟨w.heap.size, 0, none⟩) ln cn) (w.alloc (.cells arr e)) := by
        subst harr0
        by_cases h0 : cn * s = 0
        · simp [Instr.makeSlice, run_und (telem_ok he), asInt, asIntOf, typeInfo, hit, hwl, hwc, hnl, hbig, hll, hlc, run_sizeOf hs, h0, newRow]
        · simp [Instr.makeSlice, run_und (telem_ok he), asInt, asIntOf, typeInfo, hit, hwl, hwc, hnl, hbig, hll, hlc, run_sizeOf hs, h0, newRow, zeroValue, hiz]
      refine ⟨_, _, hrun, ?_⟩
      have hrow := Row.replicate hzr c6 c7 ln
      have := alloc_row hS hr hq (w' := w.alloc (.cells arr e)) ⟨rfl, rfl, rfl, rfl⟩ hrow (by
          intro k v hk
          rw [← Array.getElem?_toList, harr]
          have hle : (List.replicate cn u.cells.toList) = List.replicate ln u.cells.toList ++ List.replicate (cn - ln) u.cells.toList := by rw [List.replicate_append_replicate]; congr 1; omega
          rw [hle, List.flatten_append, List.getElem?_append_left (List.getElem?_eq_some_iff.1 hk).1]
          exact hk) (n := cn) (c := cn) hsize (by intro o ho h; simp at h) (by simp; omega) (Nat.le_refl _) (cap := none) (by intro k hk; cases hk) c5
      simpa using this
    · cases h
  · cases h

end
end Go.Ab
