/-
  Regions where stores, and what looks at memory at one place, come in any order: the theorem. No statement of a seat is proved here.
-/
import Derived.Test.YtjampffmlnplcaaAbsLS
set_option linter.unusedVariables false
set_option linter.unusedSimpArgs false
namespace Go.Ab

/- ## The classes -/
section
variable {E : Env} {o : Oper}
theorem cls_zero (h : cls E o = 0) : heapish o.op = false := by
  unfold cls at h
  cases hh : heapish o.op with
  | false => rfl
  | true => rw [hh] at h; simp only [if_true] at h; (repeat' split at h) <;> omega
theorem cls_one (h : cls E o = 1) : ∃ t, lookT E.P o.op = some t ∧ spotT E o = some t ∧ wKind E o = false := by
  unfold cls at h
  split at h
  · split at h
    · cases h
    · rename_i hs
      split at h
      · rename_i hl
        obtain ⟨t, ht⟩ := Option.isSome_iff_exists.1 hl
        refine ⟨t, ht, ?_, ?_⟩
        · have : storeT o.op = none := by simpa using hs
          simp [spotT, this, ht]
        · unfold wKind
          have : wOp E o.op = false ∧ bsOp o.op = false := by
            unfold lookT at ht
            split at ht <;> (try (rename_i hop; rw [hop]; exact ⟨rfl, rfl⟩))
            · rename_i c hop
              split at ht
              · rename_i hc
                rw [hop]
                simp [wOp, bsOp, hc]
              · cases ht
            cases ht
          rw [this.1, this.2]; simp
      · split at h <;> cases h
  · cases h
theorem cls_two (h : cls E o = 2) : ∃ ty t x, o.op = .store ty (.tmp t) x ∧ spotT E o = some t := by
  unfold cls at h
  split at h
  · split at h
    · rename_i hs
      obtain ⟨t, ht⟩ := Option.isSome_iff_exists.1 hs
      have ht' := ht
      unfold storeT at ht
      split at ht
      · rename_i ty t' x hop
        cases ht
        exact ⟨ty, t, x, hop, by simp [spotT, ht']⟩
      · cases ht
    · (repeat' split at h) <;> cases h
  · cases h
theorem cls_three (h : cls E o = 3) : heapish o.op = true ∧ wKind E o = false := by
  unfold cls at h
  split at h
  · rename_i hh
    split at h
    · cases h
    · split at h
      · cases h
      · split at h
        · cases h
        · rename_i hw; exact ⟨hh, by simpa using hw⟩
  · cases h
theorem cls_four (h : cls E o = 4) : spotT E o = if bsOp o.op then bsT o.op else appT o.op := by
  unfold cls at h
  split at h
  · split at h
    · cases h
    · rename_i hs
      split at h
      · cases h
      · rename_i hl
        have h1 : storeT o.op = none := by simpa using hs
        have h2 : lookT E.P o.op = none := by simpa using hl
        simp [spotT, h1, h2]
  · cases h
end

theorem app_step {E : Env} {pc : FuncId → List AV → Option AV} {tc : Tgt → List AV → Heap → WRes} {H H' : Heap} {tm : List AV} {r : Ref} {o : Oper} {t : Tmp} (hl : appT o.op = some t) {x : AV} (h : evalW E pc tc H tm r o = some (x, H')) :
    ∃ t1 t2 y z, refOf y = refOf (tget tm t) ∧ wAppend E.P H t1 t2 y z = some (x, H') := by
  unfold appT at hl
  split at hl
  · rename_i c hop
    split at hl
    · rename_i hc
      split at hl
      · rename_i t' rest hargs
        cases hl
        unfold evalW at h
        simp only [hop, hc, hargs] at h
        cases hm : List.mapM (evalO tm) (Operand.tmp t :: rest) with
        | none => rw [hm] at h; simp at h
        | some args =>
          rw [hm] at h
          simp only [List.mapM_cons, evalO, Option.pure_def, Option.bind_eq_bind, Option.bind_some, Option.bind_eq_some_iff] at hm
          obtain ⟨l, hl, e⟩ := hm
          simp at e
          subst e
          simp only at h
          split at h
          · rename_i s y e1 e2
            cases e2
            exact ⟨_, _, _, _, rfl, h⟩
          · rename_i e1 e2; cases e1
          · cases h
      · cases hl
    · cases hl
  · cases hl

theorem wStore_gen {P : Program} {H H' : Heap} {t : TypeId} {a x : Option AV} {y : AV} (h : wStore P H t a x = some (y, H')) (d k : Nat) : H'.gen d k = H.gen d k := by
  unfold wStore at h
  split at h
  · split at h
    · rename_i r' i j x' n _ b hb
      obtain ⟨⟨hxn, hx1, hfr⟩, h⟩ := Option.ite_none_right_eq_some.1 h
      split at h
      · split at h
        · rename_i y' hy'
          split at h
          · cases h
          · rename_i hnr
            obtain ⟨hy1, h⟩ := Option.ite_none_right_eq_some.1 h
            simp only [Option.map_eq_some_iff] at h
            obtain ⟨es', hes, h⟩ := h
            cases h
            rw [Heap.gen_put _ _ _ (by rw [Heap.get_freezeAll]; unfold frzG; rw [if_neg hnr, hb]; rfl), Heap.gen_freezeAll]
        · cases h
      · simp only [Option.map_eq_some_iff] at h
        obtain ⟨es', hes, h⟩ := h
        cases h
        rw [Heap.gen_put _ _ _ (by rw [hb]; rfl)]
    · cases h
  · cases h

/-- A store into a box. -/
theorem storeBox_ok {P : Program} {M : Mem} {ι : Map} {g : Get} {w : World} (hS : Sim M ι g w) {t : TypeId} {n : Nat} (hn : tsize P t = some n) {r : Ref} {i j : Nat} {x : AV} {ua ux : Value} (ha : VR M ι (.ptr r i j) ua) (hx : VR M ι x ux)
    {b : Blk} (hb : g r = some b) (hxn : x.cells.length = n) (hx1 : x.cells.all AV.one = true) (hfr : b.frz = false) (harr : b.arr = false) {es' : List AV} (hes : writeAt b.es i j x.cells = some es') :
    ∃ w', (Instr.storeAt t ua ux).run P w = .ok () w' ∧ Sim M ι (updG g r { b with es := es' }) w' ∧ Fwd M ι g w M ι (updG g r { b with es := es' }) w' := by
  cases ha with | ptr hl hzl =>
  rename_i l
  have hbk := hS.at hl hzl hb
  have hxs := hx.cells
  have hun : ux.cells.size = n := by have := hxs.1; simp at this; omega
  obtain ⟨arr, T, fz, h3, h4, h5, h6, h7, h8⟩ := write_ok hS hb hl hzl hfr hes hx1 (us := ux.cells.toList) (by rw [Blk.map, if_neg (by simp [harr])]; exact hxs)
  refine ⟨setBlk w l.b (.cells (putCells arr (i * b.esz + j) ux.cells.toList) T fz), ?_, h7, h8⟩
  rw [hbk.esz]
  exact run_storeAt hn hun h3 h4 h5 h6

section
variable {E : Env} {pc : FuncId → List AV → Option AV} {tc : Tgt → List AV → Heap → WRes} {nt dep : Nat} {ops : Array Oper} {sts : Nat → St}
variable (hL : LsOk E ops) (hrun : ∀ i o, ops[i]? = some o → evalOp E pc tc nt dep true ops o (sts i) = some (sts (i + 1)))

abbrev makes (sts : Nat → St) (j : Nat) (q : Ref) : Prop := Made (sts j).hp (sts (j + 1)).hp q
abbrev turns (sts : Nat → St) (j : Nat) (q : Ref) : Prop := (sts (j + 1)).hp.get q ≠ (sts j).hp.get q

/-- The step of a slice built. -/
theorem step_bs {o : Oper} {st st2 : St} {t : Tmp} (hop : bsT o.op = some t) (h : evalOp E pc tc nt dep true ops o st = some st2) :
    st2.hp = st.hp ∨ (∃ bs, st2.hp = keyed ⟨dep, o.dst.getD 0, st.hp.gen dep (o.dst.getD 0), 0⟩ 0 bs st.hp) ∨ ∃ t1 n i x, wBuildSlice E.P st.hp ⟨dep, o.dst.getD 0, st.hp.gen dep (o.dst.getD 0), 0⟩ t1 n (some [(i, tget st.tm t)]) = some (x, st2.hp) := by
  unfold evalOp at h
  split at h
  · cases h
  · simp only [Option.map_eq_some_iff] at h
    obtain ⟨tm', ht, rfl⟩ := h
    exact .inl rfl
  · split at h
    · rename_i x bs hq
      simp only [Option.map_eq_some_iff] at h
      obtain ⟨tm', ht, rfl⟩ := h
      exact .inr (.inl ⟨bs, rfl⟩)
    · split at h
      · cases h
      · split at h
        · rename_i x H hW
          simp only [Option.map_eq_some_iff] at h
          obtain ⟨tm', ht, rfl⟩ := h
          unfold bsT at hop
          split at hop
          · rename_i t1 n ps ho
            split at hop
            · rename_i i t' hps
              cases hop
              unfold evalW at hW
              simp only [ho, hps] at hW
              exact .inr (.inr ⟨t1, n, i, x, hW⟩)
            · cases hop
          · cases hop
        · cases h

theorem step_same {o : Oper} {st st2 : St} (hc : cls E o = 0 ∨ cls E o = 1) (h : evalOp E pc tc nt dep true ops o st = some st2) : st2.hp = st.hp := by
  rcases kinds_of h with ⟨_, tm', ht, he⟩ | ⟨_, x, bs, hq, tm', ht, he⟩ | hwk
  · rw [he]
  · rw [he]
    rcases hc with hc | hc
    · rw [(plain_ok (cls_zero hc) hq).1]; rfl
    · obtain ⟨t, ht, _, _⟩ := cls_one hc
      rw [(look_nil ht hq).1]; rfl
  · rcases hc with hc | hc
    · have := cls_zero hc; rw [wKind_heapish hwk] at this; cases this
    · obtain ⟨t, ht, _, hw⟩ := cls_one hc
      rw [hw] at hwk; cases hwk

/-- The step of a store. -/
theorem step_store {o : Oper} {st st2 : St} {ty : TypeId} {t : Tmp} {xo : Operand} (hop : o.op = .store ty (.tmp t) xo) (h : evalOp E pc tc nt dep true ops o st = some st2) (hw : wanted ops st.tm o = some true) :
    ∃ y, wStore E.P st.hp ty (some (tget st.tm t)) (evalO st.tm xo) = some (y, st2.hp) ∧ setDst nt st.tm o.dst y = some st2.tm := by
  unfold evalOp at h
  rw [hw] at h
  have hq : evalQ E pc true st.hp.get st.tm ⟨dep, o.dst.getD 0, st.hp.gen dep (o.dst.getD 0), 0⟩ o = none := by unfold evalQ; simp only [hop]
  rw [hq] at h
  simp only at h
  split at h
  · cases h
  · split at h
    · rename_i x H hW
      simp only [Option.map_eq_some_iff] at h
      obtain ⟨tm', ht, rfl⟩ := h
      unfold evalW at hW
      simp only [hop] at hW
      exact ⟨x, hW, ht⟩
    · cases h

/-- The step of an append. -/
theorem step_app {o : Oper} {st st2 : St} {t : Tmp} (hop : appT o.op = some t) (h : evalOp E pc tc nt dep true ops o st = some st2) :
    st2.hp = st.hp ∨ (∃ bs, st2.hp = keyed ⟨dep, o.dst.getD 0, st.hp.gen dep (o.dst.getD 0), 0⟩ 0 bs st.hp) ∨ ∃ t1 t2 y z x, refOf y = refOf (tget st.tm t) ∧ wAppend E.P st.hp t1 t2 y z = some (x, st2.hp) := by
  unfold evalOp at h
  split at h
  · cases h
  · simp only [Option.map_eq_some_iff] at h
    obtain ⟨tm', ht, rfl⟩ := h
    exact .inl rfl
  · split at h
    · rename_i x bs hq
      simp only [Option.map_eq_some_iff] at h
      obtain ⟨tm', ht, rfl⟩ := h
      exact .inr (.inl ⟨bs, rfl⟩)
    · split at h
      · cases h
      · split at h
        · rename_i x H hW
          simp only [Option.map_eq_some_iff] at h
          obtain ⟨tm', ht, rfl⟩ := h
          obtain ⟨t1, t2, y, z, h1, h2⟩ := app_step hop hW
          exact .inr (.inr ⟨t1, t2, y, z, x, h1, h2⟩)
        · cases h

theorem keyed_turn {H : Heap} {d t : Nat} {bs : List Blk} {q : Ref} (h : (keyed ⟨d, t, H.gen d t, 0⟩ 0 bs H).get q ≠ H.get q) : Made H (keyed ⟨d, t, H.gen d t, 0⟩ 0 bs H) q := by
  rw [Heap.get_keyed0] at h
  unfold addK at h
  split at h
  · rename_i hc
    obtain ⟨h1, h2, h3, h4⟩ := hc
    refine ⟨?_, ?_⟩
    · rw [h1, h2, h3]; exact Nat.le_refl _
    · rw [Heap.gen_keyed, if_pos ⟨h1, h2, by intro e; rw [e] at h4; simp at h4⟩, h3]; exact Nat.lt_succ_self _
  · exact absurd rfl h

include hrun in
theorem t_slot {i n : Nat} (hin : i ≤ n) (hn : n ≤ ops.size) {t : Tmp} (hs : ∀ k, dstOf ops k = some t → k < i) : tget (sts n).tm t = tget (sts i).tm t := by
  induction n with
  | zero => rw [Nat.le_zero.1 hin]
  | succ n ih =>
    rcases Nat.lt_or_ge n i with h | h
    · rw [show i = n + 1 by omega]
    · have ho := Array.getElem?_eq_getElem (show n < ops.size from hn)
      obtain ⟨x, hx⟩ := step_val (hrun n _ ho)
      rw [setDst_tget hx, if_neg, ih h (by omega)]
      intro e
      have := hs n (by simp [dstOf, ho, e])
      omega

variable (hbf : ops.toList.all (bsFine E (sts ops.size)) = true)
include hL hrun hbf

theorem t_mild {i : Nat} {o : Oper} (ho : ops[i]? = some o) : Mild (sts i).hp (sts (i + 1)).hp ∧ (cls E o < 3 → ∀ d t, (sts (i + 1)).hp.gen d t = (sts i).hp.gen d t) ∧
    (cls E o ≠ 2 → ∀ q, turns sts i q → makes sts i q ∨ cls E o = 4 ∧ ∃ t, spotT E o = some t ∧ refOf (tget (sts i).tm t) = some q) := by
  have h := hrun i o ho
  have hle := cls_le E o
  have hcs : cls E o = 0 ∨ cls E o = 1 ∨ cls E o = 2 ∨ cls E o = 3 ∨ cls E o = 4 := by omega
  have same : (sts (i + 1)).hp = (sts i).hp → Mild (sts i).hp (sts (i + 1)).hp ∧ (cls E o < 3 → ∀ d t, (sts (i + 1)).hp.gen d t = (sts i).hp.gen d t) ∧
      (cls E o ≠ 2 → ∀ q, turns sts i q → makes sts i q ∨ cls E o = 4 ∧ ∃ t, spotT E o = some t ∧ refOf (tget (sts i).tm t) = some q) := by
    intro e
    refine ⟨by rw [e]; exact Mild.refl _, fun _ d t => by rw [e], fun _ q hq => ?_⟩
    unfold turns at hq
    rw [e] at hq
    exact absurd rfl hq
  rcases hcs with hc | hc | hc | hc | hc
  · exact same (step_same (.inl hc) h)
  · exact same (step_same (.inr hc) h)
  · obtain ⟨ty, t, x, hop, hs⟩ := cls_two hc
    cases hw : wanted ops (sts i).tm o with
    | none => unfold evalOp at h; rw [hw] at h; cases h
    | some b =>
      cases b with
      | false =>
        unfold evalOp at h; rw [hw] at h
        simp only [Option.map_eq_some_iff] at h
        obtain ⟨tm', _, e⟩ := h
        exact same (by rw [← e])
      | true =>
        obtain ⟨y, hW, _⟩ := step_store hop h hw
        exact ⟨wStore_mild hW, fun _ d t => wStore_gen hW d t, fun hn => absurd hc hn⟩
  · have hwk := (cls_three hc).2
    rcases kinds_of h with ⟨_, tm', ht, he⟩ | ⟨_, x, bs, hq, tm', ht, he⟩ | hwk'
    · exact same (by rw [he])
    · have e : (sts (i + 1)).hp = keyed ⟨dep, o.dst.getD 0, (sts i).hp.gen dep (o.dst.getD 0), 0⟩ 0 bs (sts i).hp := by rw [he]
      refine ⟨by rw [e]; exact Mild.keyed _ _ _ _, fun hlt => by omega, fun _ q hq => .inl ?_⟩
      unfold turns at hq
      unfold makes
      rw [e] at hq ⊢
      exact keyed_turn hq
    · rw [hwk] at hwk'; cases hwk'
  · obtain ⟨t, ht, hst⟩ := hL.stay i o ho (by omega) (by omega)
    have hk : ∀ bs, (sts (i + 1)).hp = keyed ⟨dep, o.dst.getD 0, (sts i).hp.gen dep (o.dst.getD 0), 0⟩ 0 bs (sts i).hp → Mild (sts i).hp (sts (i + 1)).hp ∧ (cls E o < 3 → ∀ d t, (sts (i + 1)).hp.gen d t = (sts i).hp.gen d t) ∧
        (cls E o ≠ 2 → ∀ q, turns sts i q → makes sts i q ∨ cls E o = 4 ∧ ∃ t, spotT E o = some t ∧ refOf (tget (sts i).tm t) = some q) := by
      intro bs e
      refine ⟨by rw [e]; exact Mild.keyed _ _ _ _, fun hlt => by omega, fun _ q hq => .inl ?_⟩
      unfold turns at hq
      unfold makes
      rw [e] at hq ⊢
      exact keyed_turn hq
    cases hb : bsOp o.op with
    | false =>
      have hap : appT o.op = some t := by rw [cls_four hc, hb] at ht; simpa using ht
      rcases step_app hap h with e | ⟨bs, e⟩ | ⟨t1, t2, y, z, x, hy, hA⟩
      · exact same e
      · exact hk bs e
      · obtain ⟨hm, r, hr, hq⟩ := wAppend_mild hA
        refine ⟨hm, fun hlt => by omega, fun _ q hqt => ?_⟩
        rcases hq q hqt with h1 | h1
        · exact .inl h1
        · subst h1; exact .inr ⟨hc, t, ht, by rw [← hy]; exact hr⟩
    | true =>
      have hbt : bsT o.op = some t := by rw [cls_four hc, hb] at ht; simpa using ht
      rcases step_bs hbt h with e | ⟨bs, e⟩ | ⟨t1, n, i', x, hA⟩
      · exact same e
      · exact hk bs e
      · obtain ⟨hm, hq⟩ := wBuildSlice_mild hA
        refine ⟨hm, fun hlt => by omega, fun _ q hqt => ?_⟩
        rcases hq q hqt with h1 | h1
        · exact .inl h1
        · refine .inr ⟨hc, t, ht, ?_⟩
          have hfr : (E.frz o && bsOp o.op) = true := by
            have hw : wKind E o = true := by
              unfold cls at hc
              split at hc
              · split at hc
                · cases hc
                · split at hc
                  · cases hc
                  · split at hc
                    · assumption
                    · cases hc
              · cases hc
            unfold wKind at hw
            rcases Bool.or_eq_true_iff.1 hw with h2 | h2
            · exfalso
              replace h2 := (Bool.and_eq_true_iff.1 h2).2
              unfold bsOp at hb
              split at hb
              · rename_i ho2; rw [ho2] at h2; cases h2
              · cases hb
            · exact h2
          have hi : i < ops.size := (Array.getElem?_eq_some_iff.1 ho).1
          have hbf' := List.all_eq_true.1 hbf o (List.mem_of_getElem? (i := i) (by simpa using ho))
          unfold bsFine at hbf'
          rw [hfr, hbt] at hbf'
          simp only [Bool.not_true, Bool.false_or] at hbf'
          rw [t_slot hrun (Nat.le_of_lt hi) (Nat.le_refl ops.size) hst] at hbf'
          simp only [List.map_cons, List.map_nil, refsAll, List.flatMap_cons, List.flatMap_nil, List.append_nil] at h1
          revert hbf' h1
          generalize tget (sts i).tm t = v
          intro hbf' h1
          cases v with
          | osl r off len cap => simp only [viewRefs, depth, List.mem_singleton] at h1; rw [h1]; rfl
          | v y => simp [viewRefs, depth] at h1
          | _ => cases hbf'

theorem t_gen {i n : Nat} (hin : i ≤ n) (hn : n ≤ ops.size) (d t : Nat) : (sts i).hp.gen d t ≤ (sts n).hp.gen d t := by
  induction n with
  | zero => rw [Nat.le_zero.1 hin]; exact Nat.le_refl _
  | succ n ih =>
    rcases Nat.lt_or_ge n i with h | h
    · rw [show i = n + 1 by omega]; exact Nat.le_refl _
    · exact Nat.le_trans (ih h (by omega)) ((t_mild hL hrun hbf (Array.getElem?_eq_getElem (show n < ops.size from hn))).1.gen d t)

theorem t_wf {M : Mem} {ι : Map} {w : World} (hS0 : Sim M ι (sts 0).hp.get w) (hD0 : Dom ι (sts 0).hp) {n : Nat} (hn : n ≤ ops.size) : ∀ q, (sts n).hp.get q ≠ none → q.g < (sts n).hp.gen q.d q.t := by
  induction n with
  | zero =>
    intro q h
    cases hq : (sts 0).hp.get q with
    | none => exact absurd hq h
    | some k => obtain ⟨l, hl, _⟩ := hS0.live q k hq; exact hD0 q l hl
  | succ n ih =>
    intro q h
    have hm := (t_mild hL hrun hbf (Array.getElem?_eq_getElem (show n < ops.size from hn))).1
    rcases hm.born q h with h1 | h1
    · exact Nat.lt_of_lt_of_le (ih (by omega) q h1) (hm.gen _ _)
    · exact h1.2

theorem t_arr {M : Mem} {ι : Map} {w : World} (hS0 : Sim M ι (sts 0).hp.get w) (hD0 : Dom ι (sts 0).hp) {i : Nat} {r : Ref} {b : Blk} (hb : (sts i).hp.get r = some b) {n : Nat} (hin : i ≤ n) (hn : n ≤ ops.size) : ∀ b', (sts n).hp.get r = some b' → b'.arr = b.arr := by
  induction n with
  | zero => intro b' h; rw [Nat.le_zero.1 hin] at hb; rw [hb] at h; cases h; rfl
  | succ n ih =>
    intro b' h
    rcases Nat.lt_or_ge n i with hlt | hge
    · rw [show i = n + 1 by omega] at hb; rw [hb] at h; cases h; rfl
    · have hm := (t_mild hL hrun hbf (Array.getElem?_eq_getElem (show n < ops.size from hn))).1
      rcases hm.born r (by rw [h]; simp) with h1 | h1
      · cases hk : (sts n).hp.get r with
        | none => exact absurd hk h1
        | some k => rw [hm.arr r k b' hk (t_wf hL hrun hbf hS0 hD0 (by omega) r h1) h]; exact ih hge (by omega) k hk
      · have h2 := t_wf hL hrun hbf hS0 hD0 (show i ≤ ops.size by omega) r (by rw [hb]; simp)
        have h3 := t_gen hL hrun hbf hge (by omega) r.d r.t
        have := h1.1
        omega

theorem made_uniq {j j' : Nat} {q : Ref} (hj : j < ops.size) (hj' : j' < ops.size) (h : makes sts j q) (h' : makes sts j' q) : j = j' := by
  rcases Nat.lt_trichotomy j j' with hlt | rfl | hlt
  · have := t_gen hL hrun hbf (show j + 1 ≤ j' from hlt) (Nat.le_of_lt hj') q.d q.t
    have := h.2; have := h'.1
    omega
  · rfl
  · have := t_gen hL hrun hbf (show j' + 1 ≤ j from hlt) (Nat.le_of_lt hj) q.d q.t
    have := h'.2; have := h.1
    omega

theorem made_cls {j : Nat} {q : Ref} {o : Oper} (ho : ops[j]? = some o) (h : makes sts j q) : 3 ≤ cls E o := by
  rcases Nat.lt_or_ge (cls E o) 3 with hlt | hge
  · have := (t_mild hL hrun hbf ho).2.1 hlt q.d q.t
    have h1 := h.1; have h2 := h.2
    omega
  · exact hge

variable {M : Mem} {ι : Map} {w : World}
variable (hS0 : Sim M ι (sts 0).hp.get w) (hD0 : Dom ι (sts 0).hp) (hap : (apartOf E ops).all (refNe (sts ops.size).tm) = true) (hsf : ops.toList.all (storeFine (sts ops.size)) = true)
include hS0 hD0 hsf

/-- A store in the text's run: into a box. -/
theorem t_store {i : Nat} {o : Oper} (ho : ops[i]? = some o) (hc : cls E o = 2) (hw : wanted ops (sts i).tm o = some true) :
    ∃ ty t xo r i' j' b x n es', o.op = .store ty (.tmp t) xo ∧ spotT E o = some t ∧ tget (sts i).tm t = .ptr r i' j' ∧ (sts i).hp.get r = some b ∧ b.arr = false ∧ b.frz = false ∧ evalO (sts i).tm xo = some x ∧ tsize E.P ty = some n ∧
      x.cells.length = n ∧ x.cells.all AV.one = true ∧ writeAt b.es i' j' x.cells = some es' ∧ (sts (i + 1)).hp = (sts i).hp.put r (some { b with es := es' }) ∧ setDst nt (sts i).tm o.dst AV.undef = some (sts (i + 1)).tm := by
  have hi : i < ops.size := (Array.getElem?_eq_some_iff.1 ho).1
  obtain ⟨ty, t, xo, hop, hs⟩ := cls_two hc
  obtain ⟨y, hW, hx⟩ := step_store hop (hrun i o ho) hw
  obtain ⟨t', ht', hst⟩ := hL.stay i o ho (by omega) (by omega)
  rw [hs] at ht'; cases ht'
  have hslot := t_slot hrun (Nat.le_of_lt hi) (Nat.le_refl ops.size) hst
  have hsf' := List.all_eq_true.1 hsf o (List.mem_of_getElem? (i := i) (by simpa using ho))
  unfold storeFine at hsf'
  rw [hop] at hsf'
  simp only [hslot] at hsf'
  have hW' := hW
  unfold wStore at hW
  split at hW
  · rename_i r' i' j' x' n e1 e2 hn
    simp only [Option.some.injEq] at e1
    rw [e1] at hsf'
    simp only at hsf'
    split at hW
    · rename_i b hb
      obtain ⟨⟨hxn, hx1, hfr⟩, hW⟩ := Option.ite_none_right_eq_some.1 hW
      have harr : b.arr = false := by
        split at hsf'
        · rename_i b' hb'
          rw [← t_arr hL hrun hbf hS0 hD0 hb (Nat.le_of_lt hi) (Nat.le_refl _) b' hb']
          simpa using hsf'
        · cases hsf'
      rw [if_neg (by simp [harr])] at hW
      simp only [Option.map_eq_some_iff] at hW
      obtain ⟨es', hes, hW⟩ := hW
      injection hW with h1 h2
      subst h1
      exact ⟨ty, t, xo, r', i', j', b, x', n, es', hop, hs, e1, hb, harr, hfr, e2, hn, hxn, hx1, hes, h2.symm, hx⟩
    · cases hW
  · cases hW

/-- What a step turns. -/
theorem t_turn {j : Nat} {o : Oper} (ho : ops[j]? = some o) {q : Ref} (h : turns sts j q) : makes sts j q ∨ (cls E o = 2 ∨ cls E o = 4) ∧ ∃ t, spotT E o = some t ∧ refOf (tget (sts j).tm t) = some q := by
  by_cases hc : cls E o = 2
  · cases hw : wanted ops (sts j).tm o with
    | none => have := hrun j o ho; unfold evalOp at this; rw [hw] at this; cases this
    | some b =>
      cases b with
      | false =>
        have := hrun j o ho; unfold evalOp at this; rw [hw] at this
        simp only [Option.map_eq_some_iff] at this
        obtain ⟨tm', _, e⟩ := this
        unfold turns at h
        rw [← e] at h
        exact absurd rfl h
      | true =>
        obtain ⟨ty, t, xo, r, i', j', b, x, n, es', hop, hs, ht, hb, _, _, _, _, _, _, _, he, _⟩ := t_store hL hrun hbf hS0 hD0 hsf ho hc hw
        refine .inr ⟨.inl hc, t, hs, ?_⟩
        unfold turns at h
        rw [he, Heap.get_put] at h
        split at h
        · rename_i e; subst e; rw [ht]; rfl
        · exact absurd rfl h
  · rcases (t_mild hL hrun hbf ho).2.2 hc q h with h1 | ⟨h1, h2⟩
    · exact .inl h1
    · exact .inr ⟨.inr h1, h2⟩

/- ## The order -/
omit hrun hS0 hD0 hsf hL hbf in
theorem ord_of {L : Nat → Bool} (hc : Closed ops L) {i : Nat} {o : Oper} (ho : ops[i]? = some o) (hi : L i = false) (hed : ∀ e ∈ edgesOf o, L e = true) {j : Nat} {oj : Oper} (hoj : ops[j]? = some oj)
    (h : j < i → ((ancsFrom ops.toList []).getD i 0).testBit j = true) (h' : i < j → ((ancsFrom ops.toList []).getD j 0).testBit i = true) : (L j = true ↔ j < i) := by
  constructor
  · intro hj
    rcases Nat.lt_trichotomy j i with hlt | rfl | hlt
    · exact hlt
    · rw [hi] at hj; cases hj
    · have := anc_listed hc j oj hoj (fun e he => hc j oj hj hoj e he) i (h' hlt)
      rw [hi] at this; cases this
  · intro hlt
    exact anc_listed hc i o ho hed j (h hlt)

omit hS0 hD0 hsf hbf in
include hap in
/-- Two at one place come in the text's order. -/
theorem ord_spot {L : Nat → Bool} (hc : Closed ops L) {i : Nat} {o : Oper} (ho : ops[i]? = some o) (hi : L i = false) (hed : ∀ e ∈ edgesOf o, L e = true) (hci : cls E o = 1 ∨ cls E o = 2) {t : Tmp} (ht : spotT E o = some t) {q : Ref} (hq : refOf (tget (sts i).tm t) = some q)
    {j : Nat} {oj : Oper} (hoj : ops[j]? = some oj) (hcj : cls E oj = 2 ∨ cls E oj = 4) {t' : Tmp} (ht' : spotT E oj = some t') (hq' : refOf (tget (sts j).tm t') = some q) : (L j = true ↔ j < i) := by
  have hil : i < ops.size := (Array.getElem?_eq_some_iff.1 ho).1
  have hjl : j < ops.size := (Array.getElem?_eq_some_iff.1 hoj).1
  obtain ⟨t1, h1, s1⟩ := hL.stay i o ho (by omega) (by omega)
  obtain ⟨t2, h2, s2⟩ := hL.stay j oj hoj (by omega) (by omega)
  rw [ht] at h1; cases h1
  rw [ht'] at h2; cases h2
  have e1 := t_slot hrun (Nat.le_of_lt hil) (Nat.le_refl ops.size) s1
  have e2 := t_slot hrun (Nat.le_of_lt hjl) (Nat.le_refl ops.size) s2
  rw [← e1] at hq
  rw [← e2] at hq'
  have no : ∀ a b, spotT E a = some t → spotT E b = some t' → ¬ (settled E ops a b = true) := by
    intro a b ha hb hs
    unfold settled at hs
    rw [ha, hb] at hs
    simp only [Bool.or_eq_true, List.contains_iff_mem] at hs
    have hap' := List.all_eq_true.1 hap
    rcases hs with hs | hs
    · have := hap' _ hs
      unfold refNe at this
      simp only [hq, hq'] at this
      simp at this
    · have := hap' _ hs
      unfold refNe at this
      simp only [hq, hq'] at this
      simp at this
  have no' : ∀ a b, spotT E a = some t' → spotT E b = some t → ¬ (settled E ops a b = true) := by
    intro a b ha hb hs
    unfold settled at hs
    rw [ha, hb] at hs
    simp only [Bool.or_eq_true, List.contains_iff_mem] at hs
    have hap' := List.all_eq_true.1 hap
    rcases hs with hs | hs
    · have := hap' _ hs
      unfold refNe at this
      simp only [hq, hq'] at this
      simp at this
    · have := hap' _ hs
      unfold refNe at this
      simp only [hq, hq'] at this
      simp at this
  refine ord_of hc ho hi hed hoj (fun hlt => ?_) (fun hlt => ?_)
  · by_cases hm : mayMeet (cls E o) (cls E oj) = true
    · rcases hL.meet i j o oj ho hoj hlt hm with h | h
      · exact h
      · exact absurd h (no o oj ht ht')
    · refine hL.must i j o oj ho hoj hlt ?_
      unfold mustOrder blind
      rcases hci with hci | hci <;> rcases hcj with hcj | hcj <;> rw [hci, hcj] at hm ⊢ <;> first | rfl | exact absurd rfl hm
  · by_cases hm : mayMeet (cls E oj) (cls E o) = true
    · rcases hL.meet j i oj o hoj ho hlt hm with h | h
      · exact h
      · exact absurd h (no' oj o ht' ht)
    · refine hL.must j i oj o hoj ho hlt ?_
      unfold mustOrder blind
      rcases hci with hci | hci <;> rcases hcj with hcj | hcj <;> rw [hci, hcj] at hm ⊢ <;> first | rfl | exact absurd rfl hm

omit hrun hS0 hD0 hsf hbf in
/-- What makes comes in the text's order with what stores and what appends. -/
theorem ord_make {L : Nat → Bool} (hc : Closed ops L) {i : Nat} {o : Oper} (ho : ops[i]? = some o) (hi : L i = false) (hed : ∀ e ∈ edgesOf o, L e = true) (hci : 3 ≤ cls E o)
    {j : Nat} {oj : Oper} (hoj : ops[j]? = some oj) (hbl : blind E o = false ∨ cls E oj ≠ 2) (hcj : cls E oj = 2 ∨ cls E oj = 4 ∨ cls E o = 4 ∧ 3 ≤ cls E oj) : (L j = true ↔ j < i) := by
  have h1 := cls_le E o
  have h2 := cls_le E oj
  have hm : mustOrder E o oj = true ∧ mustOrder E oj o = true := by
    unfold mustOrder
    have a : cls E o = 3 ∨ cls E o = 4 := by omega
    rcases hcj with hcj | hcj | ⟨hc4, hcj⟩
    · have hb := hbl.resolve_right (fun h => h hcj)
      rcases a with a | a <;> rw [a, hcj, hb] <;> exact ⟨rfl, rfl⟩
    · rcases a with a | a <;> rw [a, hcj] <;> simp
    · have b : cls E oj = 3 ∨ cls E oj = 4 := by omega
      rcases b with b | b <;> rw [hc4, b] <;> simp
  exact ord_of hc ho hi hed hoj (fun hlt => hL.must i j o oj ho hoj hlt hm.1) (fun hlt => hL.must j i oj o hoj ho hlt hm.2)

end
end Go.Ab
