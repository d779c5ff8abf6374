/-
  Regions where stores, and what looks at memory at one place, come in any order: the step and the end. No statement of a seat is proved here.
-/
import Derived.Test.YtjampffmlnplcaaAbsLS2
set_option linter.unusedVariables false
set_option linter.unusedSimpArgs false
namespace Go.Ab

section
variable {E : Env} {pc : FuncId → List AV → Option AV} {tc : Tgt → List AV → Heap → WRes} {nt dep : Nat} {ops : Array Oper} {sts : Nat → St}
variable (hL : LsOk E ops) (hrun : ∀ i o, ops[i]? = some o → evalOp E pc tc nt dep true ops o (sts i) = some (sts (i + 1)))
variable {M : Mem} {ι : Map} {w : World} {ds : List Deferred}

/-- Where the operations of L have come. -/
structure LMem (E : Env) (ops : Array Oper) (sts : Nat → St) (M : Mem) (ι : Map) (w : World) (L : Nat → Bool) (M1 : Mem) (ι1 : Map) (g1 : Get) (c : Nat) (w1 : World) : Prop where
  sim : Sim M1 ι1 g1 w1
  fwd : Fwd M ι (sts 0).hp.get w M1 ι1 g1 w1
  le : c ≤ ops.size
  cut : ∀ j o, j < c → ops[j]? = some o → 3 ≤ cls E o → L j = true
  hand : ∀ q, ι1 q ≠ none → q.g < (sts c).hp.gen q.d q.t ∨ ∃ j, j < ops.size ∧ L j = true ∧ c ≤ j ∧ makes sts j q
  get : ∀ q, ∃ n, n ≤ ops.size ∧ g1 q = (sts n).hp.get q ∧ ∀ j, j < ops.size → turns sts j q → (L j = true ↔ j < n)

structure LInv (E : Env) (nt : Nat) (ops : Array Oper) (sts : Nat → St) (M : Mem) (ι : Map) (w : World) (ds : List Deferred) (L : Nat → Bool) (a1 : Act) (w1 : World) : Prop where
  closed : Closed ops L
  defers : a1.defers = ds
  at_ : ∃ M1 ι1 tm1 g1 c, TS ops sts L tm1 ∧ TR M1 ι1 tm1 a1 ∧ a1.tmps.size = nt ∧ LMem E ops sts M ι w L M1 ι1 g1 c w1

theorem still_between {a b : Nat} {q : Ref} (h : a ≤ b) (hno : ∀ j, a ≤ j → j < b → ¬ turns sts j q) : (sts b).hp.get q = (sts a).hp.get q := by
  induction b with
  | zero => rw [Nat.le_zero.1 h]
  | succ b ih =>
    rcases Nat.lt_or_ge b a with hlt | hge
    · rw [show a = b + 1 by omega]
    · have := hno b hge (Nat.lt_succ_self b)
      unfold turns at this
      rw [Classical.not_not.1 this]
      exact ih hge fun j h1 h2 => hno j h1 (by omega)

theorem LMem.agree {L : Nat → Bool} {M1 : Mem} {ι1 : Map} {g1 : Get} {c : Nat} {w1 : World} (h : LMem E ops sts M ι w L M1 ι1 g1 c w1) {q : Ref} {i : Nat} (hi : i ≤ ops.size) (hq : ∀ j, j < ops.size → turns sts j q → (L j = true ↔ j < i)) : g1 q = (sts i).hp.get q := by
  obtain ⟨n, hn, e, hj⟩ := h.get q
  rw [e]
  rcases Nat.le_total n i with hle | hle
  · exact (still_between hle fun j h1 h2 ht => by
      have a := hj j (by omega) ht
      have b := hq j (by omega) ht
      have := a.1 (b.2 h2)
      omega).symm
  · exact still_between hle fun j h1 h2 ht => by
      have a := hj j (by omega) ht
      have b := hq j (by omega) ht
      have := b.1 (a.2 h2)
      omega

variable (hbf : ops.toList.all (bsFine E (sts ops.size)) = true)
include hL hrun hbf

theorem made_ord {L : Nat → Bool} {M1 : Mem} {ι1 : Map} {g1 : Get} {c : Nat} {w1 : World} (hS0 : Sim M ι (sts 0).hp.get w) (hD0 : Dom ι (sts 0).hp) (h : LMem E ops sts M ι w L M1 ι1 g1 c w1) {i : Nat} (hil : i < ops.size) (hi : L i = false) {q : Ref}
    (hq : (sts i).hp.get q ≠ none) (hh : ι1 q ≠ none) {j : Nat} (hj : j < ops.size) (hm : makes sts j q) : (L j = true ↔ j < i) := by
  constructor
  · intro hjL
    rcases Nat.lt_or_ge j i with hlt | hge
    · exact hlt
    · have h1 := t_wf hL hrun hbf hS0 hD0 (Nat.le_of_lt hil) q hq
      have h2 := t_gen hL hrun hbf hge (Nat.le_of_lt hj) q.d q.t
      have := hm.1
      omega
  · intro hlt
    rcases h.hand q hh with h1 | ⟨j', hj', hjL, _, hm'⟩
    · have hjc : j < c := by
        rcases Nat.lt_or_ge j c with h2 | h2
        · exact h2
        · have := t_gen hL hrun hbf h2 (Nat.le_of_lt hj) q.d q.t
          have := hm.1
          omega
      exact h.cut j _ hjc (Array.getElem?_eq_getElem hj) (made_cls hL hrun hbf (Array.getElem?_eq_getElem hj) hm)
    · rw [made_uniq hL hrun hbf hj hj' hm hm']; exact hjL

variable (hS0 : Sim M ι (sts 0).hp.get w) (hD0 : Dom ι (sts 0).hp) (hap : (apartOf E ops).all (refNe (sts ops.size).tm) = true) (hsf : ops.toList.all (storeFine (sts ops.size)) = true)
include hS0 hD0 hap hsf

/-- What stands at a place that one looks at is what stood there in the text's run. -/
theorem spot_same {L : Nat → Bool} (hc : Closed ops L) {M1 : Mem} {ι1 : Map} {g1 : Get} {c : Nat} {w1 : World} (h : LMem E ops sts M ι w L M1 ι1 g1 c w1) {i : Nat} {o : Oper} (ho : ops[i]? = some o) (hi : L i = false) (hed : ∀ e ∈ edgesOf o, L e = true)
    (hci : cls E o = 1 ∨ cls E o = 2) {t : Tmp} (ht : spotT E o = some t) {q : Ref} (hq : refOf (tget (sts i).tm t) = some q) (hlive : (sts i).hp.get q ≠ none) (hh : ι1 q ≠ none) :
    g1 q = (sts i).hp.get q ∧ ∀ j, j < ops.size → turns sts j q → (L j = true ↔ j < i) := by
  have hil : i < ops.size := (Array.getElem?_eq_some_iff.1 ho).1
  have key : ∀ j, j < ops.size → turns sts j q → (L j = true ↔ j < i) := by
    intro j hj hT
    have hoj := Array.getElem?_eq_getElem hj
    rcases t_turn hL hrun hbf hS0 hD0 hsf hoj hT with hm | ⟨hcj, t', ht', hq'⟩
    · exact made_ord hL hrun hbf hS0 hD0 h hil hi hlive hh hj hm
    · exact ord_spot hL hrun hap hc ho hi hed hci ht hq hoj hcj ht' hq'
  exact ⟨h.agree (Nat.le_of_lt hil) key, key⟩

/-- One that comes: it fits. -/
theorem linv_step (hpc : ∀ f xs y, pc f xs = some y → PureOk E.P f xs y) (htc : ∀ f xs H y H', tc f xs H = some (y, H') → ThrOk E.P f xs H y H') {ro : Option Nat} {Q : Exit → Act → World → Prop}
    {L L' : Nat → Bool} {i : Nat} {o : Oper} (ho : ops[i]? = some o) (hi : L i = false) (hed : ∀ e ∈ edgesOf o, L e = true)
    (hL' : ∀ j, L' j = true ↔ (L j = true ∨ j = i)) {a1 : Act} {w1 : World} (hI : LInv E nt ops sts M ι w ds L a1 w1) {K : Act → World → Prop} (hK : ∀ a' w', LInv E nt ops sts M ι w ds L' a' w' → K a' w') :
    if Region.wanted o (yielded ops a1.tmps) then o.wpIn (FW ro) 0 E.P a1 w1 K Q else K (a1.put o.dst undef) w1 := by
  obtain ⟨hc, hds, M1, ι1, tm1, g1, c, hTS, hTR, hnt, hM⟩ := hI
  have hlt : i < ops.size := (Array.getElem?_eq_some_iff.1 ho).1
  have hc' : Closed ops L' := Closed.next hc ho hed hL'
  have hlook : ∀ t ∈ o.looksAt ops, tget tm1 t = tget (sts i).tm t := fun t ht => reads_same hL.toRegB hrun hc ho hi hed hTS ht
  have hag := evalO_looks hlook
  have hwd := wanted_looks hlook
  have step := hrun i o ho
  have hle4 := cls_le E o
  -- where the text's memory stays
  have fin : ∀ (u : Value) (x : AV) (tm1' : List AV) (w' : World) (M' : Mem) (ι' : Map), (sts (i + 1)).hp = (sts i).hp → setDst nt (sts i).tm o.dst x = some (sts (i + 1)).tm → setDst nt tm1 o.dst x = some tm1' →
      TR M' ι' tm1' (a1.put o.dst u) → (a1.put o.dst u).tmps.size = nt → Sim M' ι' g1 w' → Fwd M1 ι1 g1 w1 M' ι' g1 w' → (∀ q, ι' q ≠ none → ι1 q ≠ none) → LInv E nt ops sts M ι w ds L' (a1.put o.dst u) w' := by
    intro u x tm1' w' M' ι' hsame hx hx' htr hn hS' hF' hι
    refine ⟨hc', (put_defers _ _ _).trans hds, M', ι', tm1', g1, c, ts_next hL.toRegB ho hL' hi hTS hx hx', htr, hn, hS', hM.fwd.trans hF', hM.le, fun j oj hj hoj hcj => (hL' j).2 (.inl (hM.cut j oj hj hoj hcj)), fun q hq => ?_, fun q => ?_⟩
    · rcases hM.hand q (hι q hq) with h | ⟨j, h1, h2, h3, h4⟩
      · exact .inl h
      · exact .inr ⟨j, h1, (hL' j).2 (.inl h2), h3, h4⟩
    · obtain ⟨n, h1, h2, h3⟩ := hM.get q
      refine ⟨n, h1, h2, fun j hj hT => ?_⟩
      have hji : j ≠ i := by intro e; subst e; exact hT (by rw [hsame])
      rw [← h3 j hj hT, hL' j]
      simp [hji]
  have hkeyfree : ∀ k : Nat, ι1 { (⟨dep + 1, 0, (sts ops.size).hp.gen (dep + 1) 0, 0⟩ : Ref) with k := k } = none := by
    intro k
    cases hq : ι1 { (⟨dep + 1, 0, (sts ops.size).hp.gen (dep + 1) 0, 0⟩ : Ref) with k := k } with
    | none => rfl
    | some l =>
      exfalso
      rcases hM.hand _ (by rw [hq]; simp) with h | ⟨j, h1, _, _, h4⟩
      · have := t_gen hL hrun hbf hM.le (Nat.le_refl _) (dep + 1) 0
        simp only at h
        omega
      · have := t_gen hL hrun hbf (show j + 1 ≤ ops.size from h1) (Nat.le_refl _) (dep + 1) 0
        have := h4.2
        simp only at this
        omega
  -- what is quiet, and turns nothing
  have quiet : ∀ {x : AV} {tm' : List AV}, (sts (i + 1)).hp = (sts i).hp → setDst nt (sts i).tm o.dst x = some (sts (i + 1)).tm →
      evalQ E pc true g1 tm1 ⟨dep + 1, 0, (sts ops.size).hp.gen (dep + 1) 0, 0⟩ o = some (x, []) → o.wpIn (FW ro) 0 E.P a1 w1 K Q := by
    intro x tm' hsame hx hq
    obtain ⟨tm1', hx'⟩ := setDst_same (tm1 := tm1) hx
    refine evalQ_ok (E := E) (o := o) hM.sim hTR rfl hkeyfree hpc hq ro K Q fun u w' ⟨M', ι', h1, h2, h3, h4⟩ => hK _ _ ?_
    rw [addK_nil] at h2 h3
    obtain ⟨h5, h6⟩ := (hTR.mono h3.mem h3.map).put hnt hx' h1
    refine fin u x tm1' w' M' ι' hsame hx hx' h5 h6 h2 h3 fun q hq hn => hq (h4 q hn (fun k hk => by simp at hk))
  have hno : wanted ops (sts i).tm o = some false → if Region.wanted o (yielded ops a1.tmps) then o.wpIn (FW ro) 0 E.P a1 w1 K Q else K (a1.put o.dst undef) w1 := by
    intro hw
    have hw1 := hw
    rw [← hwd] at hw1
    rw [wanted_ok hTR hw1]
    simp only [Bool.false_eq_true, if_false]
    unfold evalOp at step
    rw [hw] at step
    simp only [Option.map_eq_some_iff] at step
    obtain ⟨tm', ht, he⟩ := step
    have hx : setDst nt (sts i).tm o.dst AV.undef = some (sts (i + 1)).tm := by rw [← he]; exact ht
    obtain ⟨tm1', hx'⟩ := setDst_same (tm1 := tm1) hx
    obtain ⟨h1, h2⟩ := hTR.put hnt hx' (u := undef) (.v rfl)
    exact hK _ _ (fin undef AV.undef tm1' w1 M1 ι1 (by rw [← he]) hx hx' h1 h2 hM.sim Fwd.refl fun _ h => h)
  cases hwt : wanted ops (sts i).tm o with
  | none => unfold evalOp at step; rw [hwt] at step; cases step
  | some b =>
  cases b with
  | false => exact hno hwt
  | true =>
  have hw1 := hwt
  rw [← hwd] at hw1
  have hcs : cls E o = 0 ∨ cls E o = 1 ∨ cls E o = 2 ∨ cls E o = 3 ∨ cls E o = 4 := by omega
  rcases hcs with hcl | hcl | hcl | hcl | hcl
  · -- it does not look at memory
    rw [wanted_ok hTR hw1]
    simp only [if_true]
    have hh := cls_zero hcl
    rcases kinds_of step with ⟨hw, _, _, _⟩ | ⟨hw, x, bs, hq, tm', ht, he⟩ | hwk
    · rw [hwt] at hw; cases hw
    · obtain ⟨hbs, hall⟩ := plain_ok hh hq
      subst hbs
      exact quiet (tm' := tm') (step_same (.inl hcl) step) (by rw [he]; exact ht) (by rw [evalQ_tm hag]; exact hall _ _)
    · rw [wKind_heapish hwk] at hh; cases hh
  · -- it looks at one place
    rw [wanted_ok hTR hw1]
    simp only [if_true]
    obtain ⟨t, hlt', hst, hwk⟩ := cls_one hcl
    rcases kinds_of step with ⟨hw, _, _, _⟩ | ⟨hw, x, bs, hq, tm', ht, he⟩ | hwk'
    · rw [hwt] at hw; cases hw
    · obtain ⟨hbs, hall⟩ := look_nil hlt' hq
      subst hbs
      refine quiet (tm' := tm') (step_same (.inr hcl) step) (by rw [he]; exact ht) ?_
      rw [evalQ_tm hag]
      refine hall g1 _ fun q hrq hne => ?_
      refine (spot_same hL hrun hbf hS0 hD0 hap hsf hc hM ho hi hed (.inl hcl) hst hrq hne ?_).1
      have ht1 : tget tm1 t = tget (sts i).tm t := by
        refine hlook t ?_
        unfold Oper.looksAt
        refine List.mem_append_left _ (List.mem_filterMap.2 ⟨.tmp t, ?_, rfl⟩)
        unfold lookT at hlt'
        split at hlt'
        · rename_i hop; cases hlt'; rw [hop]; simp [Op.operands]
        · rename_i hop; cases hlt'; rw [hop]; simp [Op.operands]
        · rename_i hop; cases hlt'; rw [hop]; simp [Op.operands]
        · rename_i hop
          split at hlt'
          · cases hlt'
          · cases hlt'; rw [hop]; simp [Op.operands]
        · rename_i hop; cases hlt'; rw [hop]; simp [Op.operands]
        · rename_i c hop
          split at hlt'
          · split at hlt'
            · rename_i hargs
              cases hlt'
              rw [hop]
              have : (Operand.tmp t) ∈ c.args := by rw [← Array.mem_toList_iff, hargs]; simp
              simp only [Op.operands, Call.operands]
              simp [this]
            · cases hlt'
          · cases hlt'
        · cases hlt'
      have hv := hTR.at_ t
      rw [ht1] at hv
      revert hrq hv
      generalize tget (sts i).tm t = v
      generalize a1.tmps.getD t undef = u
      intro hrq hv
      cases hv with
      | ptr hr hzl => cases hrq; rw [hr]; simp
      | osl hr => cases hrq; rw [hr]; simp
      | mp hr => cases hrq; rw [hr]; simp
      | _ => cases hrq
    · rw [hwk] at hwk'; cases hwk'
  · -- a store
    rw [wanted_ok hTR hw1]
    simp only [if_true]
    obtain ⟨ty, t, xo, r, i', j', b, x, n, es', hop, hs, hta, hb, harr, hfr, hxo, hn, hxn, hx1, hes, he, hx⟩ := t_store hL hrun hbf hS0 hD0 hsf ho hcl hwt
    have hmem : ∀ y, y = .tmp t ∨ y = xo → evalO tm1 y = evalO (sts i).tm y := by
      intro y hy
      refine hag y ?_
      rw [hop]
      rcases hy with rfl | rfl <;> simp [Op.operands]
    have hpv := evalO_ok hTR (x := .tmp t) (y := .ptr r i' j') (by rw [hmem _ (.inl rfl)]; simp only [evalO, hta])
    have hxv := evalO_ok hTR (x := xo) (y := x) (by rw [hmem _ (.inr rfl)]; exact hxo)
    have hhand : ι1 r ≠ none := by
      revert hpv
      generalize a1.eval (.tmp t) = u
      intro hpv
      cases hpv with | ptr hr hzl => rw [hr]; simp
    obtain ⟨hg, hord⟩ := spot_same hL hrun hbf hS0 hD0 hap hsf hc hM ho hi hed (.inr hcl) hs (q := r) (by rw [hta]; rfl) (by rw [hb]; simp) hhand
    rw [hb] at hg
    obtain ⟨w', hr, hS', hF'⟩ := storeBox_ok (P := E.P) hM.sim hn hpv hxv hg hxn hx1 hfr harr hes
    obtain ⟨tm1', hx'⟩ := setDst_same (tm1 := tm1) hx
    have hok : OpOk E.P o a1 w1 fun u w2 => u = undef ∧ w2 = w' := OpOk.of_skip (by simp [execOp, hop, hr]) ⟨rfl, rfl⟩
    refine hok ro K Q fun u w2 ⟨e1, e2⟩ => hK _ _ ?_
    subst e1; subst e2
    obtain ⟨h5, h6⟩ := (hTR.mono hF'.mem hF'.map).put hnt hx' (u := undef) (.v rfl)
    refine ⟨hc', (put_defers _ _ _).trans hds, M1, ι1, tm1', updG g1 r { b with es := es' }, c, ts_next hL.toRegB ho hL' hi hTS hx hx', h5, h6, hS', hM.fwd.trans hF', hM.le, fun j oj hj hoj hcj => (hL' j).2 (.inl (hM.cut j oj hj hoj hcj)), fun q hq => ?_, fun q => ?_⟩
    · rcases hM.hand q hq with h | ⟨j, h1, h2, h3, h4⟩
      · exact .inl h
      · exact .inr ⟨j, h1, (hL' j).2 (.inl h2), h3, h4⟩
    · by_cases hqr : q = r
      · subst hqr
        refine ⟨i + 1, hlt, ?_, fun j hj hT => ?_⟩
        · rw [he, Heap.get_put, if_pos rfl]; unfold updG; rw [if_pos rfl]
        · rw [hL' j]
          by_cases hji : j = i
          · subst hji; simp
          · rw [hord j hj hT]
            constructor
            · rintro (h | h)
              · omega
              · exact absurd h hji
            · intro h; left; omega
      · obtain ⟨n', h1, h2, h3⟩ := hM.get q
        refine ⟨n', h1, ?_, fun j hj hT => ?_⟩
        · unfold updG; rw [if_neg hqr]; exact h2
        · have hji : j ≠ i := by
            intro e; subst e
            refine hT ?_
            rw [he, Heap.get_put, if_neg hqr]
          rw [← h3 j hj hT, hL' j]
          simp [hji]
  · -- it may make
    rw [wanted_ok hTR hw1]
    simp only [if_true]
    obtain ⟨hh, hwk⟩ := cls_three hcl
    rcases kinds_of step with ⟨hw, _, _, _⟩ | ⟨hw, x, bs, hq, tm', ht, he⟩ | hwk'
    · rw [hwt] at hw; cases hw
    · obtain ⟨d, hd⟩ := Option.isSome_iff_exists.1 (hL.made i o ho hcl)
      rw [hd, Option.getD_some] at hq he
      have hx : setDst nt (sts i).tm o.dst x = some (sts (i + 1)).tm := by rw [he]; exact ht
      obtain ⟨tm1', hx'⟩ := setDst_same (tm1 := tm1) hx
      have hhp : (sts (i + 1)).hp = keyed ⟨dep, d, (sts i).hp.gen dep d, 0⟩ 0 bs (sts i).hp := by rw [he]
      have hloc : blind E o = false → Loc' ι1 (sts i).hp.get g1 := by
        intro hbl q b hg hne
        rw [← hg]
        refine hM.agree (Nat.le_of_lt hlt) fun j hj hT => ?_
        have hoj := Array.getElem?_eq_getElem hj
        rcases t_turn hL hrun hbf hS0 hD0 hsf hoj hT with hm | ⟨hcj, _⟩
        · exact made_ord hL hrun hbf hS0 hD0 hM hlt hi (by rw [hg]; simp) hne hj hm
        · exact ord_make hL hc ho hi hed (by omega) hoj (.inl hbl) (by omega)
      rw [← evalQ_tm hag] at hq
      have hq' : evalQ E pc true g1 tm1 ⟨dep, d, (sts i).hp.gen dep d, 0⟩ o = some (x, bs) := by
        cases hbl : blind E o with
        | true => exact blind_ok hbl hq
        | false => exact evalQ_loc hM.sim (hloc hbl) hTR hq
      have hfree : ∀ k, ι1 { (⟨dep, d, (sts i).hp.gen dep d, 0⟩ : Ref) with k := k } = none := by
        intro k
        cases hqk : ι1 { (⟨dep, d, (sts i).hp.gen dep d, 0⟩ : Ref) with k := k } with
        | none => rfl
        | some l =>
          exfalso
          rcases hM.hand _ (by rw [hqk]; simp) with h | ⟨j, h1, h2, h3, h4⟩
          · simp only at h
            rcases Nat.lt_or_ge i c with hic | hic
            · have := hM.cut i o hic ho (by omega)
              rw [hi] at this; cases this
            · have := t_gen hL hrun hbf hic (Nat.le_of_lt hlt) dep d
              omega
          · have hoj := Array.getElem?_eq_getElem h1
            have h5 := h4.1; have h6 := h4.2
            simp only at h5 h6
            rcases Nat.lt_trichotomy j i with hji | hji | hji
            · have := t_gen hL hrun hbf (show j + 1 ≤ i from hji) (Nat.le_of_lt hlt) dep d
              omega
            · subst hji; rw [hi] at h2; cases h2
            · have hcj := made_cls hL hrun hbf hoj h4
              have hc4 : cls E ops[j] = 3 ∨ cls E ops[j] = 4 := by have := cls_le E ops[j]; omega
              rcases hc4 with hc3 | hc4
              · -- another place
                obtain ⟨dj, hdj⟩ := Option.isSome_iff_exists.1 (hL.made j _ hoj hc3)
                have hstepj := hrun j _ hoj
                have hne : d ≠ dj := by
                  intro e
                  have := hL.distinct i j o ops[j] d ho hoj hd (by rw [hdj, e])
                  omega
                rcases kinds_of hstepj with ⟨_, _, _, he2⟩ | ⟨_, _, bs2, _, _, _, he2⟩ | hwk2
                · rw [he2] at h6; dsimp only at h6; omega
                · rw [he2] at h6
                  simp only [hdj, Option.getD_some] at h6
                  rw [Heap.gen_keyed, if_neg (by intro hcc; exact hne hcc.2.1)] at h6
                  omega
                · rw [(cls_three hc3).2] at hwk2; cases hwk2
              · have := (ord_make hL hc ho hi hed (by omega) hoj (.inr (by omega)) (.inr (.inl hc4))).1 h2
                omega
      refine evalQ_ok (E := E) (o := o) hM.sim hTR rfl hfree hpc hq' ro K Q fun u w' ⟨M', ι', h1, h2, h3, h4⟩ => hK _ _ ?_
      obtain ⟨h5, h6⟩ := (hTR.mono h3.mem h3.map).put hnt hx' h1
      refine ⟨hc', (put_defers _ _ _).trans hds, M', ι', tm1', addK g1 ⟨dep, d, (sts i).hp.gen dep d, 0⟩ bs, c, ts_next hL.toRegB ho hL' hi hTS hx hx', h5, h6, h2, hM.fwd.trans h3, hM.le, fun j oj hj hoj hcj => (hL' j).2 (.inl (hM.cut j oj hj hoj hcj)), fun q hq => ?_, fun q => ?_⟩
      · by_cases hq1 : ι1 q = none
        · by_cases hk : ∃ k, k < bs.length ∧ q = { (⟨dep, d, (sts i).hp.gen dep d, 0⟩ : Ref) with k := k }
          · obtain ⟨k, hk, e⟩ := hk
            refine .inr ⟨i, hlt, (hL' i).2 (.inr rfl), ?_, ?_⟩
            · rcases Nat.lt_or_ge i c with hic | hic
              · have := hM.cut i o hic ho (by omega)
                rw [hi] at this; cases this
              · exact hic
            · subst e
              refine ⟨Nat.le_refl _, ?_⟩
              simp only
              rw [hhp, Heap.gen_keyed, if_pos ⟨rfl, rfl, by intro e; rw [e] at hk; simp at hk⟩]
              exact Nat.lt_succ_self _
          · exact absurd (h4 q hq1 fun k hk' e => hk ⟨k, hk', e⟩) hq
        · rcases hM.hand q hq1 with h | ⟨j, g1', g2, g3, g4⟩
          · exact .inl h
          · exact .inr ⟨j, g1', (hL' j).2 (.inl g2), g3, g4⟩
      · by_cases hk : q.d = dep ∧ q.t = d ∧ q.g = (sts i).hp.gen dep d ∧ q.k < bs.length
        · have hmk : makes sts i q := by
            obtain ⟨k1, k2, k3, k4⟩ := hk
            refine ⟨by rw [k1, k2, k3]; exact Nat.le_refl _, ?_⟩
            rw [hhp, Heap.gen_keyed, if_pos ⟨k1, k2, by intro e; rw [e] at k4; simp at k4⟩, k3]
            exact Nat.lt_succ_self _
          refine ⟨i + 1, hlt, ?_, fun j hj hT => ?_⟩
          · rw [hhp, Heap.get_keyed0]
            unfold addK
            rw [if_pos hk, if_pos hk]
          · rw [hL' j]
            by_cases hji : j = i
            · subst hji; simp
            · have hoj := Array.getElem?_eq_getElem hj
              have hturn : turns sts i q := by
                obtain ⟨k1, k2, k3, k4⟩ := hk
                intro e
                have h5 : (sts i).hp.get q ≠ none := by
                  rw [← e, hhp, Heap.get_keyed0]
                  unfold addK
                  rw [if_pos ⟨k1, k2, k3, k4⟩, List.getElem?_eq_getElem k4]
                  simp
                have := t_wf hL hrun hbf hS0 hD0 (Nat.le_of_lt hlt) q h5
                rw [k1, k2, k3] at this
                exact absurd this (Nat.lt_irrefl _)
              have hnot : ¬ j < i := by
                intro hji'
                obtain ⟨k1, k2, k3, k4⟩ := hk
                have hlive : ∀ m, m ≤ i → (sts m).hp.get q ≠ none → False := by
                  intro m hm hne
                  have h6 := t_wf hL hrun hbf hS0 hD0 (Nat.le_trans hm (Nat.le_of_lt hlt)) q hne
                  have h7 := t_gen hL hrun hbf hm (Nat.le_of_lt hlt) q.d q.t
                  rw [k1, k2] at h6 h7
                  rw [k3] at h6
                  omega
                by_cases h8 : (sts j).hp.get q = none
                · exact hlive (j + 1) hji' (fun h9 => hT (by rw [h8, h9]))
                · exact hlive j (Nat.le_of_lt hji') h8
              have : (L j = true ↔ j < i) := by
                obtain ⟨n', k1, k2, k3⟩ := hM.get q
                have h9 := k3 i hlt hturn
                rw [hi] at h9
                have h10 := k3 j hj hT
                rw [h10]
                constructor
                · intro h11
                  have : ¬ i < n' := fun h => by simpa using h9.2 h
                  omega
                · intro h11; exact absurd h11 hnot
              rw [this]
              constructor
              · rintro (h | h)
                · omega
                · exact absurd h hji
              · intro h; left; omega
        · obtain ⟨n', k1, k2, k3⟩ := hM.get q
          refine ⟨n', k1, ?_, fun j hj hT => ?_⟩
          · unfold addK; rw [if_neg hk]; exact k2
          · have hji : j ≠ i := by
              intro e; subst e
              refine hT ?_
              rw [hhp, Heap.get_keyed0]
              unfold addK
              rw [if_neg hk]
            rw [← k3 j hj hT, hL' j]
            simp [hji]
    · rw [hwk] at hwk'; cases hwk'
  · -- an append
    have hb4 : blind E o = false := by unfold blind; rw [hcl]; rfl
    have hall : ∀ q j, j < ops.size → turns sts j q → (L j = true ↔ j < i) := by
      intro q j hj hT
      have hoj := Array.getElem?_eq_getElem hj
      refine ord_make hL hc ho hi hed (by omega) hoj (.inl hb4) ?_
      rcases t_turn hL hrun hbf hS0 hD0 hsf hoj hT with hm | ⟨hcj, _⟩
      · exact .inr (.inr ⟨hcl, made_cls hL hrun hbf hoj hm⟩)
      · omega
    have hg : g1 = (sts i).hp.get := funext fun q => hM.agree (Nat.le_of_lt hlt) (hall q)
    have hD : Dom ι1 (sts i).hp := by
      intro q l hq
      rcases hM.hand q (by rw [hq]; simp) with h | ⟨j, h1, h2, h3, h4⟩
      · rcases Nat.lt_or_ge i c with hic | hic
        · have := hM.cut i o hic ho (by omega)
          rw [hi] at this; cases this
        · exact Nat.lt_of_lt_of_le h (t_gen hL hrun hbf hic (Nat.le_of_lt hlt) _ _)
      · have hoj := Array.getElem?_eq_getElem h1
        have hji := (ord_make hL hc ho hi hed (by omega) hoj (.inl hb4) (.inr (.inr ⟨hcl, made_cls hL hrun hbf hoj h4⟩))).1 h2
        exact Nat.lt_of_lt_of_le h4.2 (t_gen hL hrun hbf (show j + 1 ≤ i from hji) (Nat.le_of_lt hlt) _ _)
    have hO : StOk M1 ι1 ⟨tm1, (sts i).hp⟩ nt a1 w1 := ⟨by rw [← hg]; exact hM.sim, hD, hTR, hnt⟩
    obtain ⟨x, tm1', hx, hx', hev⟩ := evalOp_tm hlook step
    refine evalOp_ok (E := E) (Q := Q) hO hpc htc hev fun a' w' ⟨⟨M', ι', hO', hF'⟩, hd'⟩ => hK a' w' ⟨hc', hd'.trans hds, M', ι', tm1', (sts (i + 1)).hp.get, i + 1, ts_next hL.toRegB ho hL' hi hTS hx hx', hO'.tr, hO'.nt, hO'.sim, ?_, hlt, ?_, ?_, ?_⟩
    · have := hM.fwd
      rw [hg] at this
      exact this.trans hF'
    · intro j oj hj hoj hcj
      by_cases hji : j = i
      · exact (hL' j).2 (.inr hji)
      · exact (hL' j).2 (.inl ((ord_make hL hc ho hi hed (by omega) hoj (.inl hb4) (.inr (.inr ⟨hcl, hcj⟩))).2 (by omega)))
    · intro q hq
      cases hqq : ι' q with
      | none => exact absurd hqq hq
      | some l => exact .inl (hO'.dom q l hqq)
    · intro q
      refine ⟨i + 1, hlt, rfl, fun j hj hT => ?_⟩
      rw [hL' j]
      by_cases hji : j = i
      · subst hji; simp
      · rw [hall q j hj hT]
        constructor
        · rintro (h | h)
          · omega
          · exact absurd h hji
        · intro h; left; omega

omit hS0 hD0 hap hsf in
/-- All have come. -/
theorem linv_end {L : Nat → Bool} (hall : ∀ i, i < ops.size → L i = true) {a a1 : Act} {w1 : World} (hds : a.defers = ds) (hI : LInv E nt ops sts M ι w ds L a1 w1) : StepTo M ι (sts 0) a w nt (sts ops.size) a1 w1 := by
  obtain ⟨hc, hd1, M1, ι1, tm1, g1, c, hTS, hTR, hnt, hM⟩ := hI
  have htm : ∀ t, tget tm1 t = tget (sts ops.size).tm t := by
    intro t
    obtain ⟨h1, h2⟩ := hTS t
    obtain ⟨h3, h4⟩ := ts_text hL.toRegB hrun ops.size (Nat.le_refl _) t
    by_cases hex : ∃ j, j < ops.size ∧ dstOf ops j = some t
    · obtain ⟨j, hj, hd⟩ := hex
      rw [h1 j hj (hall j hj) hd, h3 j hj (by simpa using hj) hd]
    · rw [h2 fun j hj _ hd => hex ⟨j, hj, hd⟩, h4 fun j hj _ hd => hex ⟨j, hj, hd⟩]
  have hTR' : TR M1 ι1 (sts ops.size).tm a1 := ⟨fun t => by rw [← htm]; exact hTR.at_ t⟩
  have hg : g1 = (sts ops.size).hp.get := funext fun q => hM.agree (Nat.le_refl _) fun j hj _ => ⟨fun _ => hj, fun _ => hall j hj⟩
  refine ⟨⟨M1, ι1, ⟨by rw [← hg]; exact hM.sim, ?_, hTR', hnt⟩, by rw [← hg]; exact hM.fwd⟩, hd1.trans hds.symm⟩
  intro q l hq
  rcases hM.hand q (by rw [hq]; simp) with h | ⟨j, h1, _, _, h4⟩
  · exact Nat.lt_of_lt_of_le h (t_gen hL hrun hbf hM.le (Nat.le_refl _) _ _)
  · exact Nat.lt_of_lt_of_le h4.2 (t_gen hL hrun hbf (show j + 1 ≤ ops.size from h1) (Nat.le_refl _) _ _)

theorem lany_ok (hpc : ∀ f xs y, pc f xs = some y → PureOk E.P f xs y) (htc : ∀ f xs H y H', tc f xs H = some (y, H') → ThrOk E.P f xs H y H') {ro : Option Nat} {a0 : Act} (hds : a0.defers = ds) {Q : Exit → Act → World → Prop}
    (hQ : ∀ a' w', StepTo M ι (sts 0) a0 w nt (sts ops.size) a' w' → Q .normal a' w') : ∀ (fuel : Nat) (listed : Array Bool) (a1 : Act) (w1 : World), listed.size = ops.size →
    (List.range ops.size).countP (fun i => !listed.getD i false) ≤ fuel → LInv E nt ops sts M ι w ds (fun i => listed.getD i false) a1 w1 → wpAnyIn (FW ro) 0 E.P .any ops Q fuel listed a1 w1 := by
  have all_listed : ∀ {listed : Array Bool}, listed.size = ops.size → Region.ready .any ops listed = [] → ∀ i, i < ops.size → listed.getD i false = true := by
    intro listed hsz h i
    induction i using Nat.strongRecOn with | ind i ih =>
    intro hi
    cases hl : listed.getD i false with
    | true => rfl
    | false =>
      exfalso
      have ho := Array.getElem?_eq_getElem hi
      have hl' : listed.getD i true = false := by
        have : i < listed.size := by omega
        simpa [Array.getD, this] using hl
      have : i ∈ Region.ready .any ops listed := by
        rw [mem_ready]
        refine ⟨hl', _, ho, fun e he hb => ?_⟩
        have hmem : e.on ∈ edgesOf ops[i] := by
          unfold edgesOf
          exact List.mem_map.2 ⟨e, List.mem_filter.2 ⟨by simpa using he, hb⟩, rfl⟩
        have hlt := hL.edges i _ ho _ hmem
        exact ih e.on hlt (by omega)
      rw [h] at this
      cases this
  intro fuel
  induction fuel with
  | zero =>
    intro listed a1 w1 hsz hf hI
    have hall : ∀ i, i < ops.size → listed.getD i false = true := by
      intro i hi
      cases hl : listed.getD i false with
      | true => rfl
      | false =>
        exfalso
        have : 0 < (List.range ops.size).countP (fun i => !listed.getD i false) := List.countP_pos_iff.2 ⟨i, List.mem_range.2 hi, by rw [hl]; rfl⟩
        omega
    refine ⟨?_, hQ _ _ (linv_end hL hrun hbf hall hds hI)⟩
    refine List.eq_nil_iff_forall_not_mem.2 fun i hi => ?_
    rw [mem_ready] at hi
    obtain ⟨h0, o, ho, _⟩ := hi
    have hlt : i < ops.size := (Array.getElem?_eq_some_iff.1 ho).1
    have h1 := hall i hlt
    have : i < listed.size := by omega
    simp [Array.getD, this] at h0 h1
    rw [h1] at h0
    cases h0
  | succ fuel ih =>
    intro listed a1 w1 hsz hf hI
    refine ⟨fun hr => hQ _ _ (linv_end hL hrun hbf (all_listed hsz hr) hds hI), fun i hi => ?_⟩
    rw [mem_ready] at hi
    obtain ⟨h0, o, ho, hed⟩ := hi
    have hlt : i < ops.size := (Array.getElem?_eq_some_iff.1 ho).1
    have hil : i < listed.size := by omega
    have hi0 : listed.getD i false = false := by simpa [Array.getD, hil] using h0
    have hedge : ∀ e ∈ edgesOf o, (fun i => listed.getD i false) e = true := by
      intro e he
      unfold edgesOf at he
      obtain ⟨d, hd, rfl⟩ := List.mem_map.1 he
      obtain ⟨h1, h2⟩ := List.mem_filter.1 hd
      exact hed d (by simpa using h1) h2
    have hL' : ∀ j, (fun j => (listed.setIfInBounds i true).getD j false) j = true ↔ ((fun j => listed.getD j false) j = true ∨ j = i) := by
      intro j
      simp only
      by_cases hji : j = i
      · subst hji
        simp [hil]
      · rw [getD_set_ne false (Ne.symm hji)]
        simp [hji]
    have := linv_step (E := E) (tc := tc) (ro := ro) (K := wpAnyIn (FW ro) 0 E.P .any ops Q fuel (listed.setIfInBounds i true)) (Q := Q) hL hrun hbf hS0 hD0 hap hsf hpc htc (L := fun i => listed.getD i false) ho hi0 hedge hL' hI fun a' w' hI' => by
      refine ih _ a' w' (by simp [hsz]) ?_ hI'
      have := countP_less (p := fun j => !listed.getD j false) (p' := fun j => !(listed.setIfInBounds i true).getD j false) (i := i) (fun j hj => by
        simp only [Bool.not_eq_true'] at hj ⊢
        cases hl : listed.getD j false with
        | false => rfl
        | true => have := (hL' j).2 (.inl hl); simp only at this; rw [this] at hj; cases hj) (by simp only [hi0, Bool.not_false]) (by have := (hL' i).2 (.inr rfl); simp only at this ⊢; rw [this]; rfl) (List.range ops.size) (List.mem_range.2 hlt)
      omega
    unfold wpOpIn
    rw [ho]
    simp only
    split
    · rename_i hw
      rw [if_pos hw] at this
      exact this
    · rename_i hw
      rw [if_neg hw] at this
      exact ⟨fun _ _ => trivial, this⟩

end

/-- A region that draws its order, with stores in any order. -/
theorem draws_ls {E : Env} (hm : E.P.follows .mixedOrders = true) {ops : Array Oper} (hok : lsOk E ops = true) {pc : FuncId → List AV → Option AV} (hpc : ∀ f xs y, pc f xs = some y → PureOk E.P f xs y)
    {tc : Tgt → List AV → Heap → WRes} (htc : ∀ f xs H y H', tc f xs H = some (y, H') → ThrOk E.P f xs H y H') {nt dep id : Nat} {st st' : St} {M : Mem} {ι : Map} {a : Act} {w : World} {ro : Option Nat} {Q : Exit → Act → World → Prop}
    (h : runOps E pc tc nt dep true ops ops.toList st = some st') (hap : apartOk E ops st' = true) (hO : StOk M ι st nt a w) (hQ : ∀ a' w', StepTo M ι st a w nt st' a' w' → Q .normal a' w') : (Code.region id ops true).wpIn (FW ro) 0 E.P Q a w := by
  obtain ⟨sts, h1, h2, h3⟩ := runOps_sts ops.toList st st' h
  rw [Array.length_toList] at h2
  have hL := lsOk_ok hok
  have hrun : ∀ i o, ops[i]? = some o → evalOp E pc tc nt dep true ops o (sts i) = some (sts (i + 1)) := fun i o ho => h3 i o (by simpa using ho)
  subst h1
  subst h2
  have hne : (apartOf E ops).isEmpty = false := by
    unfold lsOk at hok
    rw [Bool.and_eq_true] at hok
    simpa using hok.1
  unfold apartOk at hap
  rw [hne, Bool.false_or, Bool.and_eq_true, Bool.and_eq_true] at hap
  refine wpIn_region_any hm ?_
  have hF0 : Fwd M ι (sts 0).hp.get w M ι (sts 0).hp.get { w with drawn := w.drawn + 1 } :=
    ⟨rfl, rfl, rfl, Nat.le_refl _, fun _ _ _ => rfl, fun _ _ _ h => h, fun _ _ h => h, fun r k l h h' => .inr ⟨r, k, l, h, h', rfl⟩, fun _ _ _ h => .inl h⟩
  have hno : ∀ i, (Array.replicate ops.size false).getD i false = false := by
    intro i
    simp only [Array.getD_eq_getD_getElem?, Array.getElem?_replicate]
    split <;> rfl
  refine lany_ok (tc := tc) (M := M) (ι := ι) (w := w) (a0 := a) hL hrun hap.2.2 hO.sim hO.dom hap.1 hap.2.1 hpc htc rfl hQ ops.size _ a _ (by simp) ?_ ?_
  · exact Nat.le_trans List.countP_le_length (by simp)
  · refine ⟨fun i o hi => ?_, rfl, M, ι, (sts 0).tm, (sts 0).hp.get, 0, ?_, hO.tr, hO.nt, hO.sim.drew rfl, hF0, Nat.zero_le _, fun j o hj => absurd hj (Nat.not_lt_zero _), fun q hq => ?_, fun q => ⟨0, Nat.zero_le _, rfl, fun j _ _ => ⟨fun hj => ?_, fun hj => absurd hj (Nat.not_lt_zero _)⟩⟩⟩
    · exact absurd ((hno i).symm.trans hi) (by simp)
    · exact fun t => ⟨fun i _ hi => absurd ((hno i).symm.trans hi) (by simp), fun _ => rfl⟩
    · cases hqq : ι q with
      | none => exact absurd hqq hq
      | some l => exact .inl (hO.dom q l hqq)
    · exact absurd ((hno j).symm.trans hj) (by simp)

end Go.Ab
