/-
  One operation of the abstract machine against the model's. No statement of a seat is proved here.
-/
import Derived.Test.YtjampffmlnplcaaAbsRead
set_option linter.unusedVariables false
set_option linter.unusedSimpArgs false
namespace Go.Ab

theorem tget_tset (l : List AV) (d t : Nat) (x : AV) : tget (tset l d x) t = if t = d then x else tget l t := by
  induction l generalizing d t with
  | nil =>
    induction d generalizing t with
    | zero => cases t <;> simp [tset, tget]
    | succ d ih =>
      cases t with
      | zero => simp [tset, tget]
      | succ t => simp [tset, tget, ih]
  | cons y l ih =>
    cases d with
    | zero => cases t <;> simp [tset, tget]
    | succ d =>
      cases t with
      | zero => simp [tset, tget]
      | succ t => simp [tset, tget, ih]

theorem TR.put {M ι tm a} (hT : TR M ι tm a) {nt : Nat} (hn : a.tmps.size = nt) {dst : Option Tmp} {x : AV} {tm' : List AV} (h : setDst nt tm dst x = some tm') {u : Value} (hx : VR M ι x u) :
    TR M ι tm' (a.put dst u) ∧ (a.put dst u).tmps.size = nt := by
  unfold setDst at h
  split at h
  · injection h with h
    subst h
    exact ⟨hT, hn⟩
  · rename_i d
    obtain ⟨hd, h⟩ := Option.ite_none_right_eq_some.1 h
    injection h with h
    subst h
    refine ⟨⟨?_⟩, by simp [Act.put, hn]⟩
    intro t
    rw [tget_tset]
    simp only [Act.put, Array.getD_eq_getD_getElem?]
    by_cases htd : t = d
    · subst htd
      rw [if_pos rfl, Array.getElem?_setIfInBounds_self_of_lt (by rw [hn]; exact hd)]
      exact hx
    · rw [if_neg htd, Array.getElem?_setIfInBounds_ne (Ne.symm htd), ← Array.getD_eq_getD_getElem?]
      exact hT.at_ t

theorem wanted_ok {M ι tm a} (hT : TR M ι tm a) {ops : Array Oper} {o : Oper} {b : Bool} (h : wanted ops tm o = some b) : Region.wanted o (yielded ops a.tmps) = b := by
  unfold wanted at h
  unfold Region.wanted
  split at h
  · rename_i hg
    injection h with h
    subst h
    rw [hg]
  · rename_i j want hg
    rw [hg]
    simp only
    split at h
    · rename_i t ht
      have hv := hT.at_ t
      rw [Array.getD_eq_getD_getElem?] at hv
      split at h
      · rename_i c hc
        injection h with h
        subst h
        rw [hc] at hv
        have : a.tmps[t]? = some (.bool c) := by
          cases hh : a.tmps[t]? with
          | none => rw [hh] at hv; cases hv
          | some v => rw [hh] at hv; simp only [Option.getD_some] at hv; cases hv; rfl
        simp only [yielded, ht, Option.bind_some, this]
        cases c <;> cases want <;> rfl
      · rename_i vs hc
        rw [hc] at hv
        obtain ⟨hx, h⟩ := Option.ite_none_right_eq_some.1 h
        injection h with h
        subst h
        have hxx : vs = #[] := by simpa using hx
        subst hxx
        have : yielded ops a.tmps j = none := by
          simp only [yielded, ht, Option.bind_some]
          cases hh : a.tmps[t]? with
          | none => rfl
          | some v =>
            rw [hh] at hv
            simp only [Option.getD_some] at hv
            cases hv
            rfl
        rw [this]
        rfl
      · cases h
    · rename_i ht
      injection h with h
      subst h
      simp only [yielded, ht, Option.bind_none]
      rfl

section
variable {E : Env} {M : Mem} {ι : Map} {g : Get} {w : World} {r : Ref} {a : Act} {tm : List AV} {o : Oper}

theorem mapO {α β : Type} {f : α → Option β} {x : Option α} {y : β} (h : x.bind f = some y) : ∃ a, x = some a ∧ f a = some y := by simpa [Option.bind_eq_some_iff] using h

theorem qVal_ok {x : Option AV} {y : AV} {bs : List Blk} (h : qVal x = some (y, bs)) : x = some y ∧ bs = [] := by
  simp only [qVal, Option.map_eq_some_iff] at h
  obtain ⟨z, hz, h⟩ := h
  injection h with h1 h2
  exact ⟨by rw [hz, h1], h2.symm⟩

/-- An instruction that yields a value and leaves the world alone. -/
theorem OpOk.same {s : Sem Value} (hS : Sim M ι g w) (he : ∀ ρ, ρ = a.eval → execOp ρ o = (do pure (Next.value (← s)))) {x : AV} {bs : List Blk} (h : bs = [] ∧ ∃ u, s.run E.P w = .ok u w ∧ VR M ι x u) :
    OpOk E.P o a w fun u w' => QOut M ι g w r x bs u w' := by
  obtain ⟨rfl, u, hr, hv⟩ := h
  exact OpOk.of_run (by rw [he a.eval rfl]; exact run_v hr) (QOut.same hS hv)

theorem OpOk.made {s : Sem Value} (he : ∀ ρ, ρ = a.eval → execOp ρ o = (do pure (Next.value (← s)))) {x : AV} {bs : List Blk} (h : ∃ u w', s.run E.P w = .ok u w' ∧ QOut M ι g w r x bs u w') :
    OpOk E.P o a w fun u w' => QOut M ι g w r x bs u w' := by
  obtain ⟨u, w', hr, hv⟩ := h
  exact OpOk.of_run (by rw [he a.eval rfl]; exact run_v hr) hv

theorem evalO_none {x : Operand} {y : AV} (h : evalO tm x = some y) : evalO tm x = some y := h

theorem map_parts (ps : Array (Nat × Operand)) (ρ : Operand → Value) : (ps.map fun (p : Nat × Operand) => (p.1, ρ p.2)).toList = ps.toList.map fun p => (p.1, ρ p.2) := by simp

theorem len1 {α : Type} {l : List α} (h : l.length = 1) : ∃ a, l = [a] := List.length_eq_one_iff.1 h
theorem len2 {α : Type} {l : List α} (h : l.length = 2) : ∃ a b, l = [a, b] := by
  match l, h with
  | [a, b], _ => exact ⟨a, b, rfl⟩

theorem OpOk.mono {P : Program} {Q Q' : Value → World → Prop} (h : OpOk P o a w Q) (hQ : ∀ u w', Q u w' → Q' u w') : OpOk P o a w Q' :=
  fun ro K R hK => h ro K R fun u w' hq => hK u w' (hQ u w' hq)

theorem CellsOk.frz {l : Loc} {k : Blk} (h : CellsOk M ι w l k) : CellsOk M ι w l { k with frz := true } :=
  ⟨h.esz, h.heap, h.len, h.cells, fun o x hx => ⟨rfl, (h.frozen o x hx).2⟩⟩

theorem BlkOk.frz {l : Loc} {k : Blk} (h : BlkOk M ι w l k) : BlkOk M ι w l { k with frz := true } :=
  ⟨h.esz, fun hz => (h.cellsOk hz).frz, fun hz => (h.objOk hz).same rfl rfl rfl, fun o x hx => ⟨rfl, (h.frozen o x hx).2⟩⟩

theorem addK_frz {bs : List Blk} {q : Ref} {b' : Blk} (h : addK g r (bs.map fun k => { k with frz := true }) q = some b') : ∃ b, addK g r bs q = some b ∧ (b' = b ∨ b' = { b with frz := true }) := by
  unfold addK at h ⊢
  simp only [List.length_map] at h
  split at h
  · rename_i hc
    rw [if_pos hc]
    simp only [List.getElem?_map, Option.map_eq_some_iff] at h
    obtain ⟨b, hb, e⟩ := h
    exact ⟨b, hb, .inr e.symm⟩
  · rename_i hc
    rw [if_neg hc]
    exact ⟨b', h, .inl rfl⟩

theorem QOut.frzB {x : AV} {bs : List Blk} {b : Bool} {u : Value} {w' : World} (h : QOut M ι g w r x bs u w') : QOut M ι g w r x (Ab.frzB b bs) u w' := by
  cases b with
  | false => exact h
  | true =>
    obtain ⟨M', ι', h1, h2, h3, h4⟩ := h
    refine ⟨M', ι', h1, ⟨h2.mem, fun q k hq => ?_, fun q q' k k' l l' a1 a2 a3 a4 a5 => ?_⟩, ⟨h3.os, h3.tape, h3.output, h3.size, h3.chg, h3.mem, h3.map, fun q k l a1 a2 => ?_, h3.new⟩, fun q hq hk => h4 q hq fun k hlt => hk k (by simpa [Ab.frzB] using hlt)⟩
    · obtain ⟨b, hb, e⟩ := addK_frz hq
      obtain ⟨l, hl, hbk⟩ := h2.live q b hb
      rcases e with rfl | rfl
      · exact ⟨l, hl, hbk⟩
      · exact ⟨l, hl, hbk.frz⟩
    · obtain ⟨b1, hb1, _⟩ := addK_frz a1
      obtain ⟨b2, hb2, _⟩ := addK_frz a2
      exact h2.inj q q' b1 b2 l l' hb1 hb2 a3 a4 a5
    · obtain ⟨b1, hb1, _⟩ := addK_frz a1
      exact h3.live q b1 l hb1 a2

theorem evalQ_ok (hS : Sim M ι g w) (hT : TR M ι tm a) (hr : r.k = 0) (hq : ∀ k, ι { r with k := k } = none) {pc : FuncId → List AV → Option AV} (hpc : ∀ f xs y, pc f xs = some y → PureOk E.P f xs y)
    {draw : Bool} {x : AV} {bs : List Blk} (h : evalQ E pc draw g tm r o = some (x, bs)) : OpOk E.P o a w fun u w' => QOut M ι g w r x bs u w' := by
  have hq0 : ι r = none := by have := hq 0; rwa [show ({ r with k := 0 } : Ref) = r by cases r; simp_all] at this
  unfold evalQ at h
  split at h
  · -- move
    rename_i y hop
    obtain ⟨hy, rfl⟩ := qVal_ok h
    exact OpOk.of_run (u := a.eval y) (w' := w) (by simp [execOp, hop]) (QOut.same hS (evalO_ok hT hy))
  · -- assign
    rename_i y hop
    obtain ⟨hy, rfl⟩ := qVal_ok h
    exact OpOk.of_run (u := a.eval y) (w' := w) (by simp [execOp, hop]) (QOut.same hS (evalO_ok hT hy))
  · -- pick
    rename_i c y z hop
    obtain ⟨rfl, u, hr', hv⟩ := qPick_ok (P := E.P) (w := w) hT h
    refine OpOk.of_run (u := u) (w' := w) ?_ (QOut.same hS hv)
    simp only [execOp, hop]
    simp only [Sem.run_bind] at hr' ⊢
    cases hc : (asBool (a.eval c)).run E.P w with
    | ok b w1 =>
      rw [hc] at hr'
      simp only [Result.andThen_ok, Sem.run_pure] at hr' ⊢
      injection hr' with h1 h2
      rw [h1, h2]
    | halt hh w1 => rw [hc] at hr'; cases hr'
  · -- alloc
    rename_i e hop
    exact OpOk.made (fun ρ hρ => by simp only [execOp, hop]) (qAlloc_ok hS hr hq0 h)
  · -- box
    rename_i e y hop
    cases hy : evalO tm y with
    | none => rw [hy] at h; simp [qBox] at h
    | some y' =>
      rw [hy] at h
      exact OpOk.made (fun ρ hρ => by simp only [execOp, hop, hρ]) (qBox_ok hS hr hq0 (evalO_ok hT hy) h)
  · -- build
    rename_i t ps hop
    cases hv : evalParts tm ps.toList with
    | none => rw [hv] at h; simp only [qBuild] at h; split at h <;> first | cases h | (rename_i h1 h2; cases h2)
    | some vs =>
      rw [hv] at h
      obtain ⟨h1, h2⟩ := evalParts_ok (ι := ι) hT hv
      refine OpOk.same hS (s := Instr.build t (ps.map fun (p : Nat × Operand) => (p.1, a.eval p.2))) (fun ρ hρ => by simp only [execOp, hop, hρ]) (qBuild_ok ?_ ?_ h)
      · rw [map_parts]; exact h1
      · rw [map_parts]; exact h2
  · -- buildSlice
    rename_i t n ps hop
    cases hv : evalParts tm ps.toList with
    | none => rw [hv] at h; simp [qBuildSlice] at h
    | some vs =>
      rw [hv] at h
      obtain ⟨h1, h2⟩ := evalParts_ok (ι := ι) hT hv
      refine OpOk.made (s := Instr.buildSlice t n (ps.map fun (p : Nat × Operand) => (p.1, a.eval p.2))) (fun ρ hρ => by simp only [execOp, hop, hρ]) (qBuildSlice_ok hS hr hq0 h ?_ ?_)
      · rw [map_parts]; exact h1
      · rw [map_parts]; exact h2
  · -- load
    rename_i t y hop
    cases hy : evalO tm y with
    | none => rw [hy] at h; simp [qLoad] at h
    | some y' =>
      rw [hy] at h
      exact OpOk.same hS (fun ρ hρ => by simp only [execOp, hop, hρ]) (qLoad_ok hS (evalO_ok hT hy) h)
  · -- nilCheck
    rename_i y hop
    unfold qNil at h
    split at h
    · rename_i r' i j hy
      injection h with h; injection h with h1 h2; subst h1; subst h2
      have hv := evalO_ok hT hy
      refine OpOk.of_run (u := a.eval y) (w' := w) ?_ (QOut.same hS hv)
      generalize hu : a.eval y = u at hv
      cases hv
      simp [execOp, hop, hu]
    · rename_i n es i j hy
      injection h with h; injection h with h1 h2; subst h1; subst h2
      have hv := evalO_ok hT hy
      refine OpOk.of_run (u := a.eval y) (w' := w) ?_ (QOut.same hS hv)
      generalize hu : a.eval y = u at hv
      cases hv
      simp [execOp, hop, hu]
    · rename_i f b c hy
      injection h with h; injection h with h1 h2; subst h1; subst h2
      have hv := evalO_ok hT hy
      refine OpOk.of_run (u := a.eval y) (w' := w) ?_ (QOut.same hS hv)
      generalize hu : a.eval y = u at hv
      cases hv
      simp [execOp, hop, hu]
    · cases h
  · -- binOp
    rename_i op t xo yo ty hop
    cases hx : evalO tm xo with
    | none => rw [hx] at h; simp [qBin] at h
    | some x' =>
      cases hy : evalO tm yo with
      | none => rw [hx, hy] at h; simp [qBin] at h
      | some y' =>
        rw [hx, hy] at h
        exact OpOk.same hS (fun ρ hρ => by simp only [execOp, hop, hρ]) (qBin_ok (evalO_ok hT hx) (evalO_ok hT hy) h)
  · -- unOp
    rename_i op t y hop
    cases hy : evalO tm y with
    | none => rw [hy] at h; simp [qUn, qVal] at h
    | some y' =>
      rw [hy] at h
      exact OpOk.same hS (fun ρ hρ => by simp only [execOp, hop, hρ]) (qUn_ok (evalO_ok hT hy) h)
  · -- convert
    rename_i src dst y hop
    cases hy : evalO tm y with
    | none => rw [hy] at h; simp [qConvert] at h
    | some y' =>
      rw [hy] at h
      exact OpOk.made (fun ρ hρ => by simp only [execOp, hop, hρ]) (qConvert_ok hS hr hq0 (evalO_ok hT hy) h)
  · -- makeInterface
    rename_i t y hop
    cases hy : evalO tm y with
    | none => rw [hy] at h; simp only [qIface] at h; split at h <;> simp at h
    | some y' =>
      rw [hy] at h
      exact OpOk.same hS (fun ρ hρ => by simp only [execOp, hop, hρ]) (qIface_ok (evalO_ok hT hy) h)
  · -- makeFunc
    rename_i f first captured hop
    cases h1 : first.toList.mapM (evalO tm) with
    | none => rw [h1] at h; simp [qFunc] at h
    | some xs =>
      cases h2 : captured.toList.mapM (evalO tm) with
      | none => rw [h1, h2] at h; simp [qFunc] at h
      | some ys =>
        rw [h1, h2] at h
        obtain ⟨rfl, hv⟩ := qFunc_ok (evalOs_ok hT h1) (evalOs_ok hT h2) h
        refine OpOk.of_run (u := .func f (first.map a.eval) (captured.map a.eval)) (w' := w) (by simp [execOp, hop, Instr.makeFunc]) (QOut.same hS ?_)
        have e1 : ∀ l : Array Operand, (l.toList.map a.eval).toArray = l.map a.eval := fun l => by apply Array.ext'; simp
        rw [e1, e1] at hv
        exact hv
  · -- makeSlice
    rename_i t l c hop
    cases hl : evalO tm l with
    | none => rw [hl] at h; simp only [qMake, Option.bind_none] at h; split at h <;> first | cases h | (rename_i h1 h2 h3; cases h2)
    | some l' =>
      cases hc : evalO tm c with
      | none => rw [hl, hc] at h; simp only [qMake, Option.bind_none] at h; split at h <;> first | cases h | (rename_i h1 h2 h3; cases h3)
      | some c' =>
        rw [hl, hc] at h
        exact OpOk.made (fun ρ hρ => by simp only [execOp, hop, hρ]) (qMake_ok hS hr hq0 (evalO_ok hT hl) (evalO_ok hT hc) h)
  · -- makeMap
    rename_i t hop
    cases h
    exact OpOk.made (s := Instr.makeMap t none) (fun ρ hρ => by simp only [execOp, hop, Option.map_none]) (qMakeMap_ok hS hr hq0 t)
  · -- lookup
    rename_i t y z ok hop
    cases hy : evalO tm y with
    | none => rw [hy] at h; simp only [qLookup] at h; split at h <;> simp_all
    | some y' =>
      cases hz : evalO tm z with
      | none => rw [hy, hz] at h; simp only [qLookup, Option.bind_none] at h; split at h <;> simp_all
      | some z' =>
        rw [hy, hz] at h
        exact OpOk.same hS (fun ρ hρ => by simp only [execOp, hop, hρ]) (qLookup_ok hS (evalO_ok hT hy) (evalO_ok hT hz) h)
  · -- slice
    rename_i t y lo hi mx hop
    cases hy : evalO tm y with
    | none => rw [hy] at h; simp only [qSlice] at h; split at h <;> simp at h
    | some y' =>
      rw [hy] at h
      cases h1 : optInt tm lo with
      | none => rw [h1] at h; simp [qSlice] at h
      | some lo' =>
        cases h2 : optInt tm hi with
        | none => rw [h1, h2] at h; simp [qSlice] at h
        | some hi' =>
          cases h3 : optInt tm mx with
          | none => rw [h1, h2, h3] at h; simp [qSlice] at h
          | some mx' =>
            rw [h1, h2, h3] at h
            exact OpOk.same hS (fun ρ hρ => by simp only [execOp, hop, hρ]) (qSlice_ok hS (evalO_ok hT hy) (optInt_ok hT h1) (optInt_ok hT h2) (optInt_ok hT h3) h)
  · -- fieldAddr
    rename_i t y f hop
    cases hy : evalO tm y with
    | none => rw [hy] at h; simp only [qFieldAddr] at h; split at h <;> (try split at h) <;> simp_all
    | some y' =>
      rw [hy] at h
      exact OpOk.same hS (fun ρ hρ => by simp only [execOp, hop, hρ]) (qFieldAddr_ok (evalO_ok hT hy) h)
  · -- field
    rename_i t y f hop
    cases hy : evalO tm y with
    | none => rw [hy] at h; simp only [qField] at h; split at h <;> simp_all
    | some y' =>
      rw [hy] at h
      exact OpOk.same hS (fun ρ hρ => by simp only [execOp, hop, hρ]) (qField_ok (evalO_ok hT hy) h)
  · -- indexAddr
    rename_i t y z hop
    cases hy : evalO tm y with
    | none =>
      rw [hy] at h
      simp only [qIndexAddr] at h
      (repeat' split at h) <;> simp_all
    | some y' =>
      cases hz : evalO tm z with
      | none => rw [hy, hz] at h; simp [qIndexAddr] at h
      | some z' =>
        rw [hy, hz] at h
        exact OpOk.same hS (fun ρ hρ => by simp only [execOp, hop, hρ]) (qIndexAddr_ok hS (evalO_ok hT hy) (evalO_ok hT hz) h)
  · -- index
    rename_i t y z hop
    cases hy : evalO tm y with
    | none => rw [hy] at h; simp only [qIndex] at h; split at h <;> simp_all
    | some y' =>
      cases hz : evalO tm z with
      | none => rw [hy, hz] at h; simp only [qIndex, Option.bind_none] at h; (repeat' split at h) <;> simp_all
      | some z' =>
        rw [hy, hz] at h
        exact OpOk.same hS (fun ρ hρ => by simp only [execOp, hop, hρ]) (qIndex_ok (evalO_ok hT hy) (evalO_ok hT hz) h)
  · -- typeAssert
    rename_i y st want ok hop
    cases hy : evalO tm y with
    | none => rw [hy] at h; simp only [qAssert] at h; split at h <;> simp_all
    | some y' =>
      rw [hy] at h
      exact OpOk.same hS (fun ρ hρ => by simp only [execOp, hop, hρ]) (qAssert_ok (st := st) (evalO_ok hT hy) h)
  · -- extract
    rename_i y i hop
    cases hy : evalO tm y with
    | none => rw [hy] at h; simp [qExtract] at h
    | some y' =>
      rw [hy] at h
      exact OpOk.same hS (fun ρ hρ => by simp only [execOp, hop, hρ]) (qExtract_ok (evalO_ok hT hy) h)
  · -- call
    rename_i c hop
    split at h
    · cases h
    · rename_i args hargs
      split at h
      · rename_i fo hc
        obtain ⟨⟨x0, bs0⟩, h0, e⟩ := Option.map_eq_some_iff.1 h
        cases e
        exact (qCall_ok hS hT hq hpc hop hc hargs h0).mono fun u w' => QOut.frzB
      · cases h
      · rename_i b hc
        have hvs := evalOs_ok hT hargs
        have hrun : ∀ (s : Sem Value) (us : List Value), (c.args.map a.eval).toList = us → (∀ consts, builtin b c.argTypes o.type consts us.toArray = (do pure (Next.value (← s)))) →
            ∀ {u w'}, s.run E.P w = .ok u w' → (execOp a.eval o).run E.P w = .ok (.value u) w' := by
          intro s us hus hb u w' hs
          have e1 : c.args.map a.eval = us.toArray := by rw [← hus]
          simp only [execOp, hop, resolve, hc, invoke, Sem.run_bind, Sem.run_pure, Result.andThen_ok, e1, hb, hs]
        have hsame : (c.args.map a.eval).toList = c.args.toList.map a.eval := by simp
        unfold qBuiltin at h
        split at h
        · rename_i r'
          obtain ⟨u, hu1⟩ := len1 hvs.1.symm
          rw [hu1] at hvs
          have hv := hvs.2 0 (.mp r') u rfl rfl
          obtain ⟨rfl, u', hr', hv'⟩ := qLenMap_ok (ty := o.type) hS hv (Option.ite_none_left_eq_some.1 h).2
          exact OpOk.of_run (hrun _ [u] (by rw [hsame, hu1]) (fun consts => rfl) hr') (QOut.same hS hv')
        · rename_i y hnm
          obtain ⟨u, hu1⟩ := len1 hvs.1.symm
          rw [hu1] at hvs
          have hv := hvs.2 0 y u rfl rfl
          obtain ⟨rfl, u', hr', hv'⟩ := qLen_ok (P := E.P) (w := w) (ty := o.type) hv h
          exact OpOk.of_run (hrun _ [u] (by rw [hsame, hu1]) (fun consts => rfl) hr') (QOut.same hS hv')
        · obtain ⟨hm, rfl⟩ := qVal_ok h
          obtain ⟨u, us, hus, u', hr', hv'⟩ := minmax_ok (w := w) hvs hm
          exact OpOk.of_run (hrun (us.foldlM Builtin.min2 u) (u :: us) (by rw [hsame, hus]) (fun consts => rfl) hr') (QOut.same hS hv')
        · obtain ⟨hm, rfl⟩ := qVal_ok h
          obtain ⟨u, us, hus, u', hr', hv'⟩ := minmax_ok (w := w) hvs hm
          exact OpOk.of_run (hrun (us.foldlM Builtin.max2 u) (u :: us) (by rw [hsame, hus]) (fun consts => rfl) hr') (QOut.same hS hv')
        · rename_i y z
          obtain ⟨u, v, hu1⟩ := len2 hvs.1.symm
          rw [hu1] at hvs
          obtain ⟨u', w', hr', hv'⟩ := qAppend_ok (P := E.P) (ty := o.type) hS hr hq0 (hvs.2 0 y u rfl rfl) (hvs.2 1 z v rfl rfl) h
          exact OpOk.of_run (hrun _ [u, v] (by rw [hsame, hu1]) (fun consts => rfl) hr') hv'
        · rename_i y
          obtain ⟨u, hu1⟩ := len1 hvs.1.symm
          rw [hu1] at hvs
          have hv := hvs.2 0 y u rfl rfl
          obtain ⟨rfl, u', hr', hv'⟩ := qCap_ok (P := E.P) (w := w) (ty := o.type) hv h
          exact OpOk.of_run (hrun _ [u] (by rw [hsame, hu1]) (fun consts => rfl) hr') (QOut.same hS hv')
        · cases h
  · cases h

theorem wMap_op {H : Heap} (hS : Sim M ι H.get w) (hD : Dom ι H) (hT : TR M ι tm a) {t : TypeId} {m k y : Operand} {x : AV} {H' : Heap}
    (he : ∀ ρ : Operand → Value, execOp ρ o = (do Instr.mapUpdate t (ρ m) (ρ k) (ρ y); pure Next.skip))
    (h : wMapUpdate E.P H t (evalO tm m) (evalO tm k) (evalO tm y) = some (x, H')) : OpOk E.P o a w fun u w' => WOut M ι H w x H' u w' := by
  cases hm : evalO tm m with
  | none => rw [hm] at h; simp only [wMapUpdate] at h; split at h <;> simp_all
  | some m' =>
    cases hk : evalO tm k with
    | none => rw [hm, hk] at h; simp only [wMapUpdate] at h; split at h <;> simp_all
    | some k' =>
      cases hy : evalO tm y with
      | none => rw [hm, hk, hy] at h; simp only [wMapUpdate] at h; split at h <;> simp_all
      | some y' =>
        rw [hm, hk, hy] at h
        obtain ⟨w', hr, hout⟩ := wMapUpdate_ok (P := E.P) hS hD (evalO_ok hT hm) (evalO_ok hT hk) (evalO_ok hT hy) h
        exact OpOk.of_skip (by simp [he, hr]) hout

theorem evalW_ok {H : Heap} {d tt : Nat} (hS : Sim M ι H.get w) (hD : Dom ι H) (hT : TR M ι tm a) {pc : FuncId → List AV → Option AV} (hpc : ∀ f xs y, pc f xs = some y → PureOk E.P f xs y)
    {tc : Tgt → List AV → Heap → WRes} (htc : ∀ f xs H y H', tc f xs H = some (y, H') → ThrOk E.P f xs H y H') {x : AV} {H' : Heap}
    (h : evalW E pc tc H tm ⟨d, tt, H.gen d tt, 0⟩ o = some (x, H')) : OpOk E.P o a w fun u w' => WOut M ι H w x H' u w' := by
  unfold evalW at h
  split at h
  · -- store
    rename_i t y z hop
    cases hy : evalO tm y with
    | none => rw [hy] at h; simp [wStore] at h
    | some y' =>
      cases hz : evalO tm z with
      | none => rw [hy, hz] at h; simp only [wStore] at h; (repeat' split at h) <;> simp_all
      | some z' =>
        rw [hy, hz] at h
        obtain ⟨w', hr, hout⟩ := wStore_ok (P := E.P) hS hD (evalO_ok hT hy) (evalO_ok hT hz) h
        exact OpOk.of_skip (by simp [execOp, hop, hr]) hout
  · -- mapUpdate
    rename_i t m k y hop
    exact wMap_op hS hD hT (fun ρ => by simp [execOp, hop]) h
  · -- insert
    rename_i t m k y hop
    exact wMap_op hS hD hT (fun ρ => by simp [execOp, hop]) h
  · -- mapEntry
    rename_i t m k hop
    cases hm : evalO tm m with
    | none => rw [hm] at h; simp only [wMapEntry] at h; split at h <;> simp_all
    | some m' =>
      cases hk : evalO tm k with
      | none => rw [hm, hk] at h; simp only [wMapEntry] at h; split at h <;> simp_all
      | some k' =>
        rw [hm, hk] at h
        obtain ⟨u, w', hr, hout⟩ := wMapEntry_ok (P := E.P) hS hD (evalO_ok hT hm) (evalO_ok hT hk) h
        exact OpOk.of_run (by simp only [execOp, hop]; exact run_v hr) hout
  · -- entryStore
    rename_i t m s y hop
    cases hm : evalO tm m with
    | none => rw [hm] at h; simp [wEntryStore] at h
    | some m' =>
      cases hs : evalO tm s with
      | none => rw [hm, hs] at h; simp [wEntryStore] at h
      | some s' =>
        cases hy : evalO tm y with
        | none => rw [hm, hs, hy] at h; simp [wEntryStore] at h
        | some y' =>
          rw [hm, hs, hy] at h
          obtain ⟨w', hr, hout⟩ := wEntryStore_ok (P := E.P) (t := t) hS hD (evalO_ok hT hm) (evalO_ok hT hs) (evalO_ok hT hy) h
          exact OpOk.of_skip (by simp [execOp, hop, hr]) hout
  · -- buildSlice
    rename_i t n ps hop
    cases hv : evalParts tm ps.toList with
    | none => rw [hv] at h; simp [wBuildSlice] at h
    | some vs =>
      rw [hv] at h
      obtain ⟨h1, h2⟩ := evalParts_ok (ι := ι) hT hv
      obtain ⟨u, w', hr, hout⟩ := wBuildSlice_ok (P := E.P) (qs := ps.map fun (p : Nat × Operand) => (p.1, a.eval p.2)) hS hD h (by rw [map_parts]; exact h1) (by rw [map_parts]; exact h2)
      exact OpOk.of_run (by simp only [execOp, hop]; exact run_v hr) hout
  · -- call
    rename_i c hop
    split at h
    · cases h
    · rename_i args hargs
      split at h
      · rename_i fo hc
        rcases wRead_cases h with h | ⟨H1, rfl, h, hfl, hsame⟩
        · exact wCall_ok hS hD hT hpc htc hop hc hargs h
        · exact (wCall_ok hS hD hT hpc htc hop hc hargs h).mono fun u w' hw => reader_ok hS hD hfl (heapSame_ok hsame) hw
      · cases h
      · rename_i b hc
        have hvs := evalOs_ok hT hargs
        have hrun : ∀ (s : Sem Value) (us : List Value), (c.args.map a.eval).toList = us → (∀ consts, builtin b c.argTypes o.type consts us.toArray = (do pure (Next.value (← s)))) →
            ∀ {u w'}, s.run E.P w = .ok u w' → (execOp a.eval o).run E.P w = .ok (.value u) w' := by
          intro s us hus hb u w' hs
          have e1 : c.args.map a.eval = us.toArray := by rw [← hus]
          simp only [execOp, hop, resolve, hc, invoke, Sem.run_bind, Sem.run_pure, Result.andThen_ok, e1, hb, hs]
        have hsame : (c.args.map a.eval).toList = c.args.toList.map a.eval := by simp
        split at h
        · rename_i y z
          obtain ⟨u, v, hu1⟩ := len2 hvs.1.symm
          rw [hu1] at hvs
          obtain ⟨u', w', hr', hv'⟩ := wAppend_ok (P := E.P) (ty := o.type) hS hD (hvs.2 0 y u rfl rfl) (hvs.2 1 z v rfl rfl) h
          exact OpOk.of_run (hrun _ [u, v] (by rw [hsame, hu1]) (fun consts => rfl) hr') hv'
        · rename_i y z
          obtain ⟨u, v, hu1⟩ := len2 hvs.1.symm
          rw [hu1] at hvs
          obtain ⟨u', w', hr', hv'⟩ := wCopy_ok (P := E.P) (ty := o.type) hS hD (hvs.2 0 y u rfl rfl) (hvs.2 1 z v rfl rfl) h
          exact OpOk.of_run (hrun _ [u, v] (by rw [hsame, hu1]) (fun consts => rfl) hr') hv'
        · cases h
  · cases h

/-- One operation, guard and all. -/
structure StOk (M : Mem) (ι : Map) (st : St) (nt : Nat) (a : Act) (w : World) : Prop where
  sim : Sim M ι st.hp.get w
  dom : Dom ι st.hp
  tr : TR M ι st.tm a
  nt : a.tmps.size = nt

def StepTo (M : Mem) (ι : Map) (st : St) (a : Act) (w : World) (nt : Nat) (st' : St) (a' : Act) (w' : World) : Prop :=
  (∃ M' ι', StOk M' ι' st' nt a' w' ∧ Fwd M ι st.hp.get w M' ι' st'.hp.get w') ∧ a'.defers = a.defers

theorem StepTo.refl {st nt} (h : StOk M ι st nt a w) : StepTo M ι st a w nt st a w := ⟨⟨M, ι, h, Fwd.refl⟩, rfl⟩

theorem evalOp_ok {st st' : St} {nt dep : Nat} {draw : Bool} {ops : Array Oper} (hO : StOk M ι st nt a w) {pc : FuncId → List AV → Option AV} (hpc : ∀ f xs y, pc f xs = some y → PureOk E.P f xs y)
    {tc : Tgt → List AV → Heap → WRes} (htc : ∀ f xs H y H', tc f xs H = some (y, H') → ThrOk E.P f xs H y H') (h : evalOp E pc tc nt dep draw ops o st = some st')
    {ro : Option Nat} {K : Act → World → Prop} {Q : Exit → Act → World → Prop} (hK : ∀ a' w', StepTo M ι st a w nt st' a' w' → K a' w') :
    if Region.wanted o (yielded ops a.tmps) then o.wpIn (FW ro) 0 E.P a w K Q else K (a.put o.dst undef) w := by
  unfold evalOp at h
  split at h
  · cases h
  · rename_i hw
    rw [wanted_ok hO.tr hw]
    simp only [Option.map_eq_some_iff] at h
    obtain ⟨tm', htm, rfl⟩ := h
    obtain ⟨h1, h2⟩ := hO.tr.put hO.nt htm (u := undef) (.v rfl)
    simp only [Bool.false_eq_true, if_false]
    exact hK _ _ ⟨⟨M, ι, ⟨hO.sim, hO.dom, h1, h2⟩, Fwd.refl⟩, put_defers _ _ _⟩
  · rename_i hw
    rw [wanted_ok hO.tr hw]
    simp only [if_true]
    have fin : ∀ {x : AV} {H' : Heap} {tm' : List AV}, OpOk E.P o a w (fun u w' => WOut M ι st.hp w x H' u w') → setDst nt st.tm o.dst x = some tm' → st' = ⟨tm', H'⟩ → o.wpIn (FW ro) 0 E.P a w K Q := by
      intro x H' tm' hop htm he
      subst he
      refine hop ro K Q fun u w' ⟨M', ι', h1, h2, h3, h4⟩ => hK _ _ ?_
      obtain ⟨h5, h6⟩ := (hO.tr.mono h3.mem h3.map).put hO.nt htm h1
      exact ⟨⟨M', ι', ⟨h2, h4, h5, h6⟩, h3⟩, put_defers _ _ _⟩
    split at h
    · rename_i x bs hq
      simp only [Option.map_eq_some_iff] at h
      obtain ⟨tm', htm, rfl⟩ := h
      have := evalQ_ok (E := E) (o := o) hO.sim hO.tr rfl (fun k => hO.dom.fresh dep (o.dst.getD 0) k) hpc hq
      exact fin (fun ro K Q hK => this ro K Q fun u w' hout => hK u w' (hout.toW hO.dom)) htm rfl
    · split at h
      · cases h
      · split at h
        · rename_i x H' hq
          simp only [Option.map_eq_some_iff] at h
          obtain ⟨tm', htm, rfl⟩ := h
          exact fin (evalW_ok (E := E) (o := o) hO.sim hO.dom hO.tr hpc htc hq) htm rfl
        · cases h

end
end Go.Ab
