/-
  Calls of the abstract machine, and one operation of it, against the model's. No statement of a seat is proved here.
-/
import Derived.Test.YtjampffmlnplcaaAbsMap
set_option linter.unusedVariables false
set_option linter.unusedSimpArgs false
namespace Go.Ab

def keyMap (r : Ref) (ls : List Loc) : Map := fun q => if q.d = r.d ∧ q.t = r.t ∧ q.g = r.g then ls[q.k]? else none

/-- What a pure call leaves. -/
structure PureEnd (M : Mem) (w : World) (y : AV) (v : Value) (M' : Mem) (w' : World) : Prop where
  os : w'.os = w.os
  tape : w'.tape = w.tape
  output : w'.output = w.output
  size : w.heap.size ≤ w'.heap.size
  old : ∀ b, b < w.heap.size → w'.heap[b]? = w.heap[b]?
  mem : ∀ b o x, M b o = some x → M' b o = some x
  sound : ∀ b o x, M' b o = some x → w'.cell? ⟨b, o, none⟩ = some x
  new : ∀ b o x, M' b o = some x → M b o = some x ∨ w.heap.size ≤ b
  res : ∀ r : Ref, ∃ ls : List Loc, ls.length = (importA r depth y []).2.length ∧ VR M' (keyMap r ls) (importA r depth y []).1 v ∧
    (∀ (k : Nat) l b, ls[k]? = some l → (importA r depth y []).2[k]? = some b → BlkOk M' noMap w' l b ∧ w.heap.size ≤ l.b) ∧
    ∀ (i j : Nat) l l', ls[i]? = some l → ls[j]? = some l' → l.b = l'.b → i = j

def PureOk (P : Program) (f : FuncId) (args : List AV) (y : AV) : Prop :=
  (∃ fn, P.funcs[f]? = some fn ∧ (fn.name == "runtime.NumGoroutine") = false ∧ fn.body.isSome = true) ∧
  ∀ (M : Mem) (w : World) (us : List Value), (∀ b o x, M b o = some x → w.cell? ⟨b, o, none⟩ = some x) → VRs M noMap args us →
    Calls P f us.toArray w fun e w' => ∃ v M', e = .returned v ∧ PureEnd M w y v M' w'

def ThrOk (P : Program) : Tgt → List AV → Heap → AV → Heap → Prop
  | .fn f, args, H, y, H' =>
    (∃ fn, P.funcs[f]? = some fn ∧ (fn.name == "runtime.NumGoroutine") = false ∧ fn.body.isSome = true) ∧
    ∀ (M : Mem) (ι : Map) (w : World) (us : List Value), Sim M ι H.get w → Dom ι H → VRs M ι args us →
      Calls P f us.toArray w fun e w' => ∃ v, e = .returned v ∧ WOut M ι H w y H' v w'
  | .yld r, args, H, y, H' => ∀ (M : Mem) (ι : Map) (w : World) (us : List Value) (l : Loc), Sim M ι H.get w → Dom ι H → VRs M ι args us → ι r = some l →
    ∃ fn tmps assign body, (Instr.yield l.b us.toArray).run P w = .ok (.round l.b fn tmps assign body) w ∧
      RoundIn (FW none) 0 P l.b fn tmps assign body w fun e w' => ∃ v, e = .returned v ∧ WOut M ι H w y H' v w'

theorem flat_ok {M M' : Mem} {ι ι' : Map} : ∀ (n : Nat) (x : AV) (u : Value), flat n x = true → VR M ι x u → VR M' ι' x u := by
  intro n
  induction n with
  | zero => intro x u h; simp [flat] at h
  | succ n ih =>
    intro x u h hv
    cases hv with
    | v hs => exact .v hs
    | agg hl hh =>
      simp only [flat, List.all_eq_true] at h
      exact .agg hl fun i c u hc hu => ih c u (h c (List.mem_of_getElem? hc)) (hh i c u hc hu)
    | tup h0 hl hh =>
      simp only [flat, List.all_eq_true] at h
      exact .tup h0 hl fun i c u hc hu => ih c u (h c (List.mem_of_getElem? hc)) (hh i c u hc hu)
    | ifc hh => exact .ifc (ih _ _ (by simpa [flat] using h) hh)
    | fn ha hb hh hh' =>
      simp only [flat, Bool.and_eq_true, List.all_eq_true] at h
      exact .fn ha hb (fun i c u hc hu => ih c u (h.1 c (List.mem_of_getElem? hc)) (hh i c u hc hu)) fun i c u hc hu => ih c u (h.2 c (List.mem_of_getElem? hc)) (hh' i c u hc hu)
    | yld => simp [flat] at h
    | mp => simp [flat] at h
    | isl => simp [flat] at h
    | osl => simp [flat] at h
    | ptr => simp [flat] at h
    | iptr => simp [flat] at h

theorem import_flat (r : Ref) : ∀ (n m : Nat) (x : AV) (bs : List Blk), flat m x = true → importA r n x bs = (x, bs) := by
  intro n
  induction n with
  | zero => intro m x bs h; rfl
  | succ n ih =>
    intro m x bs h
    have lists : ∀ (m : Nat) (cs acc : List AV), (∀ c ∈ cs, flat m c = true) → cs.foldl (fun (p : List AV × List Blk) c => (p.1 ++ [(importA r n c p.2).1], (importA r n c p.2).2)) (acc, bs) = (acc ++ cs, bs) := by
      intro m cs
      induction cs with
      | nil => intro acc _; simp
      | cons c cs ihc =>
        intro acc hc
        rw [List.foldl_cons, ih m c bs (hc c (List.mem_cons_self ..))]
        rw [ihc (acc ++ [c]) (fun d hd => hc d (List.mem_cons_of_mem _ hd))]
        simp
    cases m with
    | zero => simp [flat] at h
    | succ m =>
      cases x with
      | agg cs =>
        simp only [flat, List.all_eq_true] at h
        have := lists m cs [] h
        simp only [importA]
        rw [this]
        simp
      | tup cs =>
        simp only [flat, List.all_eq_true] at h
        have := lists m cs [] h
        simp only [importA]
        rw [this]
        simp
      | fsl => simp [flat] at h
      | _ => rfl

theorem addK_cases {g : Get} {r q : Ref} {bs : List Blk} {b : Blk} (h : addK g r bs q = some b) : (q.d = r.d ∧ q.t = r.t ∧ q.g = r.g ∧ bs[q.k]? = some b) ∨ (¬ (q.d = r.d ∧ q.t = r.t ∧ q.g = r.g ∧ q.k < bs.length) ∧ g q = some b) := by
  unfold addK at h
  split at h
  · rename_i hc; exact .inl ⟨hc.1, hc.2.1, hc.2.2.1, h⟩
  · rename_i hc; exact .inr ⟨hc, h⟩

/-- Behind a pure call. -/
theorem call_end {M ι g w} (hS : Sim M ι g w) {r : Ref} (hq : ∀ k, ι { r with k := k } = none) {y : AV} {v : Value} {M' : Mem} {w' : World} (h : PureEnd M w y v M' w') :
    QOut M ι g w r (importA r depth y []).1 (importA r depth y []).2 v w' := by
  obtain ⟨ls, hl, hv, hb, hi⟩ := h.res r
  have hkey : ∀ q l, keyMap r ls q = some l → ι q = none := by
    intro q l hk
    unfold keyMap at hk
    split at hk
    · rename_i hc
      have : q = { r with k := q.k } := by cases q; cases r; simp_all
      rw [this]
      exact hq _
    · cases hk
  have hle : ∀ q l, ι q = some l → (fun q => match ι q with | some l => some l | none => keyMap r ls q) q = some l := by
    intro q l h; simp [h]
  have hle2 : ∀ q l, keyMap r ls q = some l → (fun q => match ι q with | some l => some l | none => keyMap r ls q) q = some l := by
    intro q l h; simp [hkey q l h, h]
  have hι' : ∀ q l, (fun q => match ι q with | some l => some l | none => keyMap r ls q) q = some l → ι q = some l ∨ (ι q = none ∧ keyMap r ls q = some l) := by
    intro q l h
    simp only at h
    split at h
    · rename_i l' hl'; exact .inl (by rw [hl', h])
    · rename_i hn; exact .inr ⟨hn, h⟩
  have back : ∀ q b l, addK g r (importA r depth y []).2 q = some b → (fun q => match ι q with | some l => some l | none => keyMap r ls q) q = some l →
      (g q = some b ∧ ι q = some l) ∨ (w.heap.size ≤ l.b ∧ keyMap r ls q = some l ∧ ls[q.k]? = some l ∧ q = { r with k := q.k }) := by
    intro q b l hgq hιq
    rcases addK_cases hgq with ⟨h1, h2, h3, h4⟩ | ⟨h1, h2⟩
    · right
      have hqr : q = { r with k := q.k } := by cases q; cases r; simp_all
      have hn : ι q = none := by rw [hqr]; exact hq _
      rcases hι' q l hιq with h5 | ⟨_, h5⟩
      · rw [hn] at h5; cases h5
      · have h6 : ls[q.k]? = some l := by unfold keyMap at h5; rw [if_pos ⟨h1, h2, h3⟩] at h5; exact h5
        exact ⟨(hb q.k l b h6 h4).2, h5, h6, hqr⟩
    · left
      obtain ⟨l0, hl0, _⟩ := hS.live q b h2
      rcases hι' q l hιq with h5 | ⟨h5, _⟩
      · exact ⟨h2, h5⟩
      · rw [hl0] at h5; cases h5
  refine ⟨M', fun q => match ι q with | some l => some l | none => keyMap r ls q, hv.mono (fun _ _ _ h => h) _ hle2, ?_, ?_, ?_⟩
  · refine ⟨h.sound, ?_, ?_⟩
    · intro q b hgq
      rcases addK_cases hgq with ⟨h1, h2, h3, h4⟩ | ⟨h1, h2⟩
      · have hlt : q.k < ls.length := by rw [hl]; exact (List.getElem?_eq_some_iff.1 h4).1
        have hls : ls[q.k]? = some ls[q.k] := List.getElem?_eq_getElem hlt
        obtain ⟨hbk, hge⟩ := hb q.k _ b hls h4
        have hkm : keyMap r ls q = some ls[q.k] := by unfold keyMap; rw [if_pos ⟨h1, h2, h3⟩]; exact hls
        refine ⟨_, hle2 q _ hkm, ?_⟩
        exact hbk.keep (fun _ _ _ h => h) (fun q l h => by cases h) rfl hbk.frozen
      · obtain ⟨l, hl', hbk⟩ := hS.live q b h2
        refine ⟨l, hle q l hl', hbk.keep h.mem hle (h.old _ hbk.lt) ?_⟩
        intro o x hx
        rcases h.new _ _ _ hx with h3 | h3
        · exact hbk.frozen o x h3
        · exact absurd hbk.lt (Nat.not_lt.2 h3)
    · intro q q' b b' l l' h1 h2 h3 h4 h5
      rcases back q b l h1 h3 with ⟨a1, a2⟩ | ⟨a1, a2, a3, a4⟩ <;> rcases back q' b' l' h2 h4 with ⟨b1, b2⟩ | ⟨b1, b2, b3, b4⟩
      · exact hS.inj q q' b b' l l' a1 b1 a2 b2 h5
      · obtain ⟨l0, hl0, hbk⟩ := hS.live q b a1
        rw [a2] at hl0; cases hl0
        exact absurd hbk.lt (by rw [h5]; exact Nat.not_lt.2 b1)
      · obtain ⟨l0, hl0, hbk⟩ := hS.live q' b' b1
        rw [b2] at hl0; cases hl0
        exact absurd hbk.lt (by rw [← h5]; exact Nat.not_lt.2 a1)
      · have := hi _ _ _ _ a3 b3 h5
        rw [a4, b4, this]
  · refine ⟨h.os, h.tape, h.output, h.size, fun b hb' _ => h.old b hb', h.mem, hle, ?_, ?_⟩
    · intro q b l h1 h3
      rcases back q b l h1 h3 with ⟨a1, a2⟩ | ⟨a1, _⟩
      · exact .inr ⟨q, b, l, a1, a2, rfl⟩
      · exact .inl a1
    · intro b o x hx
      rcases h.new b o x hx with h1 | h1
      · exact .inl h1
      · exact .inr (.inl h1)
  · intro q hqn hk
    simp only [hqn]
    unfold keyMap
    split
    · rename_i hc
      have hqr : q = { r with k := q.k } := by cases q; cases r; simp_all
      have : ¬ q.k < (importA r depth y []).2.length := fun hlt => hk q.k hlt hqr
      exact List.getElem?_eq_none (by rw [hl]; omega)
    · rfl

/-- Behind a pure call whose answer hangs on no memory. -/
theorem call_end_flat {M ι g w} (hS : Sim M ι g w) {r : Ref} {y : AV} {v : Value} {M1 M' : Mem} {w' : World} (hf : flat depth y = true) (h : PureEnd M1 w y v M' w') : QOut M ι g w r y [] v w' := by
  obtain ⟨ls, hl, hv, hb, hi⟩ := h.res r
  rw [import_flat r depth depth y [] hf] at hv
  refine ⟨M, ι, flat_ok depth y v hf hv, ?_, ?_, fun q hq _ => hq⟩
  · rw [addK_nil]
    refine ⟨?_, ?_, hS.inj⟩
    · intro b o x hx
      have := hS.mem b o x hx
      rw [World.cell?_of_block (w := w) (h.old _ (World.block_lt_of_cell? w ⟨b, o, none⟩ this))]
      exact this
    · intro q b hq
      obtain ⟨l, hl', hbk⟩ := hS.live q b hq
      exact ⟨l, hl', hbk.keep (fun _ _ _ h => h) (fun _ _ h => h) (h.old _ hbk.lt) hbk.frozen⟩
  · rw [addK_nil]
    exact ⟨h.os, h.tape, h.output, h.size, fun b hb' _ => h.old b hb', fun _ _ _ h => h, fun _ _ h => h, fun q b l h1 h2 => .inr ⟨q, b, l, h1, h2, rfl⟩, fun _ _ _ h => .inl h⟩

theorem run_call_of {P : Program} {f : FuncId} (hf : ∃ fn, P.funcs[f]? = some fn ∧ (fn.name == "runtime.NumGoroutine") = false ∧ fn.body.isSome = true) (args : Array Value) (w : World) :
    (callFunc f args).run P w = .ok (.enter f args) w := by
  obtain ⟨fn, h1, h2, h3⟩ := hf
  have hn : fn.body ≠ none := by intro e; rw [e] at h3; cases h3
  have hne : fn.name ≠ "runtime.NumGoroutine" := by simpa using h2
  simp [callFunc, h1, hne, hn]

theorem exec_call {P : Program} {a : Act} {o : Oper} {c : Call} {fo : Operand} (ho : o.op = .call c) (hc : c.callee = .value fo) {f : FuncId} {first captured : Array Value} (hfv : a.eval fo = .func (.func f) first captured)
    (hf : ∃ fn, P.funcs[f]? = some fn ∧ (fn.name == "runtime.NumGoroutine") = false ∧ fn.body.isSome = true) (w : World) :
    (execOp a.eval o).run P w = .ok (.enter f (first ++ c.args.map a.eval ++ captured)) w := by
  simp [execOp, ho, resolve, hc, hfv, Deferred.ofValue, invoke, run_call_of hf]

theorem views_ok {M ι g w} (hS : Sim M ι g w) {xs ys : List AV} {us : List Value} (h : xs.mapM (view g depth) = some ys) (hx : VRs M ι xs us) : VRs (addM M ι g w (refsAll g xs)) noMap ys us :=
  ⟨by rw [mapM_len h]; exact hx.1, fun i y u hy hu => by
    obtain ⟨x, hx', hf⟩ := mapM_at h i y hy
    refine view_ok hS depth x y u hf ?_ (hx.2 i x u hx' hu)
    intro r hr
    exact List.mem_flatMap.2 ⟨x, List.mem_of_getElem? hx', hr⟩⟩

theorem VR.fnOf {M ι} {f : FuncId} {a b : List AV} {u : Value} (h : VR M ι (.fn (.func f) a b) u) : ∃ a' b', u = .func (.func f) a' b' ∧ VRs M ι a a'.toList ∧ VRs M ι b b'.toList := by
  cases h with | fn ha hb hh hh' =>
  exact ⟨_, _, rfl, ⟨by simpa using ha, fun i x u hx hu => hh i x u hx (by simpa using hu)⟩, ⟨by simpa using hb, fun i x u hx hu => hh' i x u hx (by simpa using hu)⟩⟩

theorem toArray3 (a b c : Array Value) : (a.toList ++ b.toList ++ c.toList).toArray = a ++ b ++ c := by
  apply Array.ext'; simp

section
variable {E : Env} {M : Mem} {ι : Map} {g : Get} {w : World} {r : Ref} {a : Act} {tm : List AV} {o : Oper}

theorem qCall_ok (hS : Sim M ι g w) (hT : TR M ι tm a) (hq : ∀ k, ι { r with k := k } = none) {pc : FuncId → List AV → Option AV} (hpc : ∀ f xs y, pc f xs = some y → PureOk E.P f xs y)
    {c : Call} {fo : Operand} (ho : o.op = .call c) (hc : c.callee = .value fo) {args : List AV} (hargs : c.args.toList.mapM (evalO tm) = some args) {x : AV} {bs : List Blk} (h : qCall E pc g r (evalO tm fo) args = some (x, bs)) :
    OpOk E.P o a w fun u w' => QOut M ι g w r x bs u w' := by
  unfold qCall at h
  split at h
  · rename_i fi first captured hfo
    split at h
    · cases h
    · split at h
      · rename_i xs hxs
        split at h
        · rename_i y hy
          obtain ⟨hcond, h⟩ := Option.ite_none_right_eq_some.1 h
          injection h with h
          obtain ⟨hf, hpure⟩ := hpc fi xs y hy
          obtain ⟨a', b', hfv, hva, hvb⟩ := (evalO_ok hT hfo).fnOf
          have hvargs := evalOs_ok hT hargs
          have hall : VRs M ι (first ++ args ++ captured) (a'.toList ++ (c.args.map a.eval).toList ++ b'.toList) := (hva.append (by simpa using hvargs)).append hvb
          obtain ⟨hS1, hF1⟩ := frz_ok (R := refsAll g (first ++ args ++ captured)) hS
          have hviews := views_ok hS hxs hall
          have hcall := hpure (addM M ι g w (refsAll g (first ++ args ++ captured))) w _ (addM_sound hS.mem) hviews
          rw [toArray3] at hcall
          refine OpOk.of_calls (exec_call ho hc hfv hf w) (hcall.mono fun e w' ⟨v, M', he, hend⟩ => ⟨v, he, ?_⟩)
          by_cases hfl : flat depth y = true
          · have hi := import_flat r depth depth y [] hfl
            rw [hi] at h
            injection h with h1 h2
            subst h1; subst h2
            exact call_end_flat hS hfl hend
          · have hfr : allFrz g (refsAll g (first ++ args ++ captured)) = true := by
              simp only [Bool.or_eq_true] at hcond
              exact hcond.resolve_left hfl
            have hfz := frzG_all hfr
            rw [hfz] at hS1
            have := call_end hS1 hq hend
            rw [h] at this
            exact QOut.after hfz hS this
        · cases h
      · cases h
  · cases h

theorem wCall_ok {H : Heap} {d tt : Nat} (hS : Sim M ι H.get w) (hD : Dom ι H) (hT : TR M ι tm a) {pc : FuncId → List AV → Option AV} (hpc : ∀ f xs y, pc f xs = some y → PureOk E.P f xs y)
    {tc : Tgt → List AV → Heap → WRes} (htc : ∀ f xs H y H', tc f xs H = some (y, H') → ThrOk E.P f xs H y H')
    {c : Call} {fo : Operand} (ho : o.op = .call c) (hc : c.callee = .value fo) {args : List AV} (hargs : c.args.toList.mapM (evalO tm) = some args) {x : AV} {H' : Heap}
    (h : wCall E pc tc H ⟨d, tt, H.gen d tt, 0⟩ (evalO tm fo) args = some (x, H')) : OpOk E.P o a w fun u w' => WOut M ι H w x H' u w' := by
  unfold wCall at h
  split at h
  · rename_i fi first captured hfo
    obtain ⟨a', b', hfv, hva, hvb⟩ := (evalO_ok hT hfo).fnOf
    have hvargs := evalOs_ok hT hargs
    have hall : VRs M ι (first ++ args ++ captured) (a'.toList ++ (c.args.map a.eval).toList ++ b'.toList) := (hva.append (by simpa using hvargs)).append hvb
    split at h
    · obtain ⟨hf, hthr⟩ := htc _ _ _ _ _ h
      have hcall := hthr M ι w _ hS hD hall
      rw [toArray3] at hcall
      exact OpOk.of_calls (exec_call ho hc hfv hf w) (hcall.mono fun e w' ⟨v, he, hend⟩ => ⟨v, he, hend⟩)
    · split at h
      · rename_i xs hxs
        simp only [Option.map_eq_some_iff] at h
        obtain ⟨y, hy, h⟩ := h
        injection h with h1 h2
        obtain ⟨hf, hpure⟩ := hpc fi xs y hy
        obtain ⟨hS1, hF1⟩ := frz_ok (R := refsAll H.get (first ++ args ++ captured)) hS
        have hviews := views_ok hS hxs hall
        have hcall := hpure (addM M ι H.get w (refsAll H.get (first ++ args ++ captured))) w _ (addM_sound hS.mem) hviews
        rw [toArray3] at hcall
        refine OpOk.of_calls (exec_call ho hc hfv hf w) (hcall.mono fun e w' ⟨v, M', he, hend⟩ => ⟨v, he, ?_⟩)
        have hD1 : Dom ι (freezeAll H (refsAll H.get (first ++ args ++ captured))) := by
          intro q l hq
          rw [Heap.gen_freezeAll]
          exact hD q l hq
        have hout := call_end (r := ⟨d, tt, H.gen d tt, 0⟩) hS1 (fun k => hD.fresh d tt k) hend
        rw [← Heap.get_freezeAll] at hout
        have hgen : H.gen d tt = (freezeAll H (refsAll H.get (first ++ args ++ captured))).gen d tt := (Heap.gen_freezeAll _ _ _ _).symm
        have key : WOut (addM M ι H.get w (refsAll H.get (first ++ args ++ captured))) ι (freezeAll H (refsAll H.get (first ++ args ++ captured))) w x H' v w' := by
          subst h1; subst h2
          rw [hgen] at hout ⊢
          exact hout.toW hD1
        obtain ⟨M2, ι2, k1, k2, k3, k4⟩ := key
        refine ⟨M2, ι2, k1, k2, ?_, k4⟩
        rw [← Heap.get_freezeAll] at hF1
        exact hF1.trans k3
      · cases h
  · rename_i q hfo
    have hvargs := evalOs_ok hT hargs
    have hy := evalO_ok hT hfo
    generalize hu : a.eval fo = u at hy
    cases hy with | yld hr hz =>
    rename_i l
    obtain ⟨fn, tmps, assign, body, hy, hround⟩ := htc _ _ _ _ _ h M ι w _ l hS hD hvargs hr
    refine OpOk.of_round (l := l.b) ?_ hround
    have e1 : (c.args.map a.eval : Array Value) = (c.args.toList.map a.eval).toArray := by rw [← Array.toList_inj]; simp
    rw [← e1] at hy
    simp [execOp, ho, resolve, hc, hu, Deferred.ofValue, invoke, hy]
  · cases h

end
end Go.Ab
