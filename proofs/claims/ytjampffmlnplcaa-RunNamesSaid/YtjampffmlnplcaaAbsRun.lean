/-
  The abstract machine against the model's. No statement of a seat is proved here.
-/
import Derived.Test.YtjampffmlnplcaaAbsOp
set_option linter.unusedVariables false
set_option linter.unusedSimpArgs false
namespace Go.Ab

section
variable {E : Env} {M : Mem} {ι : Map} {w : World} {a : Act}

theorem StepTo.trans {st st1 st2 : St} {nt : Nat} {a1 a2 : Act} {w1 w2 : World} (h : StepTo M ι st w nt st1 a1 w1) (h' : ∀ M1 ι1, StOk M1 ι1 st1 nt a1 w1 → StepTo M1 ι1 st1 w1 nt st2 a2 w2) : StepTo M ι st w nt st2 a2 w2 := by
  obtain ⟨M1, ι1, h1, h2⟩ := h
  obtain ⟨M2, ι2, h3, h4⟩ := h' M1 ι1 h1
  exact ⟨M2, ι2, h3, h2.trans h4⟩

/-- A region in the order of the text. -/
theorem runOps_ok {pc : FuncId → List AV → Option AV} (hpc : ∀ f xs y, pc f xs = some y → PureOk E.P f xs y)
    {tc : FuncId → List AV → Heap → WRes} (htc : ∀ f xs H y H', tc f xs H = some (y, H') → ThrOk E.P f xs H y H') {nt dep : Nat} {draw : Bool} {ops : Array Oper} {Q : Exit → Act → World → Prop} {st' : St} :
    ∀ (l : List Oper) (st : St) (M : Mem) (ι : Map) (a : Act) (w : World), runOps E pc tc nt dep draw ops l st = some st' → StOk M ι st nt a w →
      (∀ a' w', StepTo M ι st w nt st' a' w' → Q .normal a' w') → wpList E.P ops Q l a w := by
  intro l
  induction l with
  | nil =>
    intro st M ι a w h hO hQ
    simp only [runOps, Option.some.injEq] at h
    subst h
    exact hQ _ _ (StepTo.refl hO)
  | cons o l ih =>
    intro st M ι a w h hO hQ
    simp only [runOps] at h
    split at h
    · rename_i st1 h1
      have := evalOp_ok (E := E) (Q := Q) hO hpc htc h1 (K := wpList E.P ops Q l) fun a1 w1 ⟨M1, ι1, hO1, hF1⟩ =>
        ih st1 M1 ι1 a1 w1 h hO1 fun a' w' ⟨M2, ι2, hO2, hF2⟩ => hQ a' w' ⟨M2, ι2, hO2, hF1.trans hF2⟩
      unfold wpList
      split
      · rename_i hw
        rw [if_pos hw] at this
        exact .inl this
      · rename_i hw
        rw [if_neg hw] at this
        exact this
    · cases h

/-- What is asked of a program's functions, and of what is taken by contract. -/
structure Env.Ok (E : Env) (ok : Array Oper → Bool) : Prop where
  fns : ∀ f, E.allowed f = true → ∃ fn, E.P.funcs[f]? = some fn ∧ (fn.name == "runtime.NumGoroutine") = false ∧ ∀ c, fn.body = some c → codeOk ok c = true
  specs : ∀ f s, E.spec f = some s → ∀ args y, s args = some y → PureOk E.P f args y
  draws : ∀ (ops : Array Oper), ok ops = true → ∀ {pc : FuncId → List AV → Option AV}, (∀ f xs y, pc f xs = some y → PureOk E.P f xs y) →
    ∀ {tc : FuncId → List AV → Heap → WRes}, (∀ f xs H y H', tc f xs H = some (y, H') → ThrOk E.P f xs H y H') → ∀ (nt dep id : Nat) (st st' : St) (M : Mem) (ι : Map) (a : Act) (w : World) (Q : Exit → Act → World → Prop),
    runOps E pc tc nt dep true ops ops.toList st = some st' → apartOk E ops st' = true → StOk M ι st nt a w → (∀ a' w', StepTo M ι st w nt st' a' w' → Q .normal a' w') → (Code.region id ops true).wp E.P Q a w

theorem exitTo_ok {ok : Array Oper → Bool} {id : Nat} : ∀ {k k' : List Item}, exitTo id k = some k' → (∀ i ∈ k, itemOk ok i = true) → ∀ i ∈ k', itemOk ok i = true := by
  intro k
  induction k with
  | nil => intro k' h; simp [exitTo] at h
  | cons x k ih =>
    intro k' h hk
    have hk' : ∀ i ∈ k, itemOk ok i = true := fun i hi => hk i (List.mem_cons_of_mem _ hi)
    cases x with
    | inBlock id' =>
      simp only [exitTo] at h
      split at h
      · injection h with h; subst h; exact hk'
      · exact ih h hk'
    | _ => exact ih (by simpa [exitTo] using h) hk'

/-- Run of a region, as steps. -/
theorem steps_of_wp {P : Program} {c : Code} {a : Act} {w : World} {R : Act → World → Prop} (h : c.wp P (fun e a w => e = .normal ∧ R a w) a w) (b : Frame) (k : List Item) (cs : List Frame) :
    ∃ a' w', R a' w' ∧ Steps P (lone (b.at a (.code c :: k)) cs w) (lone (b.at a' k) cs w') := by
  obtain ⟨e, a', w', ⟨he, hR⟩, harr⟩ := h b k cs
  subst he
  exact ⟨a', w', hR, harr⟩

def RunOk (E : Env) (ok : Array Oper → Bool) (n : Nat) : Prop :=
  ∀ (nt dep : Nat) (items : List Item) (st st' : St), runA E n nt dep items st = some st' → (∀ i ∈ items, itemOk ok i = true) → ∀ (M : Mem) (ι : Map) (a : Act) (w : World), StOk M ι st nt a w →
    ∀ (b : Frame) (cs : List Frame), ∃ a' w' todo, StepTo M ι st w nt st' a' w' ∧ Steps E.P (lone (b.at a items) cs w) (lone { b.at a' todo with mode := .returning } cs w')

theorem tget_args : ∀ (args : List AV) (t : Nat), tget args t = (args[t]?).getD AV.undef := by
  intro args
  induction args with
  | nil => intro t; simp [tget]
  | cons x l ih =>
    intro t
    cases t with
    | zero => simp [tget]
    | succ t => simp [tget, ih]

/-- One result. -/
def rsem (tmps : Array Value) : ResultVar → Sem Value
  | .tmp t => pure (tmps.getD t undef)
  | .cell b t => asAddr (tmps.getD b undef) >>= fun x => loadVar t x

theorem results_eq (fn : Func) (tmps : Array Value) : results fn tmps = fn.results.mapM (rsem tmps) >>= fun vs => pure (if h : vs.size = 1 then vs[0] else .tuple vs) := by
  unfold results
  congr 1

theorem results_ok {fn : Func} {st : St} {nt : Nat} (hO : StOk M ι st nt a w) {x : AV} (h : resultsA E.P fn st = some x) : ∃ v, (results fn a.tmps).run E.P w = .ok v w ∧ VR M ι x v := by
  have one : ∀ (rv : ResultVar) (y : AV), readResult E.P st rv = some y → ∃ v, (rsem a.tmps rv).run E.P w = .ok v w ∧ VR M ι y v := by
    intro rv y hy
    cases rv with
    | tmp t =>
      simp only [readResult, Option.some.injEq] at hy
      subst hy
      exact ⟨_, rfl, hO.tr.at_ t⟩
    | cell b t =>
      simp only [readResult] at hy
      split at hy
      · rename_i r i j g n hb hg hn
        split at hy
        · rename_i k hk
          have hv := hO.tr.at_ b
          rw [hb] at hv
          obtain ⟨v, h1, h2⟩ := load_ok hg hn hO.sim hv hk hy
          refine ⟨v, ?_, h2⟩
          simp only [rsem]
          generalize a.tmps.getD b undef = u at hv h1 ⊢
          cases hv
          simpa [asAddr, Instr.loadAt, Instr.sureAddr] using h1
        · cases hy
      · cases hy
  have many : ∀ (rs : List ResultVar) (ys : List AV), rs.mapM (readResult E.P st) = some ys → ∃ vs, (rs.mapM (rsem a.tmps)).run E.P w = .ok vs w ∧ VRs M ι ys vs := by
    intro rs
    induction rs with
    | nil => intro ys h; simp at h; subst h; exact ⟨[], rfl, VRs.nil⟩
    | cons r rs ih =>
      intro ys h
      simp only [List.mapM_cons, Option.pure_def, Option.bind_eq_bind, Option.bind_eq_some_iff] at h
      obtain ⟨y, hy, ys', hys, h⟩ := h
      simp at h
      subst h
      obtain ⟨v, h1, h2⟩ := one r y hy
      obtain ⟨vs, h3, h4⟩ := ih ys' hys
      refine ⟨v :: vs, ?_, VRs.cons h2 h4⟩
      rw [List.mapM_cons]
      simp only [Sem.run_bind, h1, Result.andThen_ok, h3, Sem.run_pure]
  unfold resultsA at h
  have fin : ∀ ys, fn.results.toList.mapM (readResult E.P st) = some ys → ∃ vs : List Value, (results fn a.tmps).run E.P w = .ok (if h : vs.toArray.size = 1 then vs.toArray[0] else .tuple vs.toArray) w ∧ VRs M ι ys vs := by
    intro ys hys
    obtain ⟨vs, h1, h2⟩ := many _ ys hys
    refine ⟨vs, ?_, h2⟩
    rw [results_eq]
    simp only [Array.mapM_eq_mapM_toList, Sem.run_bind, Sem.run_map, h1, Result.andThen_ok, Sem.run_pure]
  split at h
  · rename_i hys
    injection h with h
    subst h
    obtain ⟨vs, h1, h2⟩ := fin _ hys
    have : vs = [] := List.eq_nil_of_length_eq_zero (by rw [← h2.1]; rfl)
    subst this
    exact ⟨_, h1, .v rfl⟩
  · rename_i y hys
    injection h with h
    subst h
    obtain ⟨vs, h1, h2⟩ := fin _ hys
    obtain ⟨v, rfl⟩ := len1 h2.1.symm
    exact ⟨v, by simpa using h1, h2.2 0 y v rfl rfl⟩
  · rename_i ys hne0 hne1 hys
    injection h with h
    subst h
    obtain ⟨vs, h1, h2⟩ := fin _ hys
    have hl : vs.length ≠ 1 := by
      intro h
      rw [← h2.1] at h
      obtain ⟨y, hy⟩ := len1 h
      exact hne1 y hy
    refine ⟨.tuple vs.toArray, ?_, .tup ?_ (by simpa using h2.1) fun i c u hc hu => h2.2 i c u hc (by simpa using hu)⟩
    · rw [h1, dif_neg (by simpa using hl)]
    · intro e
      exact hne0 e
  · cases h

theorem callIn_ok {ok : Array Oper → Bool} (hE : E.Ok ok) {n : Nat} (hn : RunOk E ok n) {dep : Nat} {f : FuncId} {args : List AV} {H H' : Heap} {x : AV} (h : callIn E (runA E n) dep f args H = some (x, H')) : ThrOk E.P f args H x H' := by
  unfold callIn at h
  obtain ⟨hal, h⟩ := Option.ite_none_right_eq_some.1 h
  obtain ⟨fn, hfn, hname, hbody⟩ := hE.fns f hal
  rw [hfn] at h
  simp only at h
  split at h
  · rename_i c hc
    obtain ⟨hlen, h⟩ := Option.ite_none_right_eq_some.1 h
    split at h
    · rename_i st hst
      simp only [Option.map_eq_some_iff] at h
      obtain ⟨x', hx', h⟩ := h
      injection h with h1 h2
      subst h1; subst h2
      refine ⟨⟨fn, hfn, hname, by rw [hc]; rfl⟩, ?_⟩
      intro M ι w us hS hD hv cs
      have hul := hv.1
      have hO : StOk M ι ⟨args, H⟩ fn.ntmps { tmps := us.toArray ++ Array.replicate (fn.ntmps - us.toArray.size) undef, defers := [] } w := by
        refine ⟨hS, hD, ⟨?_, rfl⟩, by simp; omega⟩
        intro t
        rw [tget_args, Array.getD_eq_getD_getElem?]
        rcases Nat.lt_or_ge t args.length with ht | ht
        · rw [List.getElem?_eq_getElem ht, Array.getElem?_append_left (by simp; omega), Option.getD_some]
          have hu : us[t]? = some (us[t]'(by omega)) := List.getElem?_eq_getElem _
          simp only [List.getElem?_toArray, hu, Option.getD_some]
          exact hv.2 t _ _ (List.getElem?_eq_getElem ht) hu
        · rw [List.getElem?_eq_none ht, Array.getElem?_append_right (by simp; omega)]
          have : ∀ k : Nat, ((Array.replicate (fn.ntmps - us.toArray.size) undef)[k]?).getD undef = undef := by
            intro k
            rw [Array.getElem?_replicate]
            split <;> rfl
          rw [this]
          exact .v rfl
      let b : Frame := { (default : Frame) with fn := f, kind := .normal }
      have henter : Frame.enter E.P f us.toArray .normal = b.at { tmps := us.toArray ++ Array.replicate (fn.ntmps - us.toArray.size) undef, defers := [] } [.code c] := by
        simp [Frame.enter, Frame.at, hfn, hc, b]
      obtain ⟨a', w', todo, ⟨M', ι', hO', hF⟩, hsteps⟩ := hn fn.ntmps dep [.code c] ⟨args, H⟩ st hst (by intro i hi; simp at hi; subst hi; exact hbody c hc) M ι _ w hO b cs
      obtain ⟨v, hr, hvr⟩ := results_ok hO' hx'
      rw [← henter] at hsteps
      exact ⟨.returned v, w', _, ⟨v, rfl, M', ι', hvr, hO'.sim, hF, hO'.dom⟩, hsteps, rfl, rfl, hO'.tr.defers, rfl, fn, hfn, hr⟩
    · cases h
  · cases h

end
end Go.Ab
