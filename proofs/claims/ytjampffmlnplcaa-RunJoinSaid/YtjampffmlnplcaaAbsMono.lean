/-
  More fuel gives the same answer. No statement of a seat is proved here.
-/
import Derived.Test.YtjampffmlnplcaaAbsWp
set_option linter.unusedVariables false
set_option linter.unusedSimpArgs false
namespace Go.Ab

def PcLe (pc pc' : FuncId → List AV → Option AV) : Prop := ∀ f xs y, pc f xs = some y → pc' f xs = some y
def TcLe (tc tc' : Tgt → List AV → Heap → WRes) : Prop := ∀ f xs H y, tc f xs H = some y → tc' f xs H = some y

theorem callRes_mono {E : Env} {wk : Bool} {pc pc' : FuncId → List AV → Option AV} {tc tc' : Tgt → List AV → Heap → WRes} (hp : PcLe pc pc') (ht : TcLe tc tc') {H : Heap} {r : Ref} {f : Option AV} {args : List AV} {z : AV × Heap}
    (h : callRes E wk pc tc H r f args = some z) : callRes E wk pc' tc' H r f args = some z := by
  unfold callRes at h ⊢
  by_cases hf : ∃ fi first captured, f = some (.fn (.func fi) first captured)
  · obtain ⟨fi, first, captured, rfl⟩ := hf
    by_cases h2 : E.mode fi = 2
    · simp only [qCall, wCall, if_pos h2, nRes, orW] at h ⊢
      cases wk with
      | true =>
        simp only [cond_true] at h ⊢
        exact ht _ _ _ _ h
      | false => simp at h
    · simp only [qCall, wCall, if_neg h2] at h ⊢
      cases hx : (first ++ args ++ captured).mapM (view H.get depth) with
      | none => rw [hx] at h; simp [nRes, orW] at h
      | some xs =>
        rw [hx] at h
        dsimp only at h ⊢
        cases hy : pc fi xs with
        | none => rw [hy] at h; simp [nRes, orW] at h
        | some y =>
          rw [hy] at h
          rw [hp _ _ _ hy]
          exact h
  · have h1 : ∀ pc, qCall E pc H.get r f args = none := by
      intro pc
      unfold qCall
      split
      · exact (hf ⟨_, _, _, rfl⟩).elim
      · rfl
    by_cases hy : ∃ q, f = some (.yld q)
    · obtain ⟨q, rfl⟩ := hy
      rw [h1] at h
      cases wk with
      | false => simp [nRes, orW] at h
      | true =>
        rw [h1]
        have h' : tc (.yld q) args H = some z := h
        exact ht _ _ _ _ h'
    · have h2 : ∀ pc tc, wCall E pc tc H r f args = none := by
        intro pc tc
        unfold wCall
        split
        · exact (hf ⟨_, _, _, rfl⟩).elim
        · exact (hy ⟨_, rfl⟩).elim
        · rfl
      rw [h1, h2] at h
      cases wk <;> simp [nRes, orW] at h

theorem orW_eq (wk : Bool) (H : Heap) (r : Ref) (q : QRes) (w : WRes) : orW wk (nRes H r q) w = (match q with
    | some (x, bs) => some (x, keyed r 0 bs H)
    | none => if !wk then none else w) := by
  cases q with
  | some p => rfl
  | none => cases wk <;> rfl

theorem qCall_mono {E : Env} {pc pc' : FuncId → List AV → Option AV} (hp : PcLe pc pc') {g : Get} {r : Ref} {f : Option AV} {args : List AV} {z : AV × List Blk} (h : qCall E pc g r f args = some z) : qCall E pc' g r f args = some z := by
  unfold qCall at h ⊢
  split at h
  · split at h
    · cases h
    · rename_i hm
      rw [if_neg hm]
      split at h
      · rename_i xs hx
        split at h
        · rename_i y hy
          rw [hp _ _ _ hy]
          exact h
        · cases h
      · cases h
  · cases h

theorem qCall_or {E : Env} {pc pc' : FuncId → List AV → Option AV} {tc tc' : Tgt → List AV → Heap → WRes} (hp : PcLe pc pc') (ht : TcLe tc tc') {H : Heap} {r : Ref} {f : Option AV} {args : List AV} :
    (qCall E pc H.get r f args = none → ∀ z, wCall E pc tc H r f args = some z → wCall E pc' tc' H r f args = some z ∧ qCall E pc' H.get r f args = none) := by
  intro h0 z h
  unfold qCall at h0 ⊢
  unfold wCall at h ⊢
  split at h
  · rename_i fi first captured
    dsimp only at h0 ⊢
    split at h
    · rename_i hm
      rw [if_pos hm, if_pos hm]
      exact ⟨ht _ _ _ _ h, rfl⟩
    · rename_i hm
      rw [if_neg hm] at h0
      rw [if_neg hm, if_neg hm]
      split at h
      · rename_i xs hx
        try rw [hx] at h0
        dsimp only at h0 ⊢
        simp only [Option.map_eq_some_iff] at h
        obtain ⟨y, hy, h⟩ := h
        rw [hy] at h0
        rw [hp _ _ _ hy]
        exact ⟨by rw [Option.map_some, h], h0⟩
      · cases h
  · exact ⟨ht _ _ _ _ h, rfl⟩
  · cases h

theorem evalC_mono {E : Env} {pc pc' : FuncId → List AV → Option AV} {tc tc' : Tgt → List AV → Heap → WRes} (hp : PcLe pc pc') (ht : TcLe tc tc') {dep : Nat} {draw : Bool} {tm : List AV} {H : Heap} {o : Oper} {z : AV × Heap}
    (h : evalC E pc tc dep draw tm H o = some z) : evalC E pc' tc' dep draw tm H o = some z := by
  by_cases hc : ∃ c f args, o.op = .call c ∧ c.args.toList.mapM (evalO tm) = some args ∧ c.callee = .value f
  · obtain ⟨c, f, args, ho, ha, hf⟩ := hc
    unfold evalC evalQ evalW at h ⊢
    simp only [ho, ha, hf] at h ⊢
    cases hq : qCall E pc H.get ⟨dep, o.dst.getD 0, H.gen dep (o.dst.getD 0), 0⟩ (evalO tm f) args with
    | some p =>
      rw [hq] at h
      rw [qCall_mono hp hq]
      exact h
    | none =>
      rw [hq] at h
      simp only [Option.map_none] at h
      split at h
      · cases h
      · rename_i hd
        cases hw : wCall E pc tc H ⟨dep, o.dst.getD 0, H.gen dep (o.dst.getD 0), 0⟩ (evalO tm f) args with
        | none =>
          rw [hw] at h
          unfold wRead at h
          split at h
          · rename_i e; cases e
          · cases h
        | some z' =>
          obtain ⟨h1, h2⟩ := qCall_or hp ht hq _ hw
          rw [h2, h1]
          rw [hw] at h
          simp only [Option.map_none, if_neg hd]
          exact h
  · have : evalC E pc tc dep draw tm H o = evalC E pc' tc' dep draw tm H o := by
      have hq : evalQ E pc draw H.get tm ⟨dep, o.dst.getD 0, H.gen dep (o.dst.getD 0), 0⟩ o = evalQ E pc' draw H.get tm ⟨dep, o.dst.getD 0, H.gen dep (o.dst.getD 0), 0⟩ o := by
        cases ho : o.op <;> simp only [evalQ, ho]
        case makeMap a b => cases b <;> rfl
        rename_i c
        cases ha : c.args.toList.mapM (evalO tm) with
        | none => rfl
        | some args =>
          cases hf : c.callee with
          | value f => exact (hc ⟨c, f, args, ho, ha, hf⟩).elim
          | invoke _ _ => rfl
          | builtin b => rfl
      have hw : evalW E pc tc H tm ⟨dep, o.dst.getD 0, H.gen dep (o.dst.getD 0), 0⟩ o = evalW E pc' tc' H tm ⟨dep, o.dst.getD 0, H.gen dep (o.dst.getD 0), 0⟩ o := by
        cases ho : o.op <;> simp only [evalW, ho]
        rename_i c
        cases ha : c.args.toList.mapM (evalO tm) with
        | none => rfl
        | some args =>
          cases hf : c.callee with
          | value f => exact (hc ⟨c, f, args, ho, ha, hf⟩).elim
          | invoke _ _ => rfl
          | builtin b => rfl
      unfold evalC
      rw [hq, hw]
    rw [← this]
    exact h

theorem runOps_mono {E : Env} {pc pc' : FuncId → List AV → Option AV} {tc tc' : Tgt → List AV → Heap → WRes} (hp : PcLe pc pc') (ht : TcLe tc tc') {nt dep : Nat} {draw : Bool} {ops : Array Oper} : ∀ {l : List Oper} {st st' : St},
    runOps E pc tc nt dep draw ops l st = some st' → runOps E pc' tc' nt dep draw ops l st = some st' := by
  intro l
  induction l with
  | nil => intro st st' h; exact h
  | cons o l ih =>
    intro st st' h
    unfold runOps at h ⊢
    cases ho : evalOp E pc tc nt dep draw ops o st with
    | none => rw [ho] at h; cases h
    | some st1 =>
      rw [ho] at h
      have : evalOp E pc' tc' nt dep draw ops o st = some st1 := by
        rw [evalOp_C] at ho ⊢
        cases hw : wanted ops st.tm o with
        | none => rw [hw] at ho; cases ho
        | some b =>
          rw [hw] at ho
          cases b with
          | false => exact ho
          | true =>
            dsimp only at ho ⊢
            cases hc : evalC E pc tc dep draw st.tm st.hp o with
            | none => rw [hc] at ho; cases ho
            | some z => rw [hc] at ho; rw [evalC_mono hp ht hc]; exact ho
      rw [this]
      exact ih h

theorem callIn_mono {E : Env} {run run' : Option Ref → Nat → Nat → List Item → St → Option St} (hr : ∀ rd nt dep items st st', run rd nt dep items st = some st' → run' rd nt dep items st = some st') {dep : Nat} {f : FuncId} {args : List AV} {H : Heap} {z : AV × Heap}
    (h : callIn E run dep f args H = some z) : callIn E run' dep f args H = some z := by
  unfold callIn at h ⊢
  split at h
  · rename_i ha
    rw [if_pos ha]
    cases hf : E.P.funcs[f]? with
    | none => rw [hf] at h; cases h
    | some fn =>
      rw [hf] at h
      dsimp only at h ⊢
      cases hb : fn.body with
      | none => rw [hb] at h; cases h
      | some c =>
        rw [hb] at h
        dsimp only at h ⊢
        split at h
        · rename_i hl
          rw [if_pos hl]
          cases hx : run none fn.ntmps dep [.code c] ⟨args, H⟩ with
          | none => rw [hx] at h; cases h
          | some st => rw [hx] at h; rw [hr _ _ _ _ _ _ hx]; exact h
        · cases h
  · cases h

theorem pureCall_mono {E : Env} {run run' : Option Ref → Nat → Nat → List Item → St → Option St} (hr : ∀ rd nt dep items st st', run rd nt dep items st = some st' → run' rd nt dep items st = some st') : PcLe (pureCall E run) (pureCall E run') := by
  intro f xs y h
  unfold pureCall at h ⊢
  cases hs : E.spec f xs with
  | some s => rw [hs] at h; exact h
  | none =>
    rw [hs] at h
    dsimp only at h ⊢
    cases hc : callIn E run 0 f xs [] with
    | none => rw [hc] at h; cases h
    | some z => rw [hc] at h; rw [callIn_mono hr hc]; exact h

theorem thrCall_mono {E : Env} {run run' : Option Ref → Nat → Nat → List Item → St → Option St} (hr : ∀ rd nt dep items st st', run rd nt dep items st = some st' → run' rd nt dep items st = some st') (dep : Nat) : TcLe (thrCall E run dep) (thrCall E run' dep) := by
  intro f xs H y h
  unfold thrCall at h ⊢
  cases f with
  | fn f =>
    dsimp only at h ⊢
    split at h
    · rename_i hm; rw [if_pos hm]; exact callIn_mono hr h
    · cases h
  | yld r =>
    dsimp only at h ⊢
    unfold roundIn at h ⊢
    split at h
    · rename_i f nt ps assign body tm hl
      split at h
      · rename_i hc
        rw [if_pos hc]
        cases hx : run (some r) nt (dep + 1) [.code assign, .beginRound, .code body] ⟨setAll tm ps xs, H⟩ with
        | none => rw [hx] at h; cases h
        | some st => rw [hx] at h; rw [hr _ _ _ _ _ _ hx]; exact h
      · cases h
    · cases h

theorem runA_succ {E : Env} : ∀ (n : Nat) (rd : Option Ref) (nt dep : Nat) (items : List Item) (st st' : St), runA E n rd nt dep items st = some st' → runA E (n + 1) rd nt dep items st = some st' := by
  intro n
  induction n with
  | zero => intro rd nt dep items st st' h; simp [runA] at h
  | succ n ih =>
    intro rd nt dep items st st' h
    unfold runA at h ⊢
    split at h
    · exact h
    · split at h
      · exact h
      · rename_i r
        split at h
        · exact ih _ _ _ _ _ _ h
        · cases h
    · split at h
      all_goals try exact h
      all_goals try exact ih _ _ _ _ _ _ h
      · rename_i c a b
        split at h
        · exact ih _ _ _ _ _ _ h
        · exact ih _ _ _ _ _ _ h
        · cases h
      · split at h
        · exact ih _ _ _ _ _ _ h
        · exact h
      · rename_i ops draw
        cases hx : runOps E (pureCall E (runA E n)) (thrCall E (runA E n) dep) nt dep draw ops ops.toList st with
        | none => rw [hx] at h; cases h
        | some st1 =>
          rw [hx] at h
          rw [runOps_mono (pureCall_mono ih) (thrCall_mono ih dep) hx]
          dsimp only at h ⊢
          split at h
          · cases h
          · rename_i hd
            rw [if_neg hd]
            exact ih _ _ _ _ _ _ h
      · split at h
        · split at h
          · rename_i x H' hx
            rw [thrCall_mono ih dep _ _ _ _ hx]
            dsimp only
            split at h
            · exact ih _ _ _ _ _ _ h
            · exact h
            · split at h
              · exact ih _ _ _ _ _ _ h
              · cases h
            · cases h
          · cases h
        · cases h
    all_goals try exact ih _ _ _ _ _ _ h
    all_goals cases h

theorem runA_le {E : Env} {n m : Nat} (hm : n ≤ m) {rd : Option Ref} {nt dep : Nat} {items : List Item} {st st' : St} (h : runA E n rd nt dep items st = some st') : runA E m rd nt dep items st = some st' := by
  induction hm with
  | refl => exact h
  | step _ ih => exact runA_succ _ _ _ _ _ _ _ ih

/-- What a run with some fuel answers is the answer. -/
theorem limf_run_of {E : Env} {n : Nat} {f : FuncId} {args : List AV} {y : AV} (h : pureCall E (runA E n) f args = some y) : limf E f args = some y :=
  limf_eq.2 ⟨n, fun _ hm => pureCall_mono (fun _ _ _ _ _ _ h => runA_le hm h) _ _ _ h⟩

theorem limt_run_of {E : Env} {n dep : Nat} {f : Tgt} {args : List AV} {H : Heap} {y : AV × Heap} (h : thrCall E (runA E n) dep f args H = some y) : limt E dep f args H = some y :=
  limt_eq.2 ⟨n, fun _ hm => thrCall_mono (fun _ _ _ _ _ _ h => runA_le hm h) dep _ _ _ _ h⟩

end Go.Ab
