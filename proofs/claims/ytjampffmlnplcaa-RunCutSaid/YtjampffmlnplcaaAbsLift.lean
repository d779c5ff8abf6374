/-
  From a run of the abstract machine on every data of the parameters' types to a law's contract. No statement of a seat is proved here.
-/
import Derived.Test.YtjampffmlnplcaaAbsMain2
import Derived.Test.YtjampffmlnplcaaAbsLS3
import Derived.ReadAgain
import Derived.OpenShut
import Derived.ChangeSame
import Derived.RowKit
import Derived.JoinedOf
set_option linter.unusedVariables false
set_option linter.unusedSimpArgs false
namespace Go.Ab
open Go.ChangeShapes Go.WideShapes Go.RowKit

/- ## What is behind a call that keeps all that was there -/
structure Kept (W W' : World) : Prop where
  os : W'.os = W.os
  output : W'.output = W.output
  size : W.heap.size ≤ W'.heap.size
  old : ∀ b, b < W.heap.size → W'.heap[b]? = W.heap[b]?

theorem Kept.keptBut {W W' : World} (h : Kept W W') (may : MemPlace → Prop) : W.keptBut W' may := by
  refine ⟨h.os, h.output, fun i hi => ?_⟩
  rw [h.old i hi]
  have := Array.getElem?_eq_getElem hi
  rw [this]
  cases W.heap[i] <;> simp

theorem Kept.frozen {W W' : World} (h : Kept W W') {a : Addr} (ha : a.block < W.heap.size) : W'.frozen? a = W.frozen? a := by
  unfold World.frozen?
  rw [h.old _ ha]

theorem Kept.same {W W' : World} (h : Kept W W') {p : MemPlace} (hp : p.block < W.heap.size) : W.sameAt W' p := by
  cases p with
  | cell b off => exact World.cell?_of_block (h.old b hp)
  | map b => exact h.old b hp

section
variable {H : Type} {enc : TypeId × Value → H} {P : Program}

theorem trodAll_kept {T : TypeId → Prop} (K : Kids P T) (hz : ∀ t e, T t → P.underlying t = some (.slice e) → 0 < P.cellsOf e) {W W' : World} (hk : Kept W W') {sp : Nat → Bool} {base : Nat} : ∀ {ts : List TypeId} {vs : List Value} {ds : List (DataW H)} {ps : List MemPlace}, (∀ t ∈ ts, T t) →
    DataW.TrodAll enc P W base (fun _ => true) true ts vs ds ps → (∀ p ∈ ps, sp p.block = true) → DataW.TrodAll enc P W' base sp true ts vs ds ps := by
  intro ts vs ds ps hT h hs
  have h1 := h.respare K hz hT hs
  have hl := h.lt
  clear h hs hT
  induction ts generalizing vs ds ps with
  | nil =>
    obtain ⟨rfl, rfl, rfl⟩ := trodAll_nil h1
    exact trodAll_mk0
  | cons t ts ih =>
    obtain ⟨v, vs', d, ds', p, q, rfl, rfl, rfl, ⟨n, hn⟩, h2⟩ := trodAll_cons h1
    refine ⟨p, q, ⟨n, DataW.trod_carry n t _ _ hn fun x hx => hk.same (hl x (List.mem_append_left _ hx))⟩, ih h2 fun x hx => hl x (List.mem_append_right _ hx), rfl⟩

/-- The law's answer, where all that was there is kept. -/
theorem post_true {T : TypeId → Prop} (K : Kids P T) (hz : ∀ t e, T t → P.underlying t = some (.slice e) → 0 < P.cellsOf e) {f : Func} {s : ChangeSpec} {apart fresh handsOn again : Bool} {W W' : World} {args : Array Value} {ds gs : List (DataW H)} {before : List MemPlace}
    (hT : ∀ t ∈ f.params.toList, T t) (hv : s.vars = []) (hW : DataW.Whole enc P f.params.toList s.vars apart W args.toList ds gs before) (hs : s.fn H ds = { results := [.lit (.bool true)], args := ds })
    {tb : TypeId} (hr : f.resultTypes = #[tb]) (hb : P.underlying tb = some .bool) (hk : Kept W W') : s.post enc P f apart fresh handsOn again W args (.bool true) W' := by
  have hW0 := hW
  obtain ⟨p, q, hA, hV, rfl, hfz, hnd⟩ := hW0
  rw [hv] at hV
  obtain ⟨rfl, rfl⟩ := trodVars_none hV
  have hlt := hA.lt
  have hs' : s.fn H (ds ++ []) = { results := [.lit (.bool true)], args := ds } := by rw [List.append_nil]; exact hs
  have hres : ∀ (b : Nat) (sp : Nat → Bool) (hd : Bool), DataW.TrodAll enc P W' b sp hd f.resultTypes.toList ((Value.bool true).resultList f.resultTypes.size) (s.fn H (ds ++ [])).results [] := by
    intro b sp hd
    rw [hr, hs']
    exact trodAll_mk1 (shut_bool hb true)
  have hargs : ∀ sp : Nat → Bool, (∀ x ∈ p, sp x.block = true) → DataW.TrodAll enc P W' 0 sp true f.params.toList args.toList (s.fn H (ds ++ [])).args p := by
    intro sp hsp
    rw [hs']
    exact trodAll_kept K hz hk hT hA hsp
  have hvars : ∀ sp : Nat → Bool, DataW.TrodVars enc P W' sp s.vars (s.fn H (ds ++ [])).vars [] := by
    intro sp
    rw [hv, hs']
    rfl
  rw [List.append_nil] at hnd hfz
  refine ⟨ds, [], p ++ [], [], p, [], hW, hres _ _ _, hargs _ (fun x hx => by simpa using hlt x hx), hvars _, hk.keptBut _, fun _ => ?_⟩
  have hall := trodAll_append (hargs (fun _ => true) (fun _ _ => rfl)) (hres 0 (fun _ => true) true)
  rw [List.append_nil] at hall
  refine ⟨ok_one hr rfl (okWide_bool_mk hb true), _, [], p ++ [], ⟨p, [], hall, (by rw [hv]; rfl), rfl, ?_, ?_⟩, fun x hx _ => hx⟩
  · intro b off hp
    rw [List.append_nil] at hp
    rw [hk.frozen (show (⟨b, off, none⟩ : Addr).block < W.heap.size from hlt _ hp)]
    exact hfz b off hp
  · intro ha
    rw [List.append_nil]
    exact hnd ha
end


/- ## What a pure run says -/
theorem calls_true {E : Env} {ok : Array Oper → Bool} (hE : E.Ok ok) {n : Nat} {f : FuncId} {xs : List AV} (h : pureCall E (runA E n) f xs = some (.v (.bool true))) {W : World} {us : List Value}
    (hv : VRs (fun b o => W.cell? ⟨b, o, none⟩) noMap xs us) : Calls E.P f us.toArray W fun e W' => e = .returned (.bool true) ∧ Kept W W' := by
  refine ((call_ok hE h).2 _ W us (fun _ _ _ h => h) hv).mono fun e W' ⟨v, M', he, hend⟩ => ?_
  obtain ⟨ls, h1, h2, _⟩ := hend.res ⟨0, 0, 0, 0⟩
  have hfl : importA ⟨0, 0, 0, 0⟩ depth (.v (.bool true)) [] = (.v (.bool true), []) := import_flat _ depth 1 _ _ rfl
  rw [hfl] at h2
  cases h2
  exact ⟨he, hend.os, hend.output, hend.size, hend.old⟩


/-- The functions on the list are of the program, and their code is of the kinds that the machine runs. -/
def fnsOk (E : Env) (l : List FuncId) : Bool := l.all fun f => match E.P.funcs[f]? with
  | some fn => !(fn.name == "runtime.NumGoroutine") && (match fn.body with | some c => codeOk (drawOk E) c | none => true)
  | none => false

/-- The pairs of slots that are to differ: by a region's first slot, its size and its last slot. -/
def dstN (ops : Array Oper) (i : Nat) : Nat := match ops[i]? with
  | some o => (match o.dst with | some d => d | none => 0)
  | none => 0
def tabApart : List (Nat × Nat × Nat × List (Tmp × Tmp)) → Array Oper → List (Tmp × Tmp)
  | [], _ => []
  | (a, b, c, l) :: tab, ops => cond (Nat.beq b ops.size) (cond (Nat.beq a (dstN ops 0)) (cond (Nat.beq c (dstN ops (b - 1))) l (tabApart tab ops)) (tabApart tab ops)) (tabApart tab ops)

/-- Appends that are to make new memory, by their slot and their operands' slots; slices built as the call's own, by their slot and length. -/
def tabStrict (tab : List (Nat × Nat × Nat)) (o : Oper) : Bool := match o.op with
  | .call c => (match c.callee with
    | .builtin .append => (match o.dst, c.args.toList with
      | some d, [.tmp a, .tmp b] => tab.any fun (x, y, z) => Nat.beq x d && Nat.beq y a && Nat.beq z b
      | _, _ => false)
    | .value (.tmp t) => (match o.dst with
      | some d => tab.any fun (x, y, z) => Nat.beq x d && Nat.beq y t && Nat.beq z 66666
      | none => false)
    | _ => false)
  | .buildSlice _ n _ => (match o.dst with
    | some d => tab.any fun (x, y, z) => Nat.beq x d && Nat.beq y n && Nat.beq z 77777
    | none => false)
  | _ => false

def nilConst : Option Operand → Bool
  | some (.const (.slice none 0 0)) => true
  | _ => false

/-- Appends to nothing. -/
def nilApp (o : Oper) : Bool := match o.op with
  | .call c => (match c.callee with
    | .builtin .append => nilConst c.args[0]?
    | _ => false)
  | _ => false

/-- Slices built of what is not written from here on: by their slot and length. -/
def tabFrz (tab : List (Nat × Nat × Nat)) (o : Oper) : Bool := match o.op with
  | .buildSlice _ n _ => (match o.dst with
    | some d => tab.any fun (x, y, z) => Nat.beq x d && Nat.beq y n && Nat.beq z 88888
    | none => false)
  | .call _ => (match o.dst with
    | some d => tab.any fun (x, y, z) => Nat.beq x d && Nat.beq y 0 && Nat.beq z 88888
    | none => false)
  | _ => false

def strictOf (tab : List (Nat × Nat × Nat)) (o : Oper) : Bool := nilApp o || tabStrict tab o

def envBase (P : Program) (l keep thr : List FuncId) (strict : Oper → Bool) (apart : Array Oper → List (Tmp × Tmp)) (frz : Oper → Bool := fun _ => false) : Env := { frz := frz, P := P, strict := strict, apart := apart, mode := fun f => if keep.contains f then 1 else if thr.contains f then 2 else 0, allowed := fun f => l.contains f, spec := fun _ _ => none }

def envOf (P : Program) (l keep thr : List FuncId) (strict : Oper → Bool := fun _ => false) (apart : Array Oper → List (Tmp × Tmp) := fun _ => []) (frz : Oper → Bool := fun _ => false) (memo : List (FuncId × List AV × AV) := []) : Env :=
  { frz := frz, P := P, strict := strict, apart := apart, mode := fun f => if keep.contains f then 1 else if thr.contains f then 2 else 0, allowed := fun f => l.contains f, spec := memoOf memo, ok := drawOk (envBase P l keep thr strict apart frz) }

theorem asame_ok : ∀ (n : Nat) (x y : AV), asame n x y = true → x = y := by
  intro n
  induction n with
  | zero => intro x y h; simp [asame] at h
  | succ n ih =>
    intro x y h
    unfold asame at h
    split at h
    · rw [vsame_ok h]
    · simp only [Bool.and_eq_true] at h
      rw [all_same ih _ _ (Nat.eq_of_beq_eq_true h.1) h.2]
    · simp only [Bool.and_eq_true, decide_eq_true_eq] at h
      rw [all_same ih _ _ (Nat.eq_of_beq_eq_true h.1.2) h.2, Nat.eq_of_beq_eq_true h.1.1.1, h.1.1.2]
    · cases h

theorem lsame_ok {xs ys : List AV} (h : lsame xs ys = true) : xs = ys := by
  unfold lsame at h
  simp only [Bool.and_eq_true] at h
  exact all_same (asame_ok 8) _ _ (Nat.eq_of_beq_eq_true h.1) h.2

theorem memo_ok {P : Program} {T : List (FuncId × List AV × AV)} (hT : ∀ p ∈ T, PureOk P p.1 p.2.1 p.2.2) {f : FuncId} {args : List AV} {y : AV} (h : memoOf T f args = some y) : PureOk P f args y := by
  induction T with
  | nil => cases h
  | cons p T ih =>
    obtain ⟨g, xs, z⟩ := p
    unfold memoOf at h
    split at h
    · rename_i hc
      simp only [Bool.and_eq_true] at hc
      cases h
      have := hT _ (List.mem_cons_self ..)
      simp only at this
      rw [← Nat.eq_of_beq_eq_true hc.1, ← lsame_ok hc.2]
      exact this
    · exact ih (fun p hp => hT p (List.mem_cons_of_mem _ hp)) h

theorem envM_ok {P : Program} {l keep thr : List FuncId} {strict : Oper → Bool} {apart : Array Oper → List (Tmp × Tmp)} {frz : Oper → Bool} {memo : List (FuncId × List AV × AV)} (hspec : ∀ p ∈ memo, PureOk P p.1 p.2.1 p.2.2) (hm : P.follows .mixedOrders = true) (h0 : fnsOk (envOf P l keep thr strict apart frz) l = true) : (envOf P l keep thr strict apart frz memo).Ok (drawOk (envOf P l keep thr strict apart frz memo)) where
  fns := by
    intro f hf
    have h : fnsOk (envOf P l keep thr strict apart frz memo) l = true := h0
    have hf' : f ∈ l := by simpa [envOf] using hf
    have := List.all_eq_true.1 h f hf'
    split at this
    · rename_i fn hfn
      simp only [Bool.and_eq_true, Bool.not_eq_true'] at this
      refine ⟨fn, hfn, this.1, fun c hc => ?_⟩
      have h2 := this.2
      rw [hc] at h2
      exact h2
    · cases this
  specs := fun f args y h => memo_ok hspec h
  same := rfl
  draws := fun ops hok _ hpc _ htc nt dep id st st' M ι a w ro Q hr hap hO hQ => by
    rcases Bool.or_eq_true_iff.1 hok with h1 | h1
    · exact draws_ok hm h1 hpc htc hr hO hQ
    · exact draws_ls hm h1 hpc htc hr hap hO hQ

theorem env_ok {P : Program} {l keep thr : List FuncId} {strict : Oper → Bool} {apart : Array Oper → List (Tmp × Tmp)} {frz : Oper → Bool} (hm : P.follows .mixedOrders = true) (h : fnsOk (envOf P l keep thr strict apart frz) l = true) : (envOf P l keep thr strict apart frz).Ok (drawOk (envOf P l keep thr strict apart frz)) :=
  envM_ok (fun p hp => by simp at hp) hm h

/-- A run is a contract. -/
theorem memo_run {E : Env} {ok : Array Oper → Bool} (hE : E.Ok ok) {n : Nat} {f : FuncId} {args : List AV} {y : AV} (h : pureCall E (runA E n) f args = some y) : PureOk E.P f args y :=
  call_ok hE h

theorem memo_nil {P : Program} : ∀ p ∈ ([] : List (FuncId × List AV × AV)), PureOk P p.1 p.2.1 p.2.2 := fun p hp => by simp at hp
theorem memo_cons {P : Program} {f : FuncId} {args : List AV} {y : AV} {T : List (FuncId × List AV × AV)} (h : PureOk P f args y) (hT : ∀ p ∈ T, PureOk P p.1 p.2.1 p.2.2) : ∀ p ∈ (f, args, y) :: T, PureOk P p.1 p.2.1 p.2.2 := by
  intro p hp
  rcases List.mem_cons.1 hp with rfl | hp
  · exact h
  · exact hT p hp

/-- One result, a bool. -/
def boolRes (P : Program) (f : Func) : Bool := match f.resultTypes.toList with
  | [t] => (match P.underlying t with | some .bool => true | _ => false)
  | _ => false

theorem boolRes_ok {P : Program} {f : Func} (h : boolRes P f = true) : ∃ tb, f.resultTypes = #[tb] ∧ P.underlying tb = some .bool := by
  unfold boolRes at h
  split at h
  · rename_i t ht
    split at h
    · rename_i hb
      exact ⟨t, by rw [← Array.toList_inj, ht], hb⟩
    · cases h
  · cases h

/-- A law without arguments: its contract. -/
theorem closed_contract {E : Env} {ok : Array Oper → Bool} (hE : E.Ok ok) {T : TypeId → Prop} (K : Kids E.P T) (hz : ∀ t e, T t → E.P.underlying t = some (.slice e) → 0 < E.P.cellsOf e) {H : Type} {enc : TypeId × Value → H} {id : FuncId} {f : Func} {s : ChangeSpec} {apart fresh handsOn again : Bool}
    (hp : f.params = #[]) (hv : s.vars = []) (hs : s.fn H [] = { results := [.lit (.bool true)], args := [] }) (hr : boolRes E.P f = true) {n : Nat} (h : pureCall E (runA E n) id [] = some (.v (.bool true)))
    (W : World) (args : Array Value) (ds gs : List (DataW H)) (before : List MemPlace) (hW : DataW.Whole enc E.P f.params.toList s.vars apart W args.toList ds gs before) :
    Calls E.P id args W fun e W' => ∃ v, e = .returned v ∧ s.post enc E.P f apart fresh handsOn again W args v W' := by
  obtain ⟨tb, hr, hb⟩ := boolRes_ok hr
  have hW0 := hW
  obtain ⟨p, q, hA, hV, rfl, hfz, hnd⟩ := hW0
  rw [hp] at hA
  obtain ⟨rfl, rfl, rfl⟩ := trodAll_none hA
  refine (calls_true hE h (us := []) VRs.nil).mono fun e W' ⟨he, hk⟩ => ⟨_, he, ?_⟩
  exact post_true K hz (by rw [hp]; intro t ht; simp at ht) hv hW hs hr hb hk

end Go.Ab
