/-
  Chains: what the functions compute. No statement of a seat is proved here.
-/
import Derived.Test.YtehkjjcdkbcebaaOpMath
set_option linter.unusedVariables false
set_option linter.unusedSimpArgs false
namespace Go.Ab
def lpO (o : Option Blk) : Option (Nat × AV) := match o with
  | some ⟨0, [.v (.int .i64 st), inf], _, _⟩ => some (st.toNat, inf)
  | _ => none
theorem lpAt_eq (H : Heap) (r : Ref) : lpAt H r = lpO (H.get r) := rfl
@[simp] theorem lpO_some (st : Nat) (inf : AV) : lpO (some (lpBlk st inf)) = some (st, inf) := by
  simp [lpO, lpBlk]
theorem bgP_some (inf : AV) (K : AV → Prop) (m : Mk K) : bgP (some (0, inf)) K m ↔ K inf := by
  constructor
  · rintro ⟨info, e, h⟩
    simp only [Option.some.injEq, Prod.mk.injEq, true_and] at e
    subst e; exact h
  · intro h; exact ⟨inf, rfl, h⟩
attribute [simp] bgP_some
theorem lpAt_put (H : Heap) (r : Ref) (st : Nat) (inf : AV) : lpAt (H.put r (some (lpBlk st inf))) r = some (st, inf) := by
  rw [lpAt_eq, Heap.get_put, if_pos rfl, lpO_some]
theorem limt_yld0 {E : Env} {fn : Func} {dep nt : Nat} {r : Ref} {f : FuncId} {ps : List Tmp} {assign body : Code} {tm : List AV} {args : List AV} {H : Heap} {Q : AV → Heap → Prop}
    (hl : H.get r = some (lpBlk 0 (.lp f nt ps assign body tm))) (hn : fn.ntmps = nt) (hp : args.length = ps.length) (hps : ps.all (· < nt) = true) (ha : codeOk E.ok assign = true) (hb : codeOk E.ok body = true)
    (h : Goes E fn (some r) (dep + 1) [.code assign, .beginRound, .code body] (tget (setAll tm ps args)) H fun x H' => x = .v (.int .i64 0) ∧ ∃ info, H'.get r = some (lpBlk 1 info) ∧ Q (.v (.bool true)) (H'.put r (some (lpBlk 0 info)))) :
    ∃ y H', limt E dep (.yld r) args H = some (y, H') ∧ Q y H' := by
  refine limt_yld (by rw [lpAt_eq, hl]; exact lpO_some _ _) hn hp hps ha hb ?_
  intro tm' ht
  obtain ⟨y, H', ⟨rfl, info, h1, hQ⟩, n, hn⟩ := h tm' ht
  exact ⟨_, H', ⟨0, rfl, info, _, by rw [lpAt_eq, h1]; exact lpO_some _ _, rfl, lpAt_put _ _ _ _, fun _ => hQ, fun h => absurd h (by decide), by decide⟩, n, hn⟩
theorem ofL_same {s : Slots} {l : List (Nat × AV)} (h : ∀ p ∈ l, s p.1 = p.2) : ofL s l = s := by
  induction l with
  | nil => rfl
  | cons p l ih =>
    obtain ⟨j, v⟩ := p
    funext i
    show cond (Nat.beq i j) v (ofL s l i) = s i
    rw [ih fun p hp => h p (List.mem_cons_of_mem _ hp)]
    cases hb : Nat.beq i j with
    | false => rfl
    | true =>
      have := Nat.eq_of_beq_eq_true hb
      subst this
      exact (h _ (List.mem_cons_self ..)).symm
@[simp] theorem writeAt_osl (r : Ref) (o n : Nat) (c : Option Nat) (y : AV) : writeAt [AV.osl r o n c] 0 0 [y] = some [y] := id rfl
@[simp] theorem writeAt_v (x : Value) (y : AV) : writeAt [AV.v x] 0 0 [y] = some [y] := id rfl
theorem callRes_yld {E : Env} (dep : Nat) (H : Heap) (r q : Ref) (args : List AV) : callRes E true (limf E) (limt E dep) H r (some (.yld q)) args = limt E dep (.yld q) args H := by
  simp [callRes, qCall, nRes, orW, wCall]
end Go.Ab
