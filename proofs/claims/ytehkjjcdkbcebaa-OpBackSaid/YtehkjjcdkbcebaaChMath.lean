/-
  Chains: what the functions compute. No statement of a seat is proved here.
-/
import Derived.Test.YtehkjjcdkbcebaaOpMath
set_option linter.unusedVariables false
set_option linter.unusedSimpArgs false
namespace Go.Ab

def leqL (a b : Lab) : Bool := decide (a.lv ≤ b.lv) && decide (a.cats &&& ~~~b.cats = 0)
def labs (l : List Lab) : List AV := l.map fun a => .agg [a8 a.lv, a32 a.cats]
@[simp] theorem labs_len (l : List Lab) : (labs l).length = l.length := by simp [labs]
theorem labs_app (l m : List Lab) : labs l ++ labs m = labs (l ++ m) := by simp [labs]
theorem labs_snoc (l : List Lab) (a : UInt8) (b : UInt32) : labs l ++ [.agg [a8 a, a32 b]] = labs (l ++ [⟨a, b⟩]) := by simp [labs]
@[simp] theorem labs_nil_iff (l : List Lab) : labs l = [] ↔ l = [] := by simp [labs]
def hasB (s : Spn) (i : Idd) : Bool := spanB s && (decide (s.f.h = i.h) && (decide (s.f.n ≤ i.n) && decide (i.n < s.f.n + s.many)))
def byL (o : Opn) : Lab := ⟨o.h.lv, o.h.cats⟩
def ofI (i : Idd) : Lab := ⟨i.h.lv, i.h.cats⟩
/-- Does it raise an element, as a label sees it? -/
def raises (o : Opn) (i : Idd) (v : Lab) : Bool := decide (o.kind = 3) && (hasB o.s i && leqL (byL o) v)
def addL (out : List Lab) (t : Lab) : List Lab := if t ∈ out then out else out ++ [t]
def madeF (out : List Lab) (l : List Opn) (i : Idd) (v : Lab) : List Lab := l.foldl (fun out o => if raises o i v then addL out o.to else out) out
def madeL (l : List Opn) (i : Idd) (v : Lab) : List Lab := madeF [ofI i] l i v
def fitsL (l : List Opn) (o : Opn) : Bool := if o.kind = 3 then leqL (byL o) o.to && (List.range o.s.many.toNat).all (fun k => decide (byL o ∈ madeL l ⟨o.s.f.h, o.s.f.n + (k : Int)⟩ (byL o))) else true
/-- Is a list right, behind another one? -/
def rightL : List Opn → List Opn → Bool
  | _, [] => true
  | l, o :: s => opB o && fitsL l o && rightL (l ++ [o]) s
def checkE (l : List Opn) : Int := if 2048 < l.length then 4 else if rightL [] l then 0 else 8
def askedE (l : List Opn) (i : Idd) (v : Lab) : Int := if checkE l = 0 then (if idB i && decide (v.lv ≤ 15) then 0 else 8) else checkE l
def shownB (l : List Opn) (i : Idd) (v : Lab) : Bool := (madeL l i v).all fun t => leqL t v

/- ## The marks of loops over functions -/
def lpO (o : Option Blk) : Option (Nat × AV) := match o with
  | some ⟨0, [.v (.int .i64 st), inf], _, _⟩ => some (st.toNat, inf)
  | _ => none
theorem lpAt_eq (H : Heap) (r : Ref) : lpAt H r = lpO (H.get r) := rfl
@[simp] theorem lpO_some (st : Nat) (inf : AV) : lpO (some (lpBlk st inf)) = some (st, inf) := by
  simp [lpO, lpBlk]
theorem bgP_some (inf : AV) (K : AV → Prop) (m : Mk K) : bgP (some (0, inf)) K m ↔ K inf := by
  constructor
  · rintro ⟨info, e, h⟩
    simp only [Option.some.injEq, Prod.mk.injEq, true_and] at e
    subst e; exact h
  · intro h; exact ⟨inf, rfl, h⟩
attribute [simp] bgP_some

theorem lpAt_put (H : Heap) (r : Ref) (st : Nat) (inf : AV) : lpAt (H.put r (some (lpBlk st inf))) r = some (st, inf) := by
  rw [lpAt_eq, Heap.get_put, if_pos rfl, lpO_some]
/-- A round that goes on. -/
theorem limt_yld0 {E : Env} {fn : Func} {dep nt : Nat} {r : Ref} {f : FuncId} {ps : List Tmp} {assign body : Code} {tm : List AV} {args : List AV} {H : Heap} {Q : AV → Heap → Prop}
    (hl : H.get r = some (lpBlk 0 (.lp f nt ps assign body tm))) (hn : fn.ntmps = nt) (hp : args.length = ps.length) (hps : ps.all (· < nt) = true) (ha : codeOk E.ok assign = true) (hb : codeOk E.ok body = true)
    (h : Goes E fn (some r) (dep + 1) [.code assign, .beginRound, .code body] (tget (setAll tm ps args)) H fun x H' => x = .v (.int .i64 0) ∧ ∃ info, H'.get r = some (lpBlk 1 info) ∧ Q (.v (.bool true)) (H'.put r (some (lpBlk 0 info)))) :
    ∃ y H', limt E dep (.yld r) args H = some (y, H') ∧ Q y H' := by
  refine limt_yld (by rw [lpAt_eq, hl]; exact lpO_some _ _) hn hp hps ha hb ?_
  intro tm' ht
  obtain ⟨y, H', ⟨rfl, info, h1, hQ⟩, n, hn⟩ := h tm' ht
  exact ⟨_, H', ⟨0, rfl, info, _, by rw [lpAt_eq, h1]; exact lpO_some _ _, rfl, lpAt_put _ _ _ _, fun _ => hQ, fun h => absurd h (by decide), by decide⟩, n, hn⟩
theorem ofL_same {s : Slots} {l : List (Nat × AV)} (h : ∀ p ∈ l, s p.1 = p.2) : ofL s l = s := by
  induction l with
  | nil => rfl
  | cons p l ih =>
    obtain ⟨j, v⟩ := p
    funext i
    show cond (Nat.beq i j) v (ofL s l i) = s i
    rw [ih fun p hp => h p (List.mem_cons_of_mem _ hp)]
    cases hb : Nat.beq i j with
    | false => rfl
    | true =>
      have := Nat.eq_of_beq_eq_true hb
      subst this
      exact (h _ (List.mem_cons_self ..)).symm

@[simp] theorem writeAt_osl (r : Ref) (o n : Nat) (c : Option Nat) (y : AV) : writeAt [AV.osl r o n c] 0 0 [y] = some [y] := id rfl
@[simp] theorem writeAt_isl (z : Nat) (es : List AV) (c : Option Nat) (y : AV) : writeAt [AV.isl z es c] 0 0 [y] = some [y] := id rfl
@[simp] theorem writeAt_v (x : Value) (y : AV) : writeAt [AV.v x] 0 0 [y] = some [y] := id rfl

/-- Operations, each with its runes as they are handed over. -/
def encO (p : Opn × AV) : AV := .agg [a8 p.1.kind, a8 p.1.h.lv, a32 p.1.h.cats, a8 p.1.h.num, aI p.1.serial, a8 p.1.s.f.h.lv, a32 p.1.s.f.h.cats, a8 p.1.s.f.h.num, aI p.1.s.f.n, aI p.1.s.many,
  a8 p.1.a.h.lv, a32 p.1.a.h.cats, a8 p.1.a.h.num, aI p.1.a.n, a8 p.1.to.lv, a32 p.1.to.cats, p.2]
def encOs (l : List (Opn × AV)) : List AV := l.map encO
@[simp] theorem encOs_len (l : List (Opn × AV)) : (encOs l).length = l.length := by simp [encOs]
def okO (p : Opn × AV) : Prop := Sl 1 (rows p.1.l) p.2 ∧ p.1.l.length < 2000000
def opsOf (l : List (Opn × AV)) : List Opn := l.map (·.1)
theorem callRes_yld {E : Env} (dep : Nat) (H : Heap) (r q : Ref) (args : List AV) : callRes E true (limf E) (limt E dep) H r (some (.yld q)) args = limt E dep (.yld q) args H := by
  simp [callRes, qCall, nRes, orW, wCall]
theorem addL_len (out : List Lab) (t : Lab) : (addL out t).length ≤ out.length + 1 := by
  unfold addL; split
  · omega
  · simp
theorem madeF_len (s : List Opn) (i : Idd) (v : Lab) : ∀ out : List Lab, (madeF out s i v).length ≤ out.length + s.length := by
  induction s with
  | nil => intro out; simp [madeF]
  | cons o s ih =>
    intro out
    show (madeF (if raises o i v then addL out o.to else out) s i v).length ≤ _
    have h1 := ih (if raises o i v then addL out o.to else out)
    have h2 : (if raises o i v then addL out o.to else out).length ≤ out.length + 1 := by
      split
      · exact addL_len _ _
      · omega
    simp only [List.length_cons]
    omega

end Go.Ab
