/-
  More rules for the conditions: slices, strings, calls that answer slices, small slices. No statement of a seat is proved here.
-/
import Derived.Test.YtjampffmlnplcaaAbsEq
import Derived.Laws.Strings
set_option linter.unusedVariables false
set_option linter.unusedSimpArgs false
namespace Go.Ab

/- ## Slicing -/
@[simp] theorem qSlice_nil {P : Program} {t : TypeId} (h : ((telem P t).bind (tsize P)).isSome = true) (g : Get) (lo hi mx : Option Int) :
    qSlice P g t (some aNil) (some lo) (some hi) (some mx) = (bounds 0 (some 0) lo hi mx).map fun _ => (aNil, []) := by
  simp only [qSlice, h, if_true]
@[simp] theorem qSlice_isl {P : Program} {t z : Nat} (h : (telem P t).bind (tsize P) = some z) (g : Get) (es : List AV) (c : Option Nat) (lo hi mx : Option Int) :
    qSlice P g t (some (.isl z es c)) (some lo) (some hi) (some mx) = (bounds es.length c lo hi mx).map fun (l, h, c) => (.isl z ((es.drop l).take (h - l)) c, []) := by
  simp only [qSlice, h, if_true]

/-- b[:n] -/
theorem slice_to {P : Program} {t z : Nat} (h : (telem P t).bind (tsize P) = some z) (g : Get) {es : List AV} {x : AV} (hx : Sl z es x) {n : Int} (h0 : 0 ≤ n) (hn : n ≤ es.length) :
    ∃ y, qSlice P g t (some x) (some none) (some (some n)) (some none) = some (y, []) ∧ Sl z (es.take n.toNat) y := by
  rcases hx with ⟨rfl, rfl⟩ | ⟨c, rfl, hcap⟩
  · refine ⟨aNil, ?_, .inl ⟨rfl, by simp⟩⟩
    rw [qSlice_nil (by rw [h]; rfl)]
    have : n = 0 := by simp at hn; omega
    subst this; rfl
  · refine ⟨.isl z (es.take n.toNat) (c.map (· - 0)), ?_, .inr ⟨_, rfl, by cases c with | none => simp | some k => simp at hcap ⊢; omega⟩⟩
    rw [qSlice_isl h]
    simp only [bounds, Option.getD_none, Option.getD_some, Int.le_refl, true_and, if_pos (show 0 ≤ n ∧ n ≤ es.length from ⟨h0, hn⟩), Option.map_some]
    simp
/-- b[n:] -/
theorem slice_from {P : Program} {t z : Nat} (h : (telem P t).bind (tsize P) = some z) (g : Get) {es : List AV} {x : AV} (hx : Sl z es x) {n : Int} (h0 : 0 ≤ n) (hn : n ≤ es.length) :
    ∃ y, qSlice P g t (some x) (some (some n)) (some none) (some none) = some (y, []) ∧ Sl z (es.drop n.toNat) y := by
  rcases hx with ⟨rfl, rfl⟩ | ⟨c, rfl, hcap⟩
  · refine ⟨aNil, ?_, .inl ⟨rfl, by simp⟩⟩
    rw [qSlice_nil (by rw [h]; rfl)]
    have : n = 0 := by simp at hn; omega
    subst this; rfl
  · refine ⟨.isl z (es.drop n.toNat) (c.map (· - n.toNat)), ?_, .inr ⟨_, rfl, by cases c with | none => simp | some k => simp at hcap ⊢; omega⟩⟩
    rw [qSlice_isl h]
    simp only [bounds, Option.getD_none, Option.getD_some, Int.le_refl, and_true, if_pos (show 0 ≤ n ∧ n ≤ es.length from ⟨h0, hn⟩), Option.map_some, Int.toNat_natCast]
    congr 3
    rw [List.take_of_length_le (by simp)]
/-- b[lo:hi] -/
theorem slice_mid {P : Program} {t z : Nat} (h : (telem P t).bind (tsize P) = some z) (g : Get) {es : List AV} {x : AV} (hx : Sl z es x) {lo hi : Int} (h0 : 0 ≤ lo) (h1 : lo ≤ hi) (hn : hi ≤ es.length) :
    ∃ y, qSlice P g t (some x) (some (some lo)) (some (some hi)) (some none) = some (y, []) ∧ Sl z ((es.drop lo.toNat).take (hi.toNat - lo.toNat)) y := by
  rcases hx with ⟨rfl, rfl⟩ | ⟨c, rfl, hcap⟩
  · refine ⟨aNil, ?_, .inl ⟨rfl, by simp⟩⟩
    rw [qSlice_nil (by rw [h]; rfl)]
    simp at hn
    have e1 : lo = 0 := by omega
    have e2 : hi = 0 := by omega
    subst e1; subst e2; rfl
  · refine ⟨.isl z ((es.drop lo.toNat).take (hi.toNat - lo.toNat)) (c.map (· - lo.toNat)), ?_, .inr ⟨_, rfl, by cases c with | none => simp | some k => simp at hcap ⊢; omega⟩⟩
    · rw [qSlice_isl h]
      simp only [bounds, Option.getD_none, Option.getD_some, if_pos (show 0 ≤ lo ∧ lo ≤ hi ∧ hi ≤ es.length from ⟨h0, h1, hn⟩), Option.map_some]
/-- b[:n:n] of what is not nil -/
theorem slice_full {P : Program} {t z : Nat} (h : (telem P t).bind (tsize P) = some z) (g : Get) {es : List AV} {c : Option Nat} {n : Int} (h0 : 0 ≤ n) (hn : n ≤ es.length) (hc : es.length ≤ c.getD es.length) :
    qSlice P g t (some (.isl z es c)) (some none) (some (some n)) (some (some n)) = some (.isl z (es.take n.toNat) (some n.toNat), []) := by
  rw [qSlice_isl h]
  simp only [bounds, Option.getD_none, if_pos (show 0 ≤ (0 : Int) ∧ 0 ≤ n ∧ n ≤ n ∧ n ≤ (c.getD es.length : Nat) ∧ n ≤ es.length from ⟨Int.le_refl _, h0, Int.le_refl _, by omega, hn⟩), Option.map_some]
  simp

/- ## Strings of bytes -/
def sB (l : List UInt8) : AV := aS ⟨l.toArray⟩
theorem bytes_of_by8 (l : List UInt8) : (by8 l).mapM byteOf = some l := by
  unfold by8
  induction l with
  | nil => rfl
  | cons b l ih =>
    simp only [List.map_cons, List.mapM_cons, ih, Option.pure_def, Option.bind_eq_bind]
    show (some (UInt8.ofNat ((b.toNat : Int)).toNat)).bind _ = _
    simp
theorem conv_str {P : Program} {src dst : TypeId} (h1 : isByteSlice P src = true) (h2 : isStr P dst = true) {g : Get} {r : Ref} {l : List UInt8} {x : AV} (hx : Els g 1 (by8 l) x) (hv : ∀ s, x ≠ .v (.string s)) :
    qConvert P g r src dst (some x) = some (sB l, []) := by
  rcases hx with ⟨rfl, hl⟩ | ⟨hn, hne, he⟩
  · have := congrArg List.length hl
    simp at this
    subst this
    simp only [qConvert, h1, h2, Bool.and_self, if_true]
    rfl
  · cases x with
    | v x =>
      exfalso
      cases x <;> first | (simp [elemsOf] at he; done) | skip
      exact hv _ rfl
    | _ =>
      simp only [qConvert, h1, h2, Bool.and_self, if_true, he, bytes_of_by8, Option.map_some]
      rfl
theorem Sl.notStr {z : Nat} {es : List AV} {x : AV} (h : Sl z es x) : ∀ s, x ≠ .v (.string s) := by
  rcases h with ⟨rfl, _⟩ | ⟨c, rfl, _⟩ <;> intro s e <;> cases e
theorem Own.notStr {z : Nat} {es : List AV} {H : Heap} {x : AV} (h : Own z es H x) : ∀ s, x ≠ .v (.string s) := by
  rcases h with ⟨rfl, _⟩ | ⟨r, rfl, _⟩ <;> intro s e <;> cases e
theorem Sl.conv {P : Program} {src dst : TypeId} {l : List UInt8} {x : AV} (hx : Sl 1 (by8 l) x) (h1 : isByteSlice P src = true) (h2 : isStr P dst = true) (g : Get) (r : Ref) : qConvert P g r src dst (some x) = some (sB l, []) :=
  conv_str h1 h2 (hx.els g) hx.notStr
theorem Own.conv {P : Program} {src dst : TypeId} {l : List UInt8} {H : Heap} {x : AV} (hx : Own 1 (by8 l) H x) (h1 : isByteSlice P src = true) (h2 : isStr P dst = true) (r : Ref) : qConvert P H.get r src dst (some x) = some (sB l, []) :=
  conv_str h1 h2 hx.els hx.notStr

theorem bytes_toList (l : List UInt8) : (⟨l.toArray⟩ : ByteArray).toList = l := by
  rw [ByteArray.toList_eq]
@[simp] theorem qBin_eql_sB (P : Program) (t : TypeId) (xo yo : Operand) (l m : List UInt8) : qBin P .eql t xo yo (some (sB l)) (some (sB m)) = some (aB (decide (l = m)), []) := by
  show some ((AV.v (.bool ((⟨l.toArray⟩ : ByteArray).toList == (⟨m.toArray⟩ : ByteArray).toList))), []) = _
  rw [bytes_toList, bytes_toList]
  congr 4
  by_cases h : l = m <;> simp [h]
@[simp] theorem qBin_neq_sB (P : Program) (t : TypeId) (xo yo : Operand) (l m : List UInt8) : qBin P .neq t xo yo (some (sB l)) (some (sB m)) = some (aB (!decide (l = m)), []) := by
  show some ((AV.v (.bool (!((⟨l.toArray⟩ : ByteArray).toList == (⟨m.toArray⟩ : ByteArray).toList)))), []) = _
  rw [bytes_toList, bytes_toList]
  congr 5
  by_cases h : l = m <;> simp [h]
theorem qBin_add_sB (P : Program) (t : TypeId) (xo yo : Operand) (l m : List UInt8) (h : l.length + m.length ≤ 9223372036854775807) : qBin P .add t xo yo (some (sB l)) (some (sB m)) = some (sB (l ++ m), []) := by
  have h1 : Op.stringOp .add ⟨l.toArray⟩ ⟨m.toArray⟩ = pure (.string (⟨l.toArray⟩ ++ ⟨m.toArray⟩)) := by
    unfold Op.stringOp
    rw [if_neg]
    show ¬ (((l.toArray.size + m.toArray.size : Nat) : Int) > IntKind.i64.max)
    rw [show IntKind.i64.max = 9223372036854775807 from rfl, List.size_toArray, List.size_toArray]
    omega
  have h2 : prBin P .add t xo yo (.string ⟨l.toArray⟩) (.string ⟨m.toArray⟩) = some (.string (⟨l.toArray⟩ ++ ⟨m.toArray⟩)) := by
    have : prBin P .add t xo yo (.string ⟨l.toArray⟩) (.string ⟨m.toArray⟩) = pureRun P (Op.stringOp .add ⟨l.toArray⟩ ⟨m.toArray⟩) := rfl
    rw [this, h1]; rfl
  have h3 : (⟨l.toArray⟩ : ByteArray) ++ ⟨m.toArray⟩ = ⟨(l ++ m).toArray⟩ := by
    apply ByteArray.ext
    rw [ByteArray.data_append]
    simp
  unfold sB
  simp only [qBin, isSl, nilSlice, toValue, h2, Bool.false_and, Bool.or_self, Bool.false_eq_true, if_false, Option.bind_some, ofScalar, scalar, if_true, qVal, Option.map_some, h3]

/- ## Small slices -/
theorem bs_plain {P : Program} {draw wk : Bool} {H : Heap} {r : Ref} {t z by' n : Nat} {ps : List (Nat × AV)} {zz : AV} (hT : elT P t z by' = true) (hsz : n * z ≤ 16777216) (hv : viewParts H.get ps = some ps) (hrf : refsAll H.get (ps.map (·.2)) = [])
    (hc : ps.all (fun p => p.2.cells.length == z && p.2.cells.all AV.one) = true) (hz : (telem P t).bind (tzero P) = some zz) {es : List AV} (hf : fillSlice (List.replicate n zz) ps = some es) :
    bsRes P draw wk H r t n (some ps) = if draw then some (.isl z es (some n), H) else some (.osl r 0 n (some n), ({ r with k := 0 }, some ⟨z, es, true, false⟩) :: H) := by
  obtain ⟨e, zz', h1, h2, h3, h4, h5, h6, h7, h8⟩ := elT_some hT
  rw [h1] at hz
  simp only [Option.bind_some, h4, Option.some.injEq] at hz
  subst hz
  have hmk : mkSlice P H.get t n ps = some ⟨z, es, true, false⟩ := by
    simp only [mkSlice, h1, hv, h4, h2]
    rw [if_pos ⟨Nat.pos_of_ne_zero h7, hsz, h5, h6, by simpa using hc⟩, hf]
    rfl
  have hq : qBuildSlice P draw H.get r t n (some ps) = if draw then some (.isl z es (some n), []) else some (.osl r 0 n (some n), [⟨z, es, true, false⟩]) := by
    simp only [qBuildSlice, hrf, allFrz, List.all_nil, if_true, hmk, Option.map_some]
    cases draw <;> rfl
  unfold bsRes
  rw [hq]
  cases draw <;> rfl

/- ## Calls -/
/-- A call that answers data which stands in memory that nobody writes. -/
theorem doW_callF {E : Env} {wk : Bool} {dep : Nat} {H : Heap} {r : Ref} {f : FuncId} {first captured args xs : List AV} {y : AV} {K : AV → Heap → Prop} {m : Mk K}
    (hm : (E.mode f == 2) = false) (hv : (first ++ args ++ captured).mapM (view H.get depth) = some xs) (hy : limf E f xs = some y) (hr : allFrz H.get (refsAll H.get (first ++ args ++ captured)) = true) (hi : ∀ r, importA r depth y [] = (y, [])) (h : K y H) :
    doW (callRes E wk (limf E) (limt E dep) H r (some (.fn (.func f) first captured)) args) K m := by
  refine doW_of (v := y) (H := H) ?_ h
  have hm' : E.mode f ≠ 2 := by simpa using hm
  simp only [callRes, qCall, if_neg hm', hv, hy, hr, Bool.or_true, if_true]
  rw [hi r]
  rfl

/-- A whole block, seen. -/
theorem view_full {g : Get} {r : Ref} {z : Nat} {es : List AV} {fz : Bool} (hr : g r = some ⟨z, es, true, fz⟩) {n : Nat} (hn : n = es.length) (k : Nat) (c : Option Nat) : view g (k + 1) (.osl r 0 n c) = some (.isl z es c) := by
  subst hn
  rw [view_osl hr, if_pos ⟨rfl, by simp⟩, List.drop_zero, List.take_length]
theorem Own.viewL {z : Nat} {es : List AV} {H : Heap} {x : AV} (h : Own z es H x) : ∃ y, Ab.view H.get depth x = some y ∧ Sl z es y := by
  rw [depth_eq]; exact h.view 7
theorem by8_append (l m : List UInt8) : by8 l ++ by8 m = by8 (l ++ m) := by simp [by8]
theorem by8_take (l : List UInt8) (n : Nat) : (by8 l).take n = by8 (l.take n) := by simp [by8]
theorem by8_drop (l : List UInt8) (n : Nat) : (by8 l).drop n = by8 (l.drop n) := by simp [by8]
theorem isl_els (z : Nat) (es : List AV) (c : Option Nat) (g : Get) : Els g z es (.isl z es c) := .inr ⟨rfl, (by intro e; cases e), rfl⟩

/-- An append to a slice without room. -/
theorem app_full {P : Program} {t t' z by' k : Nat} (hT : elT P t z by' = true) (hA : apT P t' = true) {wk : Bool} {H : Heap} {r : Ref} {es new : List AV} {x : AV} (hx : Els H.get z new x) (hn : new ≠ []) (hk : k < es.length + new.length)
    (hb : (es.length + new.length) * by' ≤ roomB) :
    appRes P wk H r (some t) (some t') (.isl z es (some k)) x = some (.osl r 0 (es.length + new.length) none, ({ r with k := 0 }, some ⟨z, es ++ new, true, false⟩) :: H) := by
  obtain ⟨e, zz, h1, h2, h3, h4, h5, h6, h7, h8⟩ := elT_some hT
  have hnew := hx.newOf hT h1
  unfold apT at hA
  simp only [Bool.and_eq_true, Bool.not_eq_true'] at hA
  have hun : (P.underlying t').isNone = false := by cases h : P.underlying t' with | none => rw [h] at hA; simp at hA | some d => rfl
  have hc : ¬ ((P.underlying t').isNone = true ∨ isInt P t' ≠ isNum x) := by
    rw [hun, hA.2, hx.num]; simp
  have hd : ¬ (z ≠ z ∨ z = 0 ∨ by' = 0 ∨ zz.cells.length ≠ z) := by simp [h5, h7, h8]
  simp only [appRes, qAppend, Option.bind_some, h1, Option.map_some, Option.getD_some, if_neg hc, h2, h3, h4, hnew, if_neg hd, if_neg (show ¬ (z ≠ z) by simp), if_neg hn, if_pos (show k < es.length + new.length ∧ (es.length + new.length) * by' ≤ roomB from ⟨hk, hb⟩)]
  rfl

/-- An append to a slice that only the function knows, the place told. -/
theorem app_ownN {P : Program} {t t' z by' : Nat} (hT : elT P t z by' = true) (hA : apT P t' = true) (H : Heap) (d tt : Nat) {es new : List AV} {s x : AV} (hs : Own z es H s) (hx : Els H.get z new x)
    (hb : (es.length + new.length) * by' ≤ roomB) (hF : Fr H) :
    ∃ s' H', appRes P true H ⟨d, tt, H.gen d tt, 0⟩ (some t) (some t') s x = some (s', H') ∧ Own z (es ++ new) H' s' ∧ Fr H' ∧ ∀ q b, H.get q = some b → s.at? ≠ some q → H'.get q = some b ∧ s'.at? ≠ some q :=
  app_own hT hA hs hx hb hF ⟨d, tt, rfl⟩
/-- What stood elsewhere stands. -/
theorem Own.keep {z : Nat} {es : List AV} {H H' : Heap} {x s s' : AV} (h : Own z es H x) (hp : ∀ q b, H.get q = some b → s.at? ≠ some q → H'.get q = some b ∧ s'.at? ≠ some q) (hne : ∀ q, x.at? = some q → s.at? ≠ some q) : Own z es H' x ∧ ∀ q, x.at? = some q → s'.at? ≠ some q := by
  rcases h with ⟨rfl, rfl⟩ | ⟨r, rfl, hr⟩
  · exact ⟨own_nil z H', fun q hq => by simp [AV.at?] at hq⟩
  · obtain ⟨h1, h2⟩ := hp r _ hr (hne r rfl)
    exact ⟨.inr ⟨r, rfl, h1⟩, fun q hq => by simp only [AV.at?, Option.some.injEq] at hq; subst hq; exact h2⟩

/- ## Words: division; bools -/
@[simp] theorem qBin_rem32 (P : Program) (t : TypeId) (xo yo : Operand) (x y : UInt32) (hy : y ≠ 0) : qBin P .rem t xo yo (some (a32 x)) (some (a32 y)) = some (a32 (x % y), []) := by
  have hn : (y.toNat : Int) ≠ 0 := by intro e; apply hy; apply UInt32.toNat_inj.1; have : y.toNat = 0 := by omega
                                      exact this
  unfold a32
  rw [qBin_rem P t xo yo .u32 _ _ hn]
  congr 5
@[simp] theorem qBin_quo32 (P : Program) (t : TypeId) (xo yo : Operand) (x y : UInt32) (hy : y ≠ 0) : qBin P .quo t xo yo (some (a32 x)) (some (a32 y)) = some (a32 (x / y), []) := by
  have hn : (y.toNat : Int) ≠ 0 := by intro e; apply hy; apply UInt32.toNat_inj.1; have : y.toNat = 0 := by omega
                                      exact this
  unfold a32
  rw [qBin_quo P t xo yo .u32 _ _ hn, show (x.toNat : Int).tdiv y.toNat = ((x / y).toNat : Int) from by rw [UInt32.toNat_div]; rfl, wrap32', u32_nat]

theorem isBool_und {P : Program} {t : TypeId} (h : isBool P t = true) : P.underlying t = some .bool := by
  unfold isBool at h
  split at h
  · assumption
  · cases h
theorem pr_equal_bool {P : Program} {t : TypeId} (h : isBool P t = true) (d : Nat) (a b : Bool) : pureRun P (Op.equalIn (d + 1) t (.bool a) (.bool b)) = some (a == b) := by
  simp only [Op.equalIn, pureRun_bind, pureRun_und (isBool_und h), Option.bind_some]
  rfl
theorem prBin_bool {P : Program} {t : TypeId} (h : isBool P t = true) (op : BinOp) (ho : op = .eql ∨ op = .neq) (xo yo : Operand) (a b : Bool) :
    prBin P op t xo yo (.bool a) (.bool b) = some (.bool (if op = .eql then a == b else !(a == b))) := by
  have he : pureRun P (Op.equal t (.bool a) (.bool b)) = some (a == b) := pr_equal_bool h 9999 a b
  unfold prBin
  rcases ho with rfl | rfl
  · have : pureRun P (eqGuard .eql t xo yo (.bool a) (.bool b)) = some () := rfl
    rw [pureRun_bind, this, Option.bind_some]
    show pureRun P (do pure (Value.bool (← Op.equal t (.bool a) (.bool b)))) = _
    rw [pureRun_bind, he]; rfl
  · have : pureRun P (eqGuard .neq t xo yo (.bool a) (.bool b)) = some () := rfl
    rw [pureRun_bind, this, Option.bind_some]
    show pureRun P (do pure (Value.bool (!(← Op.equal t (.bool a) (.bool b))))) = _
    rw [pureRun_bind, he]; rfl
@[simp] theorem qBin_eql_bool {P : Program} {t : TypeId} (h : isBool P t = true) (xo yo : Operand) (a b : Bool) : qBin P .eql t xo yo (some (aB a)) (some (aB b)) = some (aB (a == b), []) := by
  simp only [qBin, isSl, nilSlice, toValue, prBin_bool h .eql (.inl rfl), Bool.false_and, Bool.or_self, Bool.false_eq_true, if_false, Option.bind_some, ofScalar, scalar, if_true, qVal, Option.map_some]
@[simp] theorem qBin_neq_bool {P : Program} {t : TypeId} (h : isBool P t = true) (xo yo : Operand) (a b : Bool) : qBin P .neq t xo yo (some (aB a)) (some (aB b)) = some (aB (!(a == b)), []) := by
  have := prBin_bool h .neq (.inr rfl) xo yo a b
  rw [if_neg (by intro e; cases e)] at this
  simp only [qBin, isSl, nilSlice, toValue, this, Bool.false_and, Bool.or_self, Bool.false_eq_true, if_false, Option.bind_some, ofScalar, scalar, if_true, qVal, Option.map_some]

/- ## min, max; numbers that are not below nought -/
@[simp] theorem q_min2 (P : Program) (d : Bool) (g : Get) (r : Ref) (ts : Array TypeId) (k : IntKind) (a b : Int) : qBuiltin P d g r .min ts [.v (.int k a), .v (.int k b)] = some (.v (.int k (if b < a then b else a)), []) := id rfl
@[simp] theorem q_min3 (P : Program) (d : Bool) (g : Get) (r : Ref) (ts : Array TypeId) (k : IntKind) (a b c : Int) :
    qBuiltin P d g r .min ts [.v (.int k a), .v (.int k b), .v (.int k c)] = some (.v (.int k (if c < (if b < a then b else a) then c else if b < a then b else a)), []) := rfl
@[simp] theorem q_max2 (P : Program) (d : Bool) (g : Get) (r : Ref) (ts : Array TypeId) (k : IntKind) (a b : Int) : qBuiltin P d g r .max ts [.v (.int k a), .v (.int k b)] = some (.v (.int k (if b > a then b else a)), []) := id rfl

theorem i64_nat (n : Nat) (h : n < 9223372036854775808) : IntKind.i64.wrap (n : Int) = n := IntWalk.i64_in _ (by omega)
theorem qBin_xor_i (P : Program) (t : TypeId) (xo yo : Operand) (a b : Nat) (ha : a < 9223372036854775808) (hb : b < 9223372036854775808) :
    qBin P .xor t xo yo (some (aI a)) (some (aI b)) = some (aI ((a ^^^ b : Nat) : Int), []) := by
  show some ((AV.v (.int .i64 (IntKind.i64.wrap ((BitVec.ofInt 64 (a : Int) ^^^ BitVec.ofInt 64 (b : Int)).toNat : Int)))), []) = _
  have e : (BitVec.ofInt 64 (a : Int) ^^^ BitVec.ofInt 64 (b : Int)).toNat = a ^^^ b := by
    rw [BitVec.toNat_xor, BitVec.toNat_ofInt, BitVec.toNat_ofInt]
    congr 1 <;> omega
  rw [e, i64_nat _ (Nat.xor_lt_two_pow (n := 63) ha hb)]
theorem qBin_quo_i (P : Program) (t : TypeId) (xo yo : Operand) (a b : Nat) (ha : a < 9223372036854775808) (hb : 0 < b) :
    qBin P .quo t xo yo (some (aI a)) (some (aI b)) = some (aI ((a / b : Nat) : Int), []) := by
  rw [qBin_quo P t xo yo .i64 _ _ (by omega)]
  have : (a : Int).tdiv b = ((a / b : Nat) : Int) := rfl
  rw [this, i64_nat _ (Nat.lt_of_le_of_lt (Nat.div_le_self a b) ha)]
theorem qBin_rem_i (P : Program) (t : TypeId) (xo yo : Operand) (a b : Nat) (hb : 0 < b) :
    qBin P .rem t xo yo (some (aI a)) (some (aI b)) = some (aI ((a % b : Nat) : Int), []) := by
  rw [qBin_rem P t xo yo .i64 _ _ (by omega)]
  rfl

/-- A new slice. -/
theorem qMake_of {P : Program} {r : Ref} {t z by' : Nat} {zz : AV} (hT : elT P t z by' = true) (hz : (telem P t).bind (tzero P) = some zz) {n : Nat} (hn : n * by' ≤ roomB) (hn2 : n < 9223372036854775808) :
    qMake P r t (some (aI n)) (some (aI n)) = some (.osl r 0 n none, [⟨z, List.replicate n zz, true, false⟩]) := by
  obtain ⟨e, zz', h1, h2, h3, h4, h5, h6, h7, h8⟩ := elT_some hT
  rw [h1] at hz
  simp only [Option.bind_some, h4, Option.some.injEq] at hz
  subst hz
  simp only [qMake, h1, Option.bind_some, intOf, h4, h2, h3]
  have : ((n : Int) * (by' : Int)) ≤ (roomB : Int) := by exact_mod_cast hn
  rw [if_pos ⟨by omega, Int.le_refl _, this, by omega, Nat.pos_of_ne_zero h7, h5, h6⟩, Int.toNat_natCast]

/- ## Own slices, beside new blocks; parts of them -/
theorem Own.cons {z : Nat} {es : List AV} {H : Heap} {x : AV} (h : Own z es H x) (hF : Fr H) (d t : Nat) (b : Option Blk) : Own z es ((⟨d, t, H.gen d t, 0⟩, b) :: H) x := by
  rcases h with ⟨rfl, rfl⟩ | ⟨r, rfl, hr⟩
  · exact own_nil z _
  · refine .inr ⟨r, rfl, ?_⟩
    rw [Heap.get_cons, if_neg (live_ne hF (by rw [hr]; rfl) d t 0)]
    exact hr
theorem osl_els {H : Heap} {r : Ref} {z n : Nat} {es : List AV} {fz : Bool} (hr : H.get r = some ⟨z, es, true, fz⟩) (hn : n = es.length) (c : Option Nat) : Els H.get z es (.osl r 0 n c) := by
  subst hn
  refine .inr ⟨rfl, (by intro e; cases e), ?_⟩
  simp [elemsOf, hr]
/-- x[:n] of own elements -/
theorem Own.slice_to {P : Program} {t z : Nat} (h : (telem P t).bind (tsize P) = some z) {H : Heap} {es : List AV} {x : AV} (hx : Own z es H x) {n : Nat} (hn : n ≤ es.length) :
    ∃ y y', qSlice P H.get t (some x) (some none) (some (some (n : Int))) (some none) = some (y, []) ∧ Ab.view H.get depth y = some y' ∧ Sl z (es.take n) y' := by
  rcases hx with ⟨rfl, rfl⟩ | ⟨r, rfl, hr⟩
  · refine ⟨aNil, aNil, ?_, rfl, .inl ⟨rfl, by simp⟩⟩
    rw [qSlice_nil (by rw [h]; rfl)]
    have : n = 0 := by simpa using hn
    subst this; rfl
  · refine ⟨.osl r 0 n none, .isl z (es.take n) none, ?_, ?_, Sl.mk z _⟩
    · simp only [qSlice, hr, h, if_true, bounds, Option.getD_none, Option.getD_some, Int.le_refl, true_and]
      rw [if_pos ⟨by omega, by omega⟩]
      simp
    · rw [depth_eq, view_osl hr, if_pos ⟨rfl, by simpa using hn⟩, List.drop_zero]

end Go.Ab
