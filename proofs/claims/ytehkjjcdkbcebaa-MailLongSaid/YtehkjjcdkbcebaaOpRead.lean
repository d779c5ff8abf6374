/-
  An operation's bytes, and what bytes tell. No statement of a seat is proved here.
-/
import Derived.Test.YtehkjjcdkbcebaaRdFns2
set_option linter.unusedVariables false
set_option linter.unusedSimpArgs false
set_option linter.unusedSectionVars false
set_option linter.unnecessarySimpa false
set_option maxRecDepth 100000
namespace Go.Proofs.Ytehkjjcdkbcebaa
open Go.Ab
theorem u8_eq {a b : Int} (h : a % 256 = b % 256) : u8 a = u8 b := by
  apply UInt8.toNat_inj.1
  have h1 := u8_int a
  have h2 := u8_int b
  omega
theorem wrap32 (n : Int) : ∃ j, IntKind.i32.wrap n = n + 4294967296 * j ∧ -2147483648 ≤ IntKind.i32.wrap n ∧ IntKind.i32.wrap n ≤ 2147483647 := by
  rw [IntKind.wrap_i32]
  exact ⟨-((n + 2147483648) / 4294967296), by omega, by omega, by omega⟩
def word (a b c d : UInt8) : Int := IntKind.i32.wrap (val [a, b, c, d])
def words : List UInt8 → List Int
  | a :: b :: c :: d :: l => word a b c d :: words l
  | _ => []
theorem be4_add (n j : Int) : be 4 (n + 4294967296 * j) = be 4 n := by
  rw [be_4, be_4, u8_eq (a := (n + 4294967296 * j) / 16777216) (b := n / 16777216) (by omega), u8_eq (a := (n + 4294967296 * j) / 65536) (b := n / 65536) (by omega),
    u8_eq (a := (n + 4294967296 * j) / 256) (b := n / 256) (by omega), u8_eq (a := n + 4294967296 * j) (b := n) (by omega)]
theorem be_word (a b c d : UInt8) : be 4 (word a b c d) = [a, b, c, d] := by
  obtain ⟨j, h, _⟩ := wrap32 (val [a, b, c, d])
  unfold word
  rw [h, be4_add]
  exact be_val' rfl
theorem four_ind {P : List UInt8 → Prop} (h0 : P []) (h4 : ∀ a b c d l, P l → P (a :: b :: c :: d :: l)) : ∀ (n : Nat) (l : List UInt8), l.length = 4 * n → P l := by
  intro n
  induction n with
  | zero => intro l h; obtain rfl : l = [] := List.length_eq_zero_iff.1 (by omega); exact h0
  | succ n ih =>
    intro l h
    match l, h with
    | a :: b :: c :: d :: l, h => exact h4 a b c d l (ih l (by simp only [List.length_cons] at h; omega))
theorem rBytes_words (n : Nat) (l : List UInt8) (h : l.length = 4 * n) : rBytes (words l) = l ∧ (words l).length = n := by
  constructor
  · exact four_ind (P := fun l => rBytes (words l) = l) rfl (fun a b c d l ih => by
      show be 4 (word a b c d) ++ rBytes (words l) = _
      rw [ih, be_word]; rfl) n l h
  · have := rBytes_len (words l)
    rw [four_ind (P := fun l => rBytes (words l) = l) rfl (fun a b c d l ih => by
      show be 4 (word a b c d) ++ rBytes (words l) = _
      rw [ih, be_word]; rfl) n l h] at this
    omega
theorem be4_of_u32 (l : List UInt8) (h : l.length = 4) : be 4 ((u32 (val l)).toNat : Int) = l := by
  have hb := val_bound l
  rw [h] at hb
  have e : ((u32 (val l)).toNat : Int) = val l := by
    rw [u32_toNat']; omega
  rw [e]
  exact be_val' h
theorem hBytes_hanOf {l : List UInt8} (h : l.length = 6) : hBytes (hanOf l) = l := by
  obtain ⟨a, b, c, d, e, f, rfl⟩ := six_of h
  have := be4_of_u32 [b, c, d, e] rfl
  simp [hanOf, hBytes, this]
theorem iBytes_iddOf {l : List UInt8} (h : l.length = 13) : iBytes (iddOf l) = l := by
  have e1 : hanOf l = hanOf (l.take 6) := by
    obtain ⟨a, b, c, d, e, f, g, i, j, k, m, n, o, rfl⟩ := thirteen_of h
    rfl
  unfold iBytes iddOf
  rw [e1, hBytes_hanOf (by simp; omega), be_val' (by simp; omega), List.take_append_drop]
theorem iddOf_zero {l : List UInt8} (h : l.length = 13) : zeroA (iddOf l) = decide (l = List.replicate 13 0) := by
  rw [Bool.eq_iff_iff, zeroA_iff, decide_eq_true_eq]
  constructor
  · intro e
    rw [← iBytes_iddOf h, e]
    rfl
  · rintro rfl; rfl
def opBytes (o : Opn) : List UInt8 := commonB o ++ (if o.kind = 1 then afterB o.a ++ rBytes o.l else if o.kind = 3 then o.to.lv :: be 4 o.to.cats.toNat else [])
def rawO (l : List UInt8) : Opn := ⟨l.headD 0, hanOf ((l.drop 1).take 6), val ((l.drop 7).take 3), ⟨iddOf ((l.drop 10).take 13), (((l.drop 23).headD 0).toNat : Int)⟩,
  if l.headD 0 = 1 then iddOf ((l.drop 24).take 13) else zeroI, if l.headD 0 = 3 then ⟨(l.drop 24).headD 0, u32 (val ((l.drop 25).take 4))⟩ else ⟨0, 0⟩,
  if l.headD 0 = 1 then words ((l.drop 37).take (4 * ((l.drop 23).headD 0).toNat)) else []⟩
def sizeO (k m : UInt8) : Nat := if k = 1 then 37 + 4 * m.toNat else if k = 3 then 29 else 24
def sizeR (l : List UInt8) : Nat := sizeO (l.headD 0) ((l.drop 23).headD 0)
def getOk (l : List UInt8) : Bool := decide (24 ≤ l.length) && (decide (sizeR l ≤ l.length) && opB (rawO l))
theorem split24 {l : List UInt8} (h : 24 ≤ l.length) : ∃ k hh ss ff m rest, l = k :: (hh ++ (ss ++ (ff ++ (m :: rest)))) ∧ hh.length = 6 ∧ ss.length = 3 ∧ ff.length = 13 := by
  match l, h with
  | k :: l, h =>
    simp only [List.length_cons] at h
    refine ⟨k, l.take 6, (l.drop 6).take 3, (l.drop 9).take 13, (l.drop 22).headD 0, l.drop 23, ?_, by simp; omega, by simp; omega, by simp; omega⟩
    have e1 : l.drop 22 = (l.drop 22).headD 0 :: l.drop 23 := by
      match hl : l.drop 22 with
      | [] => have := congrArg List.length hl; simp at this; omega
      | m :: t =>
        have : l.drop 23 = (l.drop 22).drop 1 := by rw [List.drop_drop]
        rw [this, hl]; rfl
    rw [← e1]
    have e2 : (l.drop 9).take 13 ++ l.drop 22 = l.drop 9 := by
      have : l.drop 22 = (l.drop 9).drop 13 := by rw [List.drop_drop]
      rw [this, List.take_append_drop]
    have e3 : (l.drop 6).take 3 ++ l.drop 9 = l.drop 6 := by
      have : l.drop 9 = (l.drop 6).drop 3 := by rw [List.drop_drop]
      rw [this, List.take_append_drop]
    rw [e2, e3, List.take_append_drop]
def partO (k : UInt8) (hh ss ff : List UInt8) (m : UInt8) (rest : List UInt8) : Opn := ⟨k, hanOf hh, val ss, ⟨iddOf ff, (m.toNat : Int)⟩,
  if k = 1 then iddOf (rest.take 13) else zeroI, if k = 3 then ⟨rest.headD 0, u32 (val ((rest.drop 1).take 4))⟩ else ⟨0, 0⟩,
  if k = 1 then words ((rest.drop 13).take (4 * m.toNat)) else []⟩
theorem raw_part (k : UInt8) (hh ss ff : List UInt8) (m : UInt8) (rest : List UInt8) (h6 : hh.length = 6) (h3 : ss.length = 3) (h13 : ff.length = 13) : rawO (k :: (hh ++ (ss ++ (ff ++ (m :: rest))))) = partO k hh ss ff m rest ∧ sizeR (k :: (hh ++ (ss ++ (ff ++ (m :: rest))))) = sizeO k m := by
  have d1 : (k :: (hh ++ (ss ++ (ff ++ (m :: rest))))).drop 1 = hh ++ (ss ++ (ff ++ (m :: rest))) := rfl
  have d7 : (k :: (hh ++ (ss ++ (ff ++ (m :: rest))))).drop 7 = ss ++ (ff ++ (m :: rest)) := by
    show (hh ++ (ss ++ (ff ++ (m :: rest)))).drop 6 = _
    exact List.drop_left' h6
  have d10 : (k :: (hh ++ (ss ++ (ff ++ (m :: rest))))).drop 10 = ff ++ (m :: rest) := by
    have : (k :: (hh ++ (ss ++ (ff ++ (m :: rest))))).drop 10 = ((k :: (hh ++ (ss ++ (ff ++ (m :: rest))))).drop 7).drop 3 := by rw [List.drop_drop]
    rw [this, d7]
    exact List.drop_left' h3
  have d23 : (k :: (hh ++ (ss ++ (ff ++ (m :: rest))))).drop 23 = m :: rest := by
    have : (k :: (hh ++ (ss ++ (ff ++ (m :: rest))))).drop 23 = ((k :: (hh ++ (ss ++ (ff ++ (m :: rest))))).drop 10).drop 13 := by rw [List.drop_drop]
    rw [this, d10]
    exact List.drop_left' h13
  have dn : ∀ j, (k :: (hh ++ (ss ++ (ff ++ (m :: rest))))).drop (24 + j) = rest.drop j := by
    intro j
    have : (k :: (hh ++ (ss ++ (ff ++ (m :: rest))))).drop (24 + j) = ((k :: (hh ++ (ss ++ (ff ++ (m :: rest))))).drop 23).drop (1 + j) := by rw [List.drop_drop]; congr 1; omega
    rw [this, d23, Nat.add_comm]
    rfl
  have d24 := dn 0
  have d25 := dn 1
  have d37 := dn 13
  simp only [Nat.add_zero, List.drop_zero, Nat.reduceAdd] at d24 d25 d37
  constructor
  · unfold rawO partO
    rw [d1, d7, d10, d23, d24, d25, d37, List.take_left' h6, List.take_left' h3, List.take_left' h13]
    rfl
  · unfold sizeR
    rw [d23]
    rfl
theorem be_3_val {ss : List UInt8} (h : ss.length = 3) : be 3 (val ss) = ss := be_val' h
theorem u8_toNat (m : UInt8) : u8 (m.toNat : Int) = m := by simp
theorem bytes_raw {l : List UInt8} (h : getOk l = true) : opBytes (rawO l) = l.take (sizeR l) ∧ opB (rawO l) = true ∧ sizeR l ≤ l.length ∧ 24 ≤ sizeR l := by
  simp only [getOk, Bool.and_eq_true, decide_eq_true_eq] at h
  obtain ⟨h24, hs, ho⟩ := h
  refine ⟨?_, ho, hs, by unfold sizeR sizeO; split <;> first | omega | (split <;> omega)⟩
  obtain ⟨k, hh, ss, ff, m, rest, rfl, h6, h3, h13⟩ := split24 h24
  obtain ⟨e1, e2⟩ := raw_part k hh ss ff m rest h6 h3 h13
  rw [e2] at hs ⊢
  rw [e1] at ho ⊢
  have hlen : (k :: (hh ++ (ss ++ (ff ++ (m :: rest))))).length = 24 + rest.length := by simp only [List.length_cons, List.length_append]; omega
  have hc : commonB (partO k hh ss ff m rest) = k :: (hh ++ (ss ++ (ff ++ [m]))) := by
    unfold commonB partO
    simp only [hBytes_hanOf h6, be_3_val h3, iBytes_iddOf h13, u8_toNat]
    rfl
  have htk : ∀ j, (k :: (hh ++ (ss ++ (ff ++ (m :: rest))))).take (24 + j) = (k :: (hh ++ (ss ++ (ff ++ [m])))) ++ rest.take j := by
    intro j
    have : k :: (hh ++ (ss ++ (ff ++ (m :: rest)))) = (k :: (hh ++ (ss ++ (ff ++ [m])))) ++ rest := by simp
    rw [this, List.take_append]
    have e : (k :: (hh ++ (ss ++ (ff ++ [m])))).length = 24 := by simp only [List.length_cons, List.length_append, List.length_nil]; omega
    rw [e, List.take_of_length_le (by omega)]
    congr 2; omega
  unfold opBytes
  rw [hc]
  have hk : (partO k hh ss ff m rest).kind = k := rfl
  rw [hk]
  rw [hlen] at hs
  by_cases k1 : k = 1
  · subst k1
    have hsz : sizeO 1 m = 24 + (13 + 4 * m.toNat) := by unfold sizeO; rw [if_pos rfl]; omega
    rw [hsz] at hs ⊢
    rw [htk, if_pos rfl]
    congr 1
    have ea : (partO 1 hh ss ff m rest).a = iddOf (rest.take 13) := rfl
    have el : (partO 1 hh ss ff m rest).l = words ((rest.drop 13).take (4 * m.toNat)) := rfl
    rw [ea, el, (rBytes_words m.toNat _ (by simp; omega)).1, List.take_add]
    congr 1
    unfold afterB
    rw [iddOf_zero (by simp; omega)]
    split
    · rename_i e; simp only [decide_eq_true_eq] at e; rw [e]
    · exact iBytes_iddOf (by simp; omega)
  · rw [if_neg k1]
    by_cases k3 : k = 3
    · subst k3
      have hsz : sizeO 3 m = 24 + 5 := by unfold sizeO; rfl
      rw [hsz] at hs ⊢
      rw [htk, if_pos rfl]
      congr 1
      match rest, hs with
      | t :: rest, hs =>
        simp only [List.length_cons] at hs
        have et : (partO 3 hh ss ff m (t :: rest)).to = ⟨t, u32 (val (rest.take 4))⟩ := rfl
        rw [et]
        simp only [be4_of_u32 _ (show (rest.take 4).length = 4 by simp; omega)]
        rfl
    · have hsz : sizeO k m = 24 + 0 := by unfold sizeO; rw [if_neg k1, if_neg k3]
      rw [hsz, htk, if_neg k3]
      simp
theorem commonB_len (o : Opn) : (commonB o).length = 24 := by simp [commonB]
theorem opB_parts {o : Opn} (h : opB o = true) : 1 ≤ o.serial ∧ o.serial < 16777216 ∧ (1 ≤ o.s.f.n ∧ o.s.f.n ≤ 1099511627776) ∧ 1 ≤ o.s.many ∧ o.s.many ≤ 64 ∧
    ((o.kind = 1 ∧ o.to = ⟨0, 0⟩ ∧ (o.a = zeroI ∨ (1 ≤ o.a.n ∧ o.a.n ≤ 1099511627776)) ∧ (o.l.length : Int) = o.s.many ∧ rowB o.l = true) ∨ (o.kind = 2 ∧ o.to = ⟨0, 0⟩ ∧ o.a = zeroI ∧ o.l = []) ∨ (o.kind = 3 ∧ o.a = zeroI ∧ o.l = [] ∧ o.to.lv ≤ 15)) := by
  simp only [opB, Bool.and_eq_true, decide_eq_true_eq] at h
  obtain ⟨hh, h1, h2, hs, hm⟩ := h
  have hn := spanB_n hs
  have hi := idB_n (spanB_id hs)
  refine ⟨h1, h2, hi, hn.2.1, hn.2.2.1, ?_⟩
  have hz : ∀ t : Lab, zeroL t = true → t = ⟨0, 0⟩ := by
    rintro ⟨a, b⟩ h; simp [zeroL] at h; rw [h.1, h.2]
  unfold mayB at hm
  split at hm
  · rename_i k1
    simp only [insB, Bool.and_eq_true, Bool.or_eq_true, decide_eq_true_eq] at hm
    refine .inl ⟨k1, hz _ hm.1, ?_, hm.2.2.2.1, hm.2.2.2.2⟩
    rcases hm.2.1 with e | e
    · exact .inl ((zeroA_iff _).1 e)
    · exact .inr (idB_n e)
  · split at hm
    · rename_i k2
      simp only [delB, bareB, Bool.and_eq_true, decide_eq_true_eq] at hm
      exact .inr (.inl ⟨k2, hz _ hm.1, (zeroA_iff _).1 hm.2.1, hm.2.2⟩)
    · split at hm
      · rename_i k3
        simp only [raiB, bareB, Bool.and_eq_true, decide_eq_true_eq] at hm
        exact .inr (.inr ⟨k3, (zeroA_iff _).1 hm.1.1, hm.1.2, hm.2⟩)
      · cases hm
def sizeK (o : Opn) : Nat := if o.kind = 1 then 37 + 4 * o.s.many.toNat else if o.kind = 3 then 29 else 24
theorem afterB_len (a : Idd) : (afterB a).length = 13 := by unfold afterB; split <;> simp
theorem opBytes_len {o : Opn} (h : opB o = true) : (opBytes o).length = sizeK o := by
  have hp := opB_parts h
  unfold opBytes sizeK
  rw [List.length_append, commonB_len]
  rcases hp.2.2.2.2.2 with ⟨k, _, _, hl, _⟩ | ⟨k, _⟩ | ⟨k, _⟩
  · rw [if_pos k, if_pos k, List.length_append, afterB_len, rBytes_len]; omega
  · rw [k]; rfl
  · rw [k]; simp
end Go.Proofs.Ytehkjjcdkbcebaa
