/-
  The document's answers on bytes: operations. No statement of a seat is proved here.
-/
import Derived.Test.YtehkjjcdkbcebaaRfGet
import Derived.Test.YtehkjjcdkbcebaaOpGetK
set_option linter.unusedVariables false
set_option linter.unusedSimpArgs false
set_option linter.unnecessarySimpa false
set_option maxRecDepth 100000
namespace Go.Proofs.Ytehkjjcdkbcebaa
open Go.Ab
attribute [local simp] depth_eq callRes_V callG_data callG_frz callG_own keep thr appRes_G appFine_n appFine_s appG_n appG_s roomB appRes_I islFine_some islG_ne List.take_of_length_le sB_lit

theorem s_R4Get {bs : List UInt8} {x : AV} (hx : Sl 1 (by8 bs) x) {m : Nat} (hm : bs.length = 4 * m) (hm64 : m ≤ 64) :
    limf env 69 [x] = some (if (words bs).all runeB then .tup [runG (words bs), aI 0] else .tup [aNil, aI 8]) := by
  refine limf_of (fn := Try.f69) (c := bd_q4_Get) rfl (by kernel_rfl) (by kernel_rfl) (by kernel_rfl) (by kernel_rfl) ?_; refine vc_q4_Get _ _ _ fun g => ?_
  have hr := hx.r
  have e1 : ¬ ((256 : Int) < 4 * m) := by omega
  obtain ⟨ans, hans⟩ : ∃ ans, ans = (if (words bs).all runeB then AV.tup [runG (words bs), aI 0] else AV.tup [aNil, aI 8]) := ⟨_, rfl⟩
  rw [← hans]
  have hloop := fun H Q => r4get_loop hx (by omega) (by omega) (H := H) (Q := Q) m 0 bs 0 [] aNil rfl hm (by omega) rfl (by simp)
  have hfin : ∀ y H', (words bs).all runeB = true → OwnAt [50, 57] 1 (rows ([] ++ words bs)) H' y → ([] ++ words bs = [] → y = aNil) → view H'.get 8 (.tup [y, aI 0]) = some ans := by
    intro y H' hb ho hnil
    rw [List.nil_append] at ho hnil
    rw [hans, if_pos hb]
    rcases ho with ⟨rfl, hz⟩ | ⟨t, gg, ht, rfl, hr⟩
    · have : words bs = [] := by simpa using hz
      rw [this]; rfl
    · have hne : words bs ≠ [] := fun e => by cases hnil e
      have hz : runG (words bs) = .isl 1 (rows (words bs)) none := by unfold runG; rw [if_neg hne]
      rw [hz]
      generalize words bs = ws at *
      simp [hr]
  have hfin2 : (words bs).all runeB = false → ∀ H' : Heap, view H'.get 8 (.tup [aNil, aI 8]) = some ans := by
    intro hb H'
    rw [hans, if_neg (by rw [hb]; decide)]
    simp
  clear hans
  simp [new_ne, ne_new, new_ne1, ne_new1, gen_put', *, VC_q4_Get]
  exact hloop _ _ Fr.nil (.inl ⟨rfl, rfl⟩) (fun _ => rfl) hfin hfin2
theorem three_w (a b c : UInt8) : IntKind.i64.wrap (65536 * (a.toNat : Int)) = 65536 * (a.toNat : Int) ∧ IntKind.i64.wrap (256 * (b.toNat : Int)) = 256 * (b.toNat : Int) ∧
    IntKind.i64.wrap (65536 * (a.toNat : Int) + 256 * (b.toNat : Int)) = 65536 * (a.toNat : Int) + 256 * (b.toNat : Int) ∧
    65536 * (a.toNat : Int) + 256 * (b.toNat : Int) + (c.toNat : Int) = val [a, b, c] ∧ IntKind.i64.wrap (val [a, b, c]) = val [a, b, c] := by
  have qa := a.toNat_lt
  have qb := b.toNat_lt
  have qc := c.toNat_lt
  have eV : 65536 * (a.toNat : Int) + 256 * (b.toNat : Int) + (c.toNat : Int) = val [a, b, c] := by simp [val, valF]; omega
  exact ⟨IntWalk.i64_in _ (by omega), IntWalk.i64_in _ (by omega), IntWalk.i64_in _ (by omega), eV, IntWalk.i64_in _ (by omega)⟩
theorem sizeA_of {k m : UInt8} (h : sizeA k (m.toNat : Int) ≠ 0) : sizeA k (m.toNat : Int) = (sizeO k m : Int) ∧ 1 ≤ m.toNat ∧ m.toNat ≤ 64 ∧ (k = 1 ∨ k = 2 ∨ k = 3) := by
  unfold sizeA at h ⊢
  unfold sizeO
  split at h
  · exact absurd rfl h
  · rename_i h1
    rw [if_neg h1]
    split at h
    · exact absurd rfl h
    · rename_i h2
      rw [if_neg h2]
      split at h
      · rename_i k1
        rw [if_pos k1, if_pos k1]
        exact ⟨by omega, by omega, by omega, .inl k1⟩
      · rename_i k1
        rw [if_neg k1, if_neg k1]
        split at h
        · rename_i k2
          rw [if_pos k2, if_neg (by rw [k2]; decide)]
          exact ⟨rfl, by omega, by omega, .inr (.inl k2)⟩
        · rename_i k2
          rw [if_neg k2]
          split at h
          · rename_i k3
            rw [if_pos k3, if_pos k3]
            exact ⟨rfl, by omega, by omega, .inr (.inr k3)⟩
          · exact absurd rfl h
theorem sizeA_ok {k m : UInt8} (h1 : 1 ≤ m.toNat) (h2 : m.toNat ≤ 64) (hk : k = 1 ∨ k = 2 ∨ k = 3) : sizeA k (m.toNat : Int) ≠ 0 := by
  unfold sizeA
  rw [if_neg (by omega), if_neg (by omega)]
  rcases hk with rfl | rfl | rfl
  · rw [if_pos rfl]; omega
  · rw [if_neg (by decide), if_pos rfl]; omega
  · rw [if_neg (by decide), if_neg (by decide), if_pos rfl]; omega
/-- What the document's answer tells. -/
def getAnsR (l : List UInt8) : AV := if getOk l then .tup [.agg (opnV (rawO l) ++ [runG (rawO l).l]), aI (sizeR l), aI 0] else getZ
theorem s_R9Get {l : List UInt8} {x : AV} (hx : Sl 1 (by8 l) x) (hl : l.length < 1000000) : limf env 25 [x] = some (getAnsR l) := by
  refine limf_of (fn := Try.f25) (c := bd_q9_Get) rfl (by kernel_rfl) (by kernel_rfl) (by kernel_rfl) (by kernel_rfl) ?_; refine vc_q9_Get _ _ _ fun g => ?_
  have hr := hx.r
  by_cases h24 : (l.length : Int) < 24
  · have hans : getAnsR l = getZ := by
      unfold getAnsR; rw [if_neg]; intro h; simp only [getOk, Bool.and_eq_true, decide_eq_true_eq] at h; omega
    unfold getZ at hans
    simp [new_ne, ne_new, new_ne1, ne_new1, gen_put', *, VC_q9_Get]
  · obtain ⟨cp, rfl, hc⟩ := sl_isl hx (by simp; omega)
    have h24n : 24 ≤ l.length := by omega
    obtain ⟨k, hh, ss, ff, m, rest, hl0, h6, h3, h13⟩ := split24 h24n
    obtain ⟨e1, e2⟩ := raw_part k hh ss ff m rest h6 h3 h13
    rw [← hl0] at e1 e2
    obtain ⟨s1, s2, s3, rfl⟩ : ∃ a b c, ss = [a, b, c] := by
      match ss, h3 with
      | [a, b, c], _ => exact ⟨a, b, c, rfl⟩
    have hlr : l.length = 24 + rest.length := by rw [hl0]; simp; omega
    have hrest : rest.length = l.length - 24 := by omega
    clear hlr
    have d1 : l.drop 1 = hh ++ ([s1, s2, s3] ++ (ff ++ (m :: rest))) := by rw [hl0]; rfl
    have d7 : l.drop 7 = [s1, s2, s3] ++ (ff ++ (m :: rest)) := by
      have : l.drop 7 = (l.drop 1).drop 6 := by rw [List.drop_drop]
      rw [this, d1]; exact List.drop_left' h6
    have d10 : l.drop 10 = ff ++ (m :: rest) := by
      have : l.drop 10 = (l.drop 7).drop 3 := by rw [List.drop_drop]
      rw [this, d7]; rfl
    have d23 : l.drop 23 = m :: rest := by
      have : l.drop 23 = (l.drop 10).drop 13 := by rw [List.drop_drop]
      rw [this, d10]; exact List.drop_left' h13
    have d24 : l.drop 24 = rest := by
      have : l.drop 24 = (l.drop 23).drop 1 := by rw [List.drop_drop]
      rw [this, d23]; rfl
    have gd : ∀ a j, (l.drop a)[j]? = l[a + j]? := fun a j => List.getElem?_drop
    have g0 : l[0]? = some k := by rw [hl0]; rfl
    have g7 : l[7]? = some s1 := by rw [← gd 7 0, d7]; rfl
    have g8 : l[8]? = some s2 := by rw [← gd 7 1, d7]; rfl
    have g9 : l[9]? = some s3 := by rw [← gd 7 2, d7]; rfl
    have g23 : l[23]? = some m := by rw [← gd 23 0, d23]; rfl
    have by8d : ∀ a, (by8 l).drop a = by8 (l.drop a) := fun a => by simp [by8]
    have by8t : ∀ a (q : List UInt8), (by8 q).take a = by8 (q.take a) := fun a q => by simp [by8]
    have t1 : List.take 6 (List.drop 1 (by8 l)) = by8 hh := by rw [by8d, by8t, d1, List.take_left' h6]
    rw [List.drop_one] at t1
    have t2 : List.take 13 (List.drop 10 (by8 l)) = by8 ff := by rw [by8d, by8t, d10, List.take_left' h13]
    have t3 : List.take 13 (List.drop 24 (by8 l)) = by8 (rest.take 13) := by rw [by8d, by8t, d24]
    have t4 : ∀ n, List.take n (List.drop 37 (by8 l)) = by8 ((rest.drop 13).take n) := fun n => by
      have : l.drop 37 = (l.drop 24).drop 13 := by rw [List.drop_drop]
      rw [by8d, by8t, this, d24]
    have t5 : List.take 5 (List.drop 24 (by8 l)) = by8 (rest.take 5) := by rw [by8d, by8t, d24]
    have hH := fun c hc => s_R9handle (v := .isl 1 (by8 hh) c) (l := hh) (.inr ⟨c, rfl, hc⟩) h6
    have hI := fun c hc => s_R9id (v := .isl 1 (by8 ff) c) (l := ff) (.inr ⟨c, rfl, hc⟩) h13
    have hS := s_R9Size k (m.toNat : Int)
    have qm := m.toNat_lt
    have wm := IntWalk.i64_in (m.toNat : Int) (by omega)
    obtain ⟨v1, v2, v3, eV, v4⟩ := three_w s1 s2 s3
    have hcap : ∀ a n, a + n ≤ (by8 l).length → n ≤ (cp.map (· - a)).getD n := by
      intro a n h
      cases cp with
      | none => simp
      | some c => simp at hc ⊢; simp at h; omega
    have hlb : (by8 l).length = l.length := by simp
    have p0 : 0 < l.length := by omega
    have g0' : ∀ h : 0 < l.length, l[0]'h = k := fun h => by have := g0; rw [List.getElem?_eq_getElem h] at this; exact Option.some.inj this
    have l0 : (0 : Int) < l.length ∧ (7 : Int) < l.length ∧ (8 : Int) < l.length ∧ (9 : Int) < l.length ∧ (23 : Int) < l.length ∧ (7 : Int) ≤ l.length ∧ (23 : Int) ≤ l.length := by omega
    have hkind : (rawO l).kind = k := by rw [e1]; rfl
    have hmany : (rawO l).s.many = m.toNat := by rw [e1]; rfl
    by_cases hz : sizeA k (m.toNat : Int) = 0
    · have hans : getAnsR l = getZ := by
        unfold getAnsR; rw [if_neg]; intro h
        simp only [getOk, Bool.and_eq_true, decide_eq_true_eq] at h
        have hp := opB_parts h.2.2
        rw [hkind, hmany] at hp
        refine sizeA_ok (k := k) (m := m) (by omega) (by omega) ?_ hz
        rcases hp.2.2.2.2.2 with ⟨h, _⟩ | ⟨h, _⟩ | ⟨h, _⟩
        · exact .inl h
        · exact .inr (.inl h)
        · exact .inr (.inr h)
      rw [hz] at hS
      unfold getZ at hans
      clear hH hI t1 t2 t3 t4 t5 d1 d7 d10 d23 d24 e1 e2 hl0 gd by8d by8t hcap hkind hmany hz
      simp [new_ne, ne_new, new_ne1, ne_new1, gen_put', *, VC_q9_Get]
    · obtain ⟨z1, z2, z3, z4⟩ := sizeA_of hz
      have hz0 : ¬ (sizeO k m = 0) := fun e => hz (by rw [z1, e]; rfl)
      rw [z1] at hS
      by_cases hlt : l.length < sizeO k m
      · have hans : getAnsR l = getZ := by
          unfold getAnsR; rw [if_neg]; intro h
          simp only [getOk, Bool.and_eq_true, decide_eq_true_eq] at h
          rw [e2] at h
          omega
        have hlt' : (l.length : Int) < (sizeO k m : Int) := by omega
        unfold getZ at hans
        clear hH hI t1 t2 t3 t4 t5 d1 d7 d10 d23 d24 e1 e2 hl0 gd by8d by8t hcap hkind hmany hz z1
        simp [new_ne, ne_new, new_ne1, ne_new1, gen_put', *, VC_q9_Get]
      · have hlt' : ¬ (l.length : Int) < (sizeO k m : Int) := by omega
        have hans : getAnsR l = if opB (rawO l) then .tup [.agg (opnV (rawO l) ++ [runG (rawO l).l]), aI (sizeO k m : Nat), aI 0] else getZ := by
          unfold getAnsR getOk
          rw [e2]
          have h1 : decide (24 ≤ l.length) = true := by simpa using h24n
          have h2 : decide (sizeO k m ≤ l.length) = true := by simp only [decide_eq_true_eq]; omega
          rw [h1, h2, Bool.true_and, Bool.true_and]
        have hbytes : opB (rawO l) = true → opBytes (rawO l) = l.take (sizeO k m) := fun ho => by
          have hg : getOk l = true := by
            simp only [getOk, Bool.and_eq_true, decide_eq_true_eq]
            rw [e2]; exact ⟨h24n, by omega, ho⟩
          have := (bytes_raw hg).1
          rw [e2] at this; exact this
        have hle : (sizeO k m : Int) ≤ l.length := by omega
        have hcv := fun (g : Get) (r : Ref) => Sl.conv (P := env.P) (src := 34) (dst := 9) (l := l.take (sizeO k m)) (x := .isl 1 (List.take (sizeO k m) (by8 l)) cp) (by
          rw [by8t]
          refine .inr ⟨cp, rfl, ?_⟩
          rw [by8_len, List.length_take]
          cases cp with
          | none => simp
          | some c => simp at hc ⊢; omega) (by kernel_rfl) (by kernel_rfl) g r
        have hH' := hH (cp.map (· - 1)) (by rw [by8_len, h6]; exact hcap 1 6 (by rw [hlb]; omega))
        have hI' := hI (cp.map (· - 10)) (by rw [by8_len, h13]; exact hcap 10 13 (by rw [hlb]; omega))
        clear hH hI d1 d7 d10 d23 d24 e2 hl0 gd by8d by8t hkind hmany hz z1
        obtain ⟨⟨h_1, h_2, h_3⟩, hh0⟩ : ∃ h : Han, hanOf hh = h := ⟨_, rfl⟩
        obtain ⟨⟨⟨f_1, f_2, f_3⟩, f_4⟩, ff0⟩ : ∃ f : Idd, iddOf ff = f := ⟨_, rfl⟩
        rw [hh0] at hH'
        rw [ff0] at hI'
        unfold partO at e1
        rw [hh0, ff0] at e1
        generalize val [s1, s2, s3] = sr at *
        rcases z4 with rfl | rfl | rfl
        · rw [if_pos rfl, if_neg (by decide), if_pos rfl] at e1
          have hz37 : sizeO 1 m = 37 + 4 * m.toNat := rfl
          have l13 : (rest.take 13).length = 13 := by rw [List.length_take]; omega
          have l4m : ((rest.drop 13).take (4 * m.toNat)).length = 4 * m.toNat := by rw [List.length_take, List.length_drop]; omega
          have t4' : List.take (sizeO 1 m - 37) (List.drop 37 (by8 l)) = by8 ((rest.drop 13).take (4 * m.toNat)) := by rw [t4, hz37]; congr 2; omega
          have hI2 := s_R9id (v := .isl 1 (by8 (rest.take 13)) (cp.map (· - 24))) (l := rest.take 13) (.inr ⟨_, rfl, by rw [by8_len, l13]; exact hcap 24 13 (by rw [hlb]; omega)⟩) l13
          have hR4 := s_R4Get (bs := (rest.drop 13).take (4 * m.toNat)) (x := .isl 1 (by8 ((rest.drop 13).take (4 * m.toNat))) (cp.map (· - 37))) (.inr ⟨_, rfl, by rw [by8_len, l4m]; exact hcap 37 (4 * m.toNat) (by rw [hlb]; omega)⟩) l4m z3
          have hwl := (rBytes_words m.toNat _ l4m).2
          have S1 : (37 : Int) ≤ (sizeO 1 m : Int) ∧ 37 ≤ sizeO 1 m := by rw [hz37]; omega
          have S2 : (37 : Int) ≤ l.length := by omega
          obtain ⟨⟨⟨a_1, a_2, a_3⟩, a_4⟩, aa0⟩ : ∃ f : Idd, iddOf (rest.take 13) = f := ⟨_, rfl⟩
          rw [aa0] at hI2 e1
          clear hcap t4 t5 l4m l13 aa0 hz37
          generalize sizeO 1 m = S at *
          generalize words ((rest.drop 13).take (4 * m.toNat)) = ws at *
          generalize (rest.drop 13).take (4 * m.toNat) = rb at *
          generalize rest.take 13 = ra at *
          cases hal : ws.all runeB with
          | false =>
            have ho : opB (rawO l) = false := op_may (by
              rw [e1]
              have : rowB ws = false := by simp [rowB, hal]
              simp [mayB, insB, this])
            rw [ho] at hans
            simp only [getZ, Bool.false_eq_true, if_false] at hans
            rw [hal, if_neg (by decide)] at hR4
            clear e1 hbytes ho hal
            simp [new_ne, ne_new, new_ne1, ne_new1, gen_put', *, VC_q9_Get]
          | true =>
            rw [hal, if_pos rfl] at hR4
            have hRr : ∀ a ∈ ws, -2147483648 ≤ a ∧ a ≤ 2147483647 := by
              intro a ha
              have := List.all_eq_true.1 hal a ha
              simp only [runeB, Bool.or_eq_true, Bool.and_eq_true, decide_eq_true_eq] at this
              omega
            have hM := s_R9May 1 h_1 h_2 h_3 sr f_1 f_2 f_3 f_4 m.toNat a_1 a_2 a_3 a_4 0 0 (runG_sl ws) (by omega) hRr
            have hg := (runG_sl ws).r
            cases ho : opB (rawO l) with
            | false =>
              rw [ho] at hans
              simp only [getZ, Bool.false_eq_true, if_false] at hans
              rw [e1] at ho
              rw [ho] at hM
              clear e1 hbytes hal hRr
              simp [new_ne, ne_new, new_ne1, ne_new1, gen_put', *, VC_q9_Get]
            | true =>
              rw [ho] at hans
              have hbb := hbytes ho
              rw [e1] at ho hbb hans
              simp only [opnV, if_true] at hans
              have hB := s_R9Bytes 1 h_1 h_2 h_3 sr f_1 f_2 f_3 f_4 m.toNat a_1 a_2 a_3 a_4 0 0 (runG_sl ws) (by omega) ho
              rw [ho] at hM
              rw [hbb] at hB
              clear e1 hbytes hbb hal hRr
              simp [new_ne, ne_new, new_ne1, ne_new1, gen_put', *, VC_q9_Get]
        · rw [if_neg (by decide), if_neg (by decide), if_neg (by decide)] at e1
          have hz24 : sizeO 2 m = 24 := rfl
          have l24 : (24 : Int) ≤ l.length := by omega
          rw [hz24] at hS hlt' hlt hans hbytes hcv hle hz0
          have hM := s_R9May 2 h_1 h_2 h_3 sr f_1 f_2 f_3 f_4 m.toNat 0 0 0 0 0 0 (l := []) (x := aNil) (.inl ⟨rfl, rfl⟩) (by simp) (by simp)
          cases ho : opB (rawO l) with
          | false =>
            rw [ho] at hans
            simp only [getZ, Bool.false_eq_true, if_false] at hans
            rw [e1] at ho
            unfold zeroI at ho
            rw [ho] at hM
            clear e1 hbytes hcap t3 t4 t5
            simp [new_ne, ne_new, new_ne1, ne_new1, gen_put', *, VC_q9_Get]
          | true =>
            rw [ho] at hans
            have hbb := hbytes ho
            rw [e1] at ho hbb hans
            simp only [opnV, zeroI, show runG [] = aNil from rfl, if_true] at hans
            unfold zeroI at ho hbb
            have hB := s_R9Bytes 2 h_1 h_2 h_3 sr f_1 f_2 f_3 f_4 m.toNat 0 0 0 0 0 0 (l := []) (x := aNil) (.inl ⟨rfl, rfl⟩) (by simp) ho
            rw [ho] at hM
            rw [hbb] at hB
            clear e1 hbytes hbb hcap t3 t4 t5
            simp [new_ne, ne_new, new_ne1, ne_new1, gen_put', *, VC_q9_Get]
        · rw [if_neg (by decide), if_pos rfl, if_neg (by decide)] at e1
          have hz24 : sizeO 3 m = 29 := rfl
          rw [hz24] at hS hlt' hlt hans hbytes hcv hle hz0
          obtain ⟨c1, c2, c3, c4, c5, rest', hr5⟩ : ∃ a b c d e t, rest = a :: b :: c :: d :: e :: t := by
            match rest, (show 5 ≤ rest.length by omega) with
            | a :: b :: c :: d :: e :: t, _ => exact ⟨a, b, c, d, e, t, rfl⟩
          rw [hr5] at e1 t5
          have e1' : rawO l = ⟨3, ⟨h_1, h_2, h_3⟩, sr, ⟨⟨⟨f_1, f_2, f_3⟩, f_4⟩, (m.toNat : Int)⟩, zeroI, ⟨c1, u32 (val [c2, c3, c4, c5])⟩, []⟩ := e1
          have t5' : List.take 5 (List.drop 24 (by8 l)) = [a8 c1, a8 c2, a8 c3, a8 c4, a8 c5] := t5
          have l29 : (29 : Int) ≤ l.length := hle
          have q29 : ¬ (l.length : Int) < 29 := hlt'
          have hT := s_R9handle (v := .isl 1 [a8 c1, a8 c2, a8 c3, a8 c4, a8 c5, a8 0] none) (l := [c1, c2, c3, c4, c5, 0]) (Sl.mk _ _) rfl
          have hT' : hanOf [c1, c2, c3, c4, c5, 0] = ⟨c1, u32 (val [c2, c3, c4, c5]), 0⟩ := rfl
          rw [hT'] at hT
          generalize u32 (val [c2, c3, c4, c5]) = cc at *
          have hM := s_R9May 3 h_1 h_2 h_3 sr f_1 f_2 f_3 f_4 m.toNat 0 0 0 0 c1 cc (l := []) (x := aNil) (.inl ⟨rfl, rfl⟩) (by simp) (by simp)
          clear e1 t5 hT' hr5
          cases ho : opB (rawO l) with
          | false =>
            rw [ho] at hans
            simp only [getZ, Bool.false_eq_true, if_false] at hans
            rw [e1'] at ho
            unfold zeroI at ho
            rw [ho] at hM
            clear e1' hbytes hcap t3 t4
            simp [new_ne, ne_new, new_ne1, ne_new1, gen_put', *, VC_q9_Get]
          | true =>
            rw [ho] at hans
            have hbb := hbytes ho
            rw [e1'] at ho hbb hans
            simp only [opnV, zeroI, show runG [] = aNil from rfl, if_true] at hans
            unfold zeroI at ho hbb
            have hB := s_R9Bytes 3 h_1 h_2 h_3 sr f_1 f_2 f_3 f_4 m.toNat 0 0 0 0 c1 cc (l := []) (x := aNil) (.inl ⟨rfl, rfl⟩) (by simp) ho
            rw [ho] at hM
            rw [hbb] at hB
            clear e1' hbytes hbb hcap t3 t4
            simp [new_ne, ne_new, new_ne1, ne_new1, gen_put', *, VC_q9_Get]
end Go.Proofs.Ytehkjjcdkbcebaa
