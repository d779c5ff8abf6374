/-
  '==' of structs and arrays of bools, numbers and strings: cell by cell. No statement of a seat is proved here.
-/
import Derived.Test.YtjampffmlnplcaaAbsShape
import Derived.ChangeKeysEq
set_option linter.unusedVariables false
set_option linter.unusedSimpArgs false
namespace Go.Ab

def eqItemsO (P : Program) (d e c : Nat) (xs ys : Array Value) : List Nat → Option Bool
  | [] => some true
  | i :: is => match pureRun P (part e xs (i * c)), pureRun P (part e ys (i * c)) with
    | some a, some b => (match pureRun P (Op.equalIn d e a b) with
      | some true => eqItemsO P d e c xs ys is
      | some false => some false
      | none => none)
    | _, _ => none

theorem pr_size {P : Program} {t : TypeId} {z : Nat} (h : tsize P t = some z) : pureRun P (sizeOf t) = some z := by
  simp only [tsize, Option.map_eq_some_iff] at h
  obtain ⟨i, hi, rfl⟩ := h
  simp only [sizeOf, typeInfo, pureRun_bind]
  show ((some P).bind _).bind _ = _
  simp only [Option.bind_some, hi]
  rfl

theorem pr_equalIn_array {P : Program} (d : Nat) {t e : TypeId} {n c : Nat} (xs ys : Array Value) (hu : P.underlying t = some (.array n e)) (hi : tsize P e = some c) :
    pureRun P (Op.equalIn (d + 1) t (.agg xs) (.agg ys)) = eqItemsO P d e c xs ys (List.range n) := by
  simp only [Op.equalIn, pureRun_bind, pureRun_und hu, Option.bind_some, pr_size hi]
  simp only [Std.Legacy.Range.forIn_eq_forIn_range', Std.Legacy.Range.size, Nat.sub_zero, Nat.add_one_sub_one, Nat.div_one, List.range_eq_range']
  generalize List.range' 0 n = is
  induction is with
  | nil => rfl
  | cons j is ih =>
    simp only [List.forIn_cons, eqItemsO, pureRun_bind]
    cases h1 : pureRun P (part e xs (j * c)) with
    | none => rfl
    | some a =>
      cases h2 : pureRun P (part e ys (j * c)) with
      | none => rfl
      | some b =>
        simp only [Option.bind_some]
        cases h3 : pureRun P (Op.equalIn d e a b) with
        | none => rfl
        | some r =>
          cases r
          · rfl
          · simp only [Option.bind_some, Bool.not_true, Bool.false_eq_true, if_false]
            exact ih

def eqFieldsO (P : Program) (d : Nat) (xs ys : Array Value) : List Field → Option Bool
  | [] => some true
  | f :: fs => match pureRun P (part f.type xs f.offset), pureRun P (part f.type ys f.offset) with
    | some a, some b => (match pureRun P (Op.equalIn d f.type a b) with
      | some true => eqFieldsO P d xs ys fs
      | some false => some false
      | none => none)
    | _, _ => none

theorem pr_equalIn_struct {P : Program} (d : Nat) {t : TypeId} {fs : Array Field} (xs ys : Array Value) (hu : P.underlying t = some (.struct fs)) (hs : P.stoodInHeld t = false) (hn : ∀ f ∈ fs.toList, (f.name != "_") = true) :
    pureRun P (Op.equalIn (d + 1) t (.agg xs) (.agg ys)) = eqFieldsO P d xs ys fs.toList := by
  have hp : pureRun P program = some P := rfl
  simp only [Op.equalIn, pureRun_bind, pureRun_und hu, Option.bind_some, hp, hs, Bool.false_eq_true, if_false]
  simp only [← Array.forIn_toList]
  generalize fs.toList = is at hn
  induction is with
  | nil => rfl
  | cons f is ih =>
    have hf : f.name ≠ "_" := by simpa using hn f (List.mem_cons_self ..)
    simp only [List.forIn_cons, eqFieldsO, pureRun_bind, hf, ne_eq, not_false_eq_true, if_true]
    have hpu : pureRun P (pure PUnit.unit : Sem PUnit) = some PUnit.unit := rfl
    cases h1 : pureRun P (part f.type xs f.offset) with
    | none => rfl
    | some a =>
      cases h2 : pureRun P (part f.type ys f.offset) with
      | none => rfl
      | some b =>
        simp only [Option.bind_some]
        cases h3 : pureRun P (Op.equalIn d f.type a b) with
        | none => rfl
        | some r =>
          cases r
          · rfl
          · simp only [Option.bind_some, Bool.not_true, Bool.false_eq_true, if_false]
            exact ih fun g hg => hn g (List.mem_cons_of_mem _ hg)

/- ## Cell by cell -/
def eqLeaf : List AV → List AV → Option Bool
  | [.v (.bool a)], [.v (.bool b)] => some (decide (a = b))
  | [.v (.int k a)], [.v (.int k' b)] => if k = k' then some (decide (a = b)) else none
  | [.v (.string a)], [.v (.string b)] => some (a == b)
  | _, _ => none

def eqFs (S : TypeId → List AV → List AV → Option Bool) (P : Program) : List TypeId → List AV → List AV → Option Bool
  | [], _, _ => some true
  | t :: ts, xs, ys => match tsize P t with
    | none => none
    | some z => match S t (xs.take z) (ys.take z), eqFs S P ts (xs.drop z) (ys.drop z) with
      | some a, some b => some (a && b)
      | _, _ => none

def eqRep (S : List AV → List AV → Option Bool) (z : Nat) : Nat → List AV → List AV → Option Bool
  | 0, _, _ => some true
  | k + 1, xs, ys => match S (xs.take z) (ys.take z), eqRep S z k (xs.drop z) (ys.drop z) with
    | some a, some b => some (a && b)
    | _, _ => none

def leafT (P : Program) (t : TypeId) : Option Nat := match P.underlying t with
  | some .bool => some 0
  | some (.int _) => some 1
  | some .string => some 2
  | _ => none

def leafV : AV → Nat
  | .v (.bool _) => 0
  | .v (.int _ _) => 1
  | .v (.string _) => 2
  | _ => 3

def eqA (P : Program) : Nat → TypeId → List AV → List AV → Option Bool
  | 0, _, _, _ => none
  | n + 1, t, xs, ys => match leafT P t with
    | some l => (match xs, ys with
      | [x], [y] => cond (Nat.beq (leafV x) l) (eqLeaf [x] [y]) none
      | _, _ => none)
    | none => match fieldTys P t with
      | some ts => eqFs (eqA P n) P ts xs ys
      | none => match tarr P t with
        | some (k, e) => (match tsize P e with
          | some z => eqRep (eqA P n e) z k xs ys
          | none => none)
        | none => none

/-- What is asked of the type. -/
def eqOk (P : Program) : Nat → TypeId → Bool
  | 0, _ => false
  | n + 1, t => match P.underlying t with
    | some .bool | some (.int _) | some .string => tagg P t == some false && tsize P t == some 1
    | some (.struct fs) => fs.toList.all (fun f => eqOk P n f.type && f.name != "_") && layout P fs.toList 0 == some (P.cellsOf t) && !P.stoodInHeld t
    | some (.array k e) => eqOk P n e && P.cellsOf t == k * P.cellsOf e
    | _ => false

def unVs (xs : List AV) : Option (List Value) := xs.mapM unV

theorem unVs_take {xs : List AV} {vs : List Value} (h : unVs xs = some vs) (n : Nat) : unVs (xs.take n) = some (vs.take n) := by
  unfold unVs at *
  induction xs generalizing vs n with
  | nil => simp at h; subst h; simp
  | cons x xs ih =>
    simp only [List.mapM_cons, Option.pure_def, Option.bind_eq_bind, Option.bind_eq_some_iff] at h
    obtain ⟨v, hv, vs', hvs, e⟩ := h
    cases e
    cases n with
    | zero => simp
    | succ n => simp only [List.take_succ_cons, List.mapM_cons, hv, ih hvs n]; rfl
theorem unVs_drop {xs : List AV} {vs : List Value} (h : unVs xs = some vs) (n : Nat) : unVs (xs.drop n) = some (vs.drop n) := by
  unfold unVs at *
  induction xs generalizing vs n with
  | nil => simp at h; subst h; simp
  | cons x xs ih =>
    simp only [List.mapM_cons, Option.pure_def, Option.bind_eq_bind, Option.bind_eq_some_iff] at h
    obtain ⟨v, hv, vs', hvs, e⟩ := h
    cases e
    cases n with
    | zero => simp only [List.drop_zero, List.mapM_cons, hv, hvs]; rfl
    | succ n => simp only [List.drop_succ_cons]; exact ih hvs n
theorem unVs_len {xs : List AV} {vs : List Value} (h : unVs xs = some vs) : vs.length = xs.length := mapM_len h

/-- A type's value of cells. -/
def valOf (P : Program) (t : TypeId) (vs : List Value) : Option Value := match tagg P t with
  | some true => some (.agg vs.toArray)
  | some false => vs.head?
  | none => none

theorem pr_part {P : Program} {t : TypeId} {z : Nat} (hz : tsize P t = some z) {vs : List Value} {o : Nat} {v : Value} (hv : valOf P t ((vs.drop o).take z) = some v) (h1 : tagg P t = some false → z = 1) : pureRun P (part t vs.toArray o) = some v := by
  unfold valOf at hv
  have hag : ∀ b, tagg P t = some b → pureRun P (isAgg t) = some b := by
    intro b hb
    simp only [tagg, Option.map_eq_some_iff] at hb
    obtain ⟨dd, hd, rfl⟩ := hb
    simp only [isAgg, pureRun_bind, pureRun_und hd, Option.bind_some]
    cases dd <;> rfl
  unfold part
  split at hv
  · rename_i ha
    cases hv
    simp only [pureRun_bind, hag _ ha, Option.bind_some, if_true, pr_size hz]
    show some _ = some _
    congr 2
    apply Array.toList_inj.1
    simp only [Array.toList_extract, List.extract_eq_take_drop, Nat.add_sub_cancel_left]
  · rename_i ha
    simp only [pureRun_bind, hag _ ha, Option.bind_some, Bool.false_eq_true, if_false]
    have : vs.toArray[o]? = some v := by
      rw [h1 ha] at hv
      rw [List.getElem?_toArray]
      cases hd : vs.drop o with
      | nil => rw [hd] at hv; simp at hv
      | cons u us =>
        rw [hd] at hv
        simp at hv
        subst hv
        have := congrArg List.head? hd
        simpa [List.head?_drop] using this
    rw [this]
    rfl
  · cases hv

theorem eqA_ok {P : Program} : ∀ (n : Nat) (D : Nat) (t : TypeId) (xs ys : List AV) (us vs : List Value) (b : Bool), eqOk P n t = true → eqA P n t xs ys = some b → unVs xs = some us → unVs ys = some vs → xs.length = P.cellsOf t → ys.length = P.cellsOf t →
    ∃ u v, valOf P t us = some u ∧ valOf P t vs = some v ∧ pureRun P (Op.equalIn (D + n) t u v) = some b := by
  intro n
  induction n with
  | zero => intro D t xs ys us vs b h; simp [eqOk] at h
  | succ n ih =>
    intro D t xs ys us vs b hok h hu hv hlx hly
    unfold eqOk at hok
    unfold eqA at h
    cases hd : P.underlying t with
    | none => rw [hd] at hok; simp at hok
    | some dd =>
      rw [hd] at hok
      have leaf : ∀ l, leafT P t = some l → (tagg P t == some false && tsize P t == some 1) = true → (l = 0 ∧ dd = .bool ∨ (l = 1 ∧ ∃ k, dd = .int k) ∨ l = 2 ∧ dd = .string) → ∃ u v, valOf P t us = some u ∧ valOf P t vs = some v ∧ pureRun P (Op.equalIn (D + (n + 1)) t u v) = some b := by
        intro l hl hok hdd
        simp only [Bool.and_eq_true, beq_iff_eq] at hok
        rw [hl] at h
        dsimp only at h
        split at h
        · rename_i x y
          cases hb : Nat.beq (leafV x) l with
          | false => rw [hb] at h; cases h
          | true =>
            rw [hb] at h
            replace hb := Nat.eq_of_beq_eq_true hb
            have e1 : ∃ u, us = [u] ∧ unV x = some u := by
              unfold unVs at hu; simp only [List.mapM_cons, List.mapM_nil, Option.pure_def, Option.bind_eq_bind, Option.bind_eq_some_iff] at hu
              obtain ⟨u, h1, ws, h2, h3⟩ := hu
              cases h2; cases h3; exact ⟨u, rfl, h1⟩
            have e2 : ∃ u, vs = [u] ∧ unV y = some u := by
              unfold unVs at hv; simp only [List.mapM_cons, List.mapM_nil, Option.pure_def, Option.bind_eq_bind, Option.bind_eq_some_iff] at hv
              obtain ⟨u, h1, ws, h2, h3⟩ := hv
              cases h2; cases h3; exact ⟨u, rfl, h1⟩
            obtain ⟨u, rfl, hu1⟩ := e1
            obtain ⟨v, rfl, hv1⟩ := e2
            refine ⟨u, v, by simp [valOf, hok.1], by simp [valOf, hok.1], ?_⟩
            rw [show D + (n + 1) = (D + n) + 1 from rfl]
            simp only [cond_true] at h
            unfold eqLeaf at h
            simp only [Op.equalIn, pureRun_bind, pureRun_und hd, Option.bind_some]
            split at h
            · rename_i a c ea ec
              simp only [List.cons.injEq, and_true] at ea ec
              subst ea; subst ec
              simp [unV] at hu1 hv1
              subst hu1; subst hv1
              have hl0 : l = 0 := hb.symm
              rcases hdd with ⟨_, rfl⟩ | ⟨h1, _⟩ | ⟨h1, _⟩
              · rw [← h]; show some (a == c) = _; congr 1
              · omega
              · omega
            · rename_i k a k' c ea ec
              simp only [List.cons.injEq, and_true] at ea ec
              subst ea; subst ec
              simp [unV] at hu1 hv1
              subst hu1; subst hv1
              have hl0 : l = 1 := hb.symm
              rcases hdd with ⟨h1, _⟩ | ⟨_, k0, rfl⟩ | ⟨h1, _⟩
              · omega
              · split at h
                · rename_i hk
                  subst hk
                  rw [← h]
                  show pureRun P (if k = k then pure (a == c) else _) = _
                  rw [if_pos rfl]
                  show some (a == c) = _
                  congr 1
                · cases h
              · omega
            · rename_i a c ea ec
              simp only [List.cons.injEq, and_true] at ea ec
              subst ea; subst ec
              simp [unV] at hu1 hv1
              subst hu1; subst hv1
              have hl0 : l = 2 := hb.symm
              rcases hdd with ⟨h1, _⟩ | ⟨h1, _⟩ | ⟨_, rfl⟩
              · omega
              · omega
              · rw [← h]; rfl
            · cases h
        · cases h
      have hlt : ∀ l, leafT P t = some l → _ := fun l hl => leaf l hl
      cases dd <;> dsimp only at hok <;> try (simp at hok; done)
      · exact leaf 0 (by simp [leafT, hd]) hok (.inl ⟨rfl, rfl⟩)
      · rename_i k; exact leaf 1 (by simp [leafT, hd]) hok (.inr (.inl ⟨rfl, k, rfl⟩))
      · exact leaf 2 (by simp [leafT, hd]) hok (.inr (.inr ⟨rfl, rfl⟩))
      · -- array
        rename_i k e
        simp only [Bool.and_eq_true, beq_iff_eq] at hok
        obtain ⟨hok, hcell⟩ := hok
        have hl : leafT P t = none := by simp [leafT, hd]
        have hf : fieldTys P t = none := by simp [fieldTys, hd]
        have hta : tarr P t = some (k, e) := by simp [tarr, hd]
        rw [hl, hf, hta] at h
        dsimp only at h
        have hag : tagg P t = some true := by simp [tagg, hd]
        cases hz : tsize P e with
        | none => rw [hz] at h; cases h
        | some z =>
          rw [hz] at h
          dsimp only at h
          have hcz : P.cellsOf e = z := by simp only [tsize] at hz; simp [Program.cellsOf, hz]
          have hone : tagg P e = some false → z = 1 := by
            intro hagf
            cases n with
            | zero => simp [eqOk] at hok
            | succ n' =>
              unfold eqOk at hok
              unfold tagg at hagf
              cases huf : P.underlying e with
              | none => rw [huf] at hok; simp at hok
              | some d2 =>
                rw [huf] at hok hagf
                cases d2 <;> simp at hok hagf <;> (have := hok.2; rw [hz] at this; simpa using this)
          refine ⟨.agg us.toArray, .agg vs.toArray, by simp [valOf, hag], by simp [valOf, hag], ?_⟩
          rw [show D + (n + 1) = (D + n) + 1 from rfl, pr_equalIn_array (D + n) _ _ hd hz]
          have : ∀ (m i0 : Nat) (b : Bool), (i0 + m) * z ≤ xs.length → (i0 + m) * z ≤ ys.length → eqRep (eqA P n e) z m (xs.drop (i0 * z)) (ys.drop (i0 * z)) = some b → eqItemsO P (D + n) e z us.toArray vs.toArray (List.range' i0 m) = some b := by
            intro m
            induction m with
            | zero => intro i0 b _ _ h; simp [eqRep] at h; simp [eqItemsO, h]
            | succ m ihm =>
              intro i0 b hx hy h
              simp only [eqRep] at h
              have hmul : (i0 + (m + 1)) * z = i0 * z + z + m * z := by rw [Nat.add_mul, Nat.succ_mul]; omega
              rw [hmul] at hx hy
              cases h1 : eqA P n e ((xs.drop (i0 * z)).take z) ((ys.drop (i0 * z)).take z) with
              | none => rw [h1] at h; simp at h
              | some a =>
                rw [h1] at h
                cases h2 : eqRep (eqA P n e) z m ((xs.drop (i0 * z)).drop z) ((ys.drop (i0 * z)).drop z) with
                | none => rw [h2] at h; simp at h
                | some c =>
                  rw [h2] at h
                  simp only [Option.some.injEq] at h
                  rw [List.drop_drop, List.drop_drop, ← Nat.succ_mul] at h2
                  obtain ⟨u, v, hu1, hv1, heq⟩ := ih D e _ _ _ _ a hok h1 (unVs_take (unVs_drop hu (i0 * z)) z) (unVs_take (unVs_drop hv (i0 * z)) z)
                    (by rw [List.length_take, List.length_drop, hcz]; omega) (by rw [List.length_take, List.length_drop, hcz]; omega)
                  have p1 := pr_part hz (o := i0 * z) hu1 hone
                  have p2 := pr_part hz (o := i0 * z) hv1 hone
                  simp only [List.range'_succ, eqItemsO, p1, p2, heq]
                  cases a with
                  | false => simp at h; simp [h]
                  | true =>
                    simp only [Bool.true_and] at h
                    subst h
                    exact ihm (i0 + 1) c (by rw [show i0 + 1 + m = i0 + (m + 1) by omega, hmul]; exact hx) (by rw [show i0 + 1 + m = i0 + (m + 1) by omega, hmul]; exact hy) h2
          rw [List.range_eq_range']
          by_cases hk0 : k * z ≤ xs.length ∧ k * z ≤ ys.length
          · exact this k 0 b (by simpa using hk0.1) (by simpa using hk0.2) (by simpa using h)
          · exfalso
            rw [hcz] at hcell
            exact hk0 ⟨by omega, by omega⟩
      · -- struct
        rename_i fs
        simp only [Bool.and_eq_true, Bool.not_eq_true', List.all_eq_true, beq_iff_eq] at hok
        obtain ⟨⟨hall, hlay⟩, hst⟩ := hok
        have hl : leafT P t = none := by simp [leafT, hd]
        have hf : fieldTys P t = some (fs.toList.map (·.type)) := by simp [fieldTys, hd]
        rw [hl, hf] at h
        dsimp only at h
        have hag : tagg P t = some true := by simp [tagg, hd]
        refine ⟨.agg us.toArray, .agg vs.toArray, by simp [valOf, hag], by simp [valOf, hag], ?_⟩
        rw [show D + (n + 1) = (D + n) + 1 from rfl, pr_equalIn_struct (D + n) _ _ hd hst (fun f hf => (hall f hf).2)]
        have : ∀ (l : List Field) (o : Nat) (b : Bool), (∀ f ∈ l, eqOk P n f.type = true) → layout P l o = some (P.cellsOf t) → eqFs (eqA P n) P (l.map (·.type)) (xs.drop o) (ys.drop o) = some b → o ≤ P.cellsOf t →
            eqFieldsO P (D + n) us.toArray vs.toArray l = some b := by
          intro l
          induction l with
          | nil => intro o b _ _ h _; simp [eqFs] at h; simp [eqFieldsO, h]
          | cons f l ihl =>
            intro o b hal hlay h ho
            unfold layout at hlay
            split at hlay
            · rename_i hfo
              simp only [List.map_cons, eqFs] at h
              cases hz : tsize P f.type with
              | none => rw [hz] at h; cases h
              | some z =>
                rw [hz] at h
                dsimp only at h
                have hcz : P.cellsOf f.type = z := by simp only [tsize] at hz; simp [Program.cellsOf, hz]
                rw [hcz] at hlay
                cases h1 : eqA P n f.type ((xs.drop o).take z) ((ys.drop o).take z) with
                | none => rw [h1] at h; simp at h
                | some a =>
                  rw [h1] at h
                  cases h2 : eqFs (eqA P n) P (l.map (·.type)) ((xs.drop o).drop z) ((ys.drop o).drop z) with
                  | none => rw [h2] at h; simp at h
                  | some c =>
                    rw [h2] at h
                    simp only [Option.some.injEq] at h
                    rw [List.drop_drop, List.drop_drop] at h2
                    have hle : o + z ≤ P.cellsOf t := by
                      have : ∀ (l : List Field) (o m : Nat), layout P l o = some m → o ≤ m := by
                        intro l
                        induction l with
                        | nil => intro o m h; simp [layout] at h; omega
                        | cons g l ihg =>
                          intro o m h
                          unfold layout at h
                          split at h
                          · have := ihg _ _ h; omega
                          · cases h
                      exact this _ _ _ hlay
                    obtain ⟨u, v, hu1, hv1, heq⟩ := ih D f.type _ _ _ _ a (hal f (List.mem_cons_self ..)) h1 (unVs_take (unVs_drop hu o) z) (unVs_take (unVs_drop hv o) z)
                      (by rw [List.length_take, List.length_drop, hcz]; omega) (by rw [List.length_take, List.length_drop, hcz]; omega)
                    have hone : tagg P f.type = some false → z = 1 := by
                      intro hagf
                      have hk := hal f (List.mem_cons_self ..)
                      cases n with
                      | zero => simp [eqOk] at hk
                      | succ n' =>
                        unfold eqOk at hk
                        unfold tagg at hagf
                        cases huf : P.underlying f.type with
                        | none => rw [huf] at hk; simp at hk
                        | some d2 =>
                          rw [huf] at hk hagf
                          cases d2 <;> simp at hk hagf <;> (have := hk.2; rw [hz] at this; simpa using this)
                    have p1 := pr_part hz (o := o) hu1 hone
                    have p2 := pr_part hz (o := o) hv1 hone
                    simp only [eqFieldsO, hfo, p1, p2, heq]
                    cases a with
                    | false => simp at h; simp [h]
                    | true =>
                      simp only [Bool.true_and] at h
                      subst h
                      exact ihl (o + z) c (fun g hg => hal g (List.mem_cons_of_mem _ hg)) hlay h2 hle
            · cases hlay
        exact this fs.toList 0 b (fun f hf => (hall f hf).1) hlay (by simpa using h) (Nat.zero_le _)

/-- What is asked of a type whose values are compared. -/
def eqTy (P : Program) (t : TypeId) : Bool := eqOk P 20 t && !P.eqGuardType P.depth t && tagg P t == some true

theorem prBin_agg {P : Program} {t : TypeId} (h : eqTy P t = true) (op : BinOp) (ho : op = .eql ∨ op = .neq) (xo yo : Operand) (xs ys : Array Value) :
    prBin P op t xo yo (.agg xs) (.agg ys) = (pureRun P (Op.equalIn 10000 t (.agg xs) (.agg ys))).map fun b => .bool (if op = .eql then b else !b) := by
  unfold eqTy at h
  simp only [Bool.and_eq_true, Bool.not_eq_true', beq_iff_eq] at h
  have hp : pureRun P program = some P := rfl
  unfold prBin
  have hg : pureRun P (eqGuard op t xo yo (.agg xs) (.agg ys)) = some () := by
    rcases ho with rfl | rfl
    · simp only [eqGuard, Bool.not_true, Bool.false_eq_true, if_false, pureRun_bind, hp, Option.bind_some, h.1.2, Bool.not_false, if_true]; rfl
    · simp only [eqGuard, Bool.not_true, Bool.false_eq_true, if_false, pureRun_bind, hp, Option.bind_some, h.1.2, Bool.not_false, if_true]; rfl
  rw [pureRun_bind, hg, Option.bind_some]
  rcases ho with rfl | rfl
  · show pureRun P (do pure (Value.bool (← Op.equal t (.agg xs) (.agg ys)))) = _
    rw [pureRun_bind]
    unfold Op.equal Op.maxDepth
    cases pureRun P (Op.equalIn 10000 t (.agg xs) (.agg ys)) <;> rfl
  · show pureRun P (do pure (Value.bool (!(← Op.equal t (.agg xs) (.agg ys))))) = _
    rw [pureRun_bind]
    unfold Op.equal Op.maxDepth
    cases pureRun P (Op.equalIn 10000 t (.agg xs) (.agg ys)) <;> rfl

theorem qBin_agg {P : Program} {t : TypeId} (h : eqTy P t = true) (op : BinOp) (ho : op = .eql ∨ op = .neq) (xo yo : Operand) {cs ds : List AV} {b : Bool} (hb : eqA P 20 t cs ds = some b) (hu : (unVs cs).isSome = true) (hv : (unVs ds).isSome = true)
    (hc : some cs.length = tsize P t) (hd : some ds.length = tsize P t) : qBin P op t xo yo (some (.agg cs)) (some (.agg ds)) = some (aB (if op = .eql then b else !b), []) := by
  obtain ⟨us, hu⟩ := Option.isSome_iff_exists.1 hu
  obtain ⟨vs, hv⟩ := Option.isSome_iff_exists.1 hv
  have h0 := h
  unfold eqTy at h0
  simp only [Bool.and_eq_true, Bool.not_eq_true', beq_iff_eq] at h0
  have hl : ∀ {n : Nat}, some n = tsize P t → n = P.cellsOf t := by
    intro n hn
    unfold tsize at hn
    unfold Program.cellsOf
    rw [← hn]; rfl
  obtain ⟨u, v, e1, e2, heq⟩ := eqA_ok 20 9980 t cs ds us vs b h0.1.1 hb hu hv (hl hc) (hl hd)
  simp only [valOf, h0.2, Option.some.injEq] at e1 e2
  subst e1; subst e2
  have hpr := prBin_agg h op ho xo yo us.toArray vs.toArray
  rw [heq] at hpr
  have t1 : toValue (.agg cs) = some (.agg us.toArray) := by show (cs.mapM unV).map _ = _; rw [show cs.mapM unV = some us from hu]; rfl
  have t2 : toValue (.agg ds) = some (.agg vs.toArray) := by show (ds.mapM unV).map _ = _; rw [show ds.mapM unV = some vs from hv]; rfl
  simp only [qBin, isSl, nilSlice, Bool.false_and, Bool.or_self, Bool.false_eq_true, if_false, t1, t2, hpr, Option.map_some, Option.bind_some, ofScalar, scalar, if_true, qVal]

@[simp] theorem qBin_eql_agg {P : Program} {t : TypeId} (h : eqTy P t = true) (xo yo : Operand) {cs ds : List AV} (hb : (eqA P 20 t cs ds).isSome = true) (hu : (unVs cs).isSome = true) (hv : (unVs ds).isSome = true)
    (hc : some cs.length = tsize P t) (hd : some ds.length = tsize P t) : qBin P .eql t xo yo (some (.agg cs)) (some (.agg ds)) = some (aB ((eqA P 20 t cs ds).getD false), []) := by
  obtain ⟨b, hb⟩ := Option.isSome_iff_exists.1 hb
  rw [qBin_agg h .eql (.inl rfl) xo yo hb hu hv hc hd, hb]; rfl
@[simp] theorem qBin_neq_agg {P : Program} {t : TypeId} (h : eqTy P t = true) (xo yo : Operand) {cs ds : List AV} (hb : (eqA P 20 t cs ds).isSome = true) (hu : (unVs cs).isSome = true) (hv : (unVs ds).isSome = true)
    (hc : some cs.length = tsize P t) (hd : some ds.length = tsize P t) : qBin P .neq t xo yo (some (.agg cs)) (some (.agg ds)) = some (aB (!(eqA P 20 t cs ds).getD false), []) := by
  obtain ⟨b, hb⟩ := Option.isSome_iff_exists.1 hb
  rw [qBin_agg h .neq (.inr rfl) xo yo hb hu hv hc hd, hb]; rfl

@[simp] theorem unVs_nil : unVs [] = some [] := id rfl
@[simp] theorem unVs_int (k : IntKind) (n : Int) (l : List AV) : unVs (.v (.int k n) :: l) = (unVs l).map (.int k n :: ·) := by
  unfold unVs; simp only [List.mapM_cons, unV]; cases l.mapM unV <;> rfl
@[simp] theorem unVs_bool (b : Bool) (l : List AV) : unVs (.v (.bool b) :: l) = (unVs l).map (.bool b :: ·) := by
  unfold unVs; simp only [List.mapM_cons, unV]; cases l.mapM unV <;> rfl
@[simp] theorem unVs_8 (b : UInt8) (l : List AV) : unVs (a8 b :: l) = (unVs l).map (.int .u8 b.toNat :: ·) := unVs_int _ _ _
@[simp] theorem unVs_32 (b : UInt32) (l : List AV) : unVs (a32 b :: l) = (unVs l).map (.int .u32 b.toNat :: ·) := unVs_int _ _ _
@[simp] theorem eqLeaf_bool (a b : Bool) : eqLeaf [aB a] [aB b] = some (decide (a = b)) := id rfl
@[simp] theorem eqLeaf_int (k : IntKind) (a b : Int) : eqLeaf [.v (.int k a)] [.v (.int k b)] = some (decide (a = b)) := by simp [eqLeaf]
@[simp] theorem eqLeaf_8 (a b : UInt8) : eqLeaf [a8 a] [a8 b] = some (decide (a = b)) := by
  unfold a8; rw [eqLeaf_int]; congr 2; rw [← UInt8.toNat_inj]; exact propext (by omega)
@[simp] theorem eqLeaf_32 (a b : UInt32) : eqLeaf [a32 a] [a32 b] = some (decide (a = b)) := by
  unfold a32; rw [eqLeaf_int]; congr 2; rw [← UInt32.toNat_inj]; exact propext (by omega)
@[simp] theorem leafV_bool (b : Bool) : leafV (aB b) = 0 := id rfl
@[simp] theorem leafV_int (k : IntKind) (n : Int) : leafV (.v (.int k n)) = 1 := id rfl
@[simp] theorem leafV_8 (b : UInt8) : leafV (a8 b) = 1 := id rfl
@[simp] theorem leafV_32 (b : UInt32) : leafV (a32 b) = 1 := id rfl

end Go.Ab
