/-
  What the abstract machine's quiet operations give is what the model's give: the first part. No statement of a seat is proved here.
-/
import Derived.Test.YtjampffmlnplcaaAbsView
set_option linter.unusedVariables false
set_option linter.unusedSimpArgs false
namespace Go.Ab

def addK (g : Get) (r : Ref) (bs : List Blk) : Get := fun q => if q.d = r.d ∧ q.t = r.t ∧ q.g = r.g ∧ q.k < bs.length then bs[q.k]? else g q

theorem addK_nil (g : Get) (r : Ref) : addK g r [] = g := by funext q; simp [addK]

theorem addK_one (g : Get) (r : Ref) (hr : r.k = 0) (b : Blk) : addK g r [b] = updG g r b := by
  funext q
  unfold addK updG
  by_cases h : q = r
  · subst h; simp [hr]
  · rw [if_neg h, if_neg]
    intro h'
    apply h
    cases q; cases r
    simp_all

structure TR (M : Mem) (ι : Map) (tm : List AV) (a : Act) : Prop where
  at_ : ∀ t, VR M ι (tget tm t) (a.tmps.getD t undef)

theorem TR.mono {M ι tm a M' ι'} (h : TR M ι tm a) (hM : ∀ b o x, M b o = some x → M' b o = some x) (hι : ∀ r l, ι r = some l → ι' r = some l) : TR M' ι' tm a :=
  ⟨fun t => (h.at_ t).mono hM ι' hι⟩

theorem evalO_ok {M ι tm a} (h : TR M ι tm a) {x : Operand} {y : AV} (hx : evalO tm x = some y) : VR M ι y (a.eval x) := by
  cases x with
  | tmp t => simp [evalO] at hx; subst hx; exact h.at_ t
  | const v => simp only [evalO] at hx; exact ofValue_ok hx
  | global g => simp [evalO] at hx
  | func f => simp [evalO] at hx; subst hx; exact .fn rfl rfl (fun i c u hc => by simp at hc) (fun i c u hc => by simp at hc)

theorem evalOs_ok {M ι tm a} (h : TR M ι tm a) {xs : List Operand} {ys : List AV} (hx : xs.mapM (evalO tm) = some ys) : VRs M ι ys (xs.map a.eval) :=
  ⟨by simpa using mapM_len hx, fun i y u hy hu => by
    obtain ⟨x, hx', hf⟩ := mapM_at hx i y hy
    simp only [List.getElem?_map, hx', Option.map_some, Option.some.injEq] at hu
    subst hu
    exact evalO_ok h hf⟩

/-- What a quiet operation leaves. -/
def QOut (M : Mem) (ι : Map) (g : Get) (w : World) (r : Ref) (x : AV) (bs : List Blk) (u : Value) (w' : World) : Prop :=
  ∃ M' ι', VR M' ι' x u ∧ Sim M' ι' (addK g r bs) w' ∧ Fwd M ι g w M' ι' (addK g r bs) w' ∧ ∀ q, ι q = none → (∀ k, k < bs.length → q ≠ { r with k := k }) → ι' q = none

theorem QOut.same {M ι g w r x u} (hS : Sim M ι g w) (h : VR M ι x u) : QOut M ι g w r x [] u w :=
  ⟨M, ι, h, by rw [addK_nil]; exact hS, by rw [addK_nil]; exact Fwd.refl, fun q hq _ => hq⟩

/-- A draw that changes nothing else. -/
theorem Sim.drew {M ι g w w'} (hS : Sim M ι g w) (hh : w'.heap = w.heap) : Sim M ι g w' :=
  ⟨fun b o x h => by rw [World.cell?_of_block (w := w) (by rw [hh])]; exact hS.mem b o x h, fun r k h => by
    obtain ⟨l, hl, hb⟩ := hS.live r k h
    exact ⟨l, hl, hb.keep (fun _ _ _ h => h) (fun _ _ h => h) (by rw [hh]) hb.frozen⟩, hS.inj⟩

/-- Any machine; a frame of a function, or of a round. -/
def FW (ro : Option Nat) : Fence := { Fence.wide with round := ro }

def OpOk (P : Program) (o : Oper) (a : Act) (w : World) (S : Value → World → Prop) : Prop :=
  ∀ (ro : Option Nat) (K : Act → World → Prop) (Q : Exit → Act → World → Prop), (∀ u w', S u w' → K (a.put o.dst u) w') → o.wpIn (FW ro) 0 P a w K Q

theorem semAt_run {P : Program} {o : Oper} {ρ : Operand → Value} {w w' : World} {x : Next} (ro : Option Nat) (h : (execOp ρ o).run P w = .ok x w') (hx : ∀ d, x ≠ .defer d) : (Oper.semAt ro ρ o).run P w = .ok x w' := by
  by_cases hd : ∃ c, o.op = .defer c
  · exfalso
    obtain ⟨c, hc⟩ := hd
    simp only [execOp, hc] at h
    rw [Sem.run_bind] at h
    cases hr : (resolve ρ c o.type).run P w with
    | ok d w1 => rw [hr] at h; simp only [Result.andThen_ok, Sem.run_pure, Result.ok.injEq] at h; exact hx _ h.1.symm
    | halt e w1 => rw [hr] at h; cases h
  · rw [Oper.semAt_eq ro ρ o fun c hc => hd ⟨c, hc⟩]
    exact h

theorem OpOk.of_run {P o a w S u w'} (hr : (execOp a.eval o).run P w = .ok (.value u) w') (h : S u w') : OpOk P o a w S := by
  intro ro K Q hK
  refine ⟨fun _ _ => trivial, ?_⟩
  rw [semAt_run (x := .value u) (FW ro).round hr (by intro d e; cases e)]
  exact hK _ _ h

theorem OpOk.of_skip {P o a w S w'} (hr : (execOp a.eval o).run P w = .ok .skip w') (h : S undef w') : OpOk P o a w S := by
  intro ro K Q hK
  refine ⟨fun _ _ => trivial, ?_⟩
  rw [semAt_run (x := .skip) (FW ro).round hr (by intro d e; cases e)]
  exact hK _ _ h

theorem OpOk.of_calls {P o a w S f args w0} (hr : (execOp a.eval o).run P w = .ok (.enter f args) w0) (h : Calls P f args w0 fun e w' => ∃ u, e = .returned u ∧ S u w') : OpOk P o a w S := by
  intro ro K Q hK
  refine ⟨fun _ _ => trivial, ?_⟩
  rw [semAt_run (x := .enter f args) (FW ro).round hr (by intro d e; cases e)]
  refine ⟨fun h => absurd h (by simp [FW, Fence.wide]), ?_⟩
  have h2 : CallsIn Fence.wide 0 P f args w0 fun e w' => ∃ u, e = .returned u ∧ S u w' := callsIn_wide.2 h
  have h3 : CallsIn (FW ro) (0 - 1) P f args w0 fun e w' => ∃ u, e = .returned u ∧ S u w' := h2
  refine h3.mono fun e w' ⟨u, he, hS⟩ => ?_
  subst he
  exact hK _ _ hS

theorem OpOk.of_round {P o a w S l f tmps assign body w0} (hr : (execOp a.eval o).run P w = .ok (.round l f tmps assign body) w0) (h : RoundIn (FW none) 0 P l f tmps assign body w0 fun e w' => ∃ u, e = .returned u ∧ S u w') : OpOk P o a w S := by
  intro ro K Q hK
  refine ⟨fun _ _ => trivial, ?_⟩
  rw [semAt_run (x := .round l f tmps assign body) (FW ro).round hr (by intro d e; cases e)]
  refine ⟨fun h => absurd h (by simp [FW, Fence.wide]), ?_⟩
  have h3 : RoundIn (FW ro) (0 - 1) P l f tmps assign body w0 fun e w' => ∃ u, e = .returned u ∧ S u w' := h
  refine h3.mono fun e w' ⟨u, he, hS⟩ => ?_
  subst he
  exact hK _ _ hS

theorem put_defers (a : Act) (d : Option Tmp) (u : Value) : (a.put d u).defers = a.defers := by cases d <;> rfl

/-- From what the instruction gives to what the operation gives. -/
theorem run_v {P : Program} {s : Sem Value} {w w' : World} {u : Value} (h : s.run P w = .ok u w') : (do pure (Next.value (← s)) : Sem Next).run P w = .ok (.value u) w' := by
  simp [h]

/- ## The operations -/
section
variable {P : Program} {M : Mem} {ι : Map} {g : Get} {w : World} {r : Ref}

theorem boolOf_ok {x : AV} {u : Value} {b : Bool} (h : VR M ι x u) (hb : boolOf x = some b) : u = .bool b := by
  cases h <;> simp [boolOf] at hb
  split at hb <;> simp_all

theorem intOf_ok {x : AV} {u : Value} {n : Int} (h : VR M ι x u) (hb : Ab.intOf x = some n) : ∃ k, u = .int k n := by
  cases h <;> simp [Ab.intOf] at hb
  split at hb <;> simp_all

theorem new_ok (hS : Sim M ι g w) (hr : r.k = 0) (hq : ι r = none) {e : TypeId} {n : Nat} {x : AV} {u : Value} (hx : VR M ι x u) (hn : x.cells.length = n) (h1 : x.cells.all AV.one = true) (hz : 0 < n) :
    ∃ w', (Instr.box e u).run P w = .ok (.pointer (some ⟨w.heap.size, 0, none⟩)) w' ∧ QOut M ι g w r (.ptr r 0 0) [⟨n, [x], false, false⟩] (.pointer (some ⟨w.heap.size, 0, none⟩)) w' := by
  have hcs := hx.cells
  have hsz : u.cells.size = n := by have := hcs.1; simp at this; omega
  obtain ⟨h2, h3⟩ := hS.alloc (q := r) hq (w' := w.alloc (.cells u.cells e)) (arr := u.cells) (T := e) (fz := (0, 0)) ⟨rfl, rfl, rfl, rfl⟩ ⟨n, [x], false, false⟩ hz 1 (by simpa using hsz) (by simp) (by simp) (by simp [hn])
    (by
      intro i j e' y he hy
      cases i with
      | succ i => simp at he
      | zero =>
        simp at he
        subst he
        have hj : j < u.cells.size := by have := (List.getElem?_eq_some_iff.1 hy).1; omega
        refine ⟨u.cells[j], by simp, ?_, ?_⟩
        · have hv := hcs.2 j y u.cells[j] hy (by simp [hj])
          exact hv.one (by simp only [List.all_eq_true] at h1; exact h1 y (List.mem_of_getElem? hy))
        · simpa [Blk.map] using hcs.2 j y u.cells[j] hy (by simp [hj]))
  refine ⟨w.alloc (.cells u.cells e), by simp [Instr.box, newVar, newRow], M, _, ?_, by rw [addK_one _ _ hr]; exact h2, by rw [addK_one _ _ hr]; exact h3, ?_⟩
  · have := VR.ptr (M := M) (ι := updM ι r ⟨w.heap.size, n, 1⟩) (r := r) (i := 0) (j := 0) (l := ⟨w.heap.size, n, 1⟩) (by simp [updM]) hz
    simpa using this
  · intro q hq' hk
    have : q ≠ r := by intro e; exact hk 0 (by simp) (by rw [e]; cases r; simp_all)
    simpa [updM, this] using hq'

theorem qAlloc_ok (hS : Sim M ι g w) (hr : r.k = 0) (hq : ι r = none) {e : TypeId} {x : AV} {bs : List Blk} (h : qAlloc P r e = some (x, bs)) :
    ∃ u w', (Instr.alloc e true (.tuple #[])).run P w = .ok u w' ∧ QOut M ι g w r x bs u w' := by
  unfold qAlloc at h
  split at h
  · rename_i z n hz hn
    split at h
    · rename_i hc
      cases h
      obtain ⟨u, hu, hv⟩ := run_zero hz w
      obtain ⟨w', h1, h2⟩ := new_ok (P := P) (e := e) hS hr hq (ofValue_ok hv) hc.1 hc.2.1 hc.2.2
      refine ⟨_, w', ?_, h2⟩
      have : (Instr.alloc e true (.tuple #[])).run P w = (Instr.box e u).run P w := by simp [Instr.alloc, hu, Instr.box]
      rw [this]; exact h1
    · cases h
  · cases h

theorem qBox_ok (hS : Sim M ι g w) (hr : r.k = 0) (hq : ι r = none) {e : TypeId} {y x : AV} {u0 : Value} (hy : VR M ι y u0) {bs : List Blk} (h : qBox P r e (some y) = some (x, bs)) :
    ∃ u w', (Instr.box e u0).run P w = .ok u w' ∧ QOut M ι g w r x bs u w' := by
  unfold qBox at h
  split at h
  · rename_i y' n he hn
    cases he
    split at h
    · rename_i hc
      cases h
      obtain ⟨w', h1, h2⟩ := new_ok (P := P) (e := e) hS hr hq hy hc.1 hc.2.1 hc.2.2
      exact ⟨_, w', h1, h2⟩
    · cases h
  · cases h

theorem qLoad_ok (hS : Sim M ι g w) {t : TypeId} {y x : AV} {u0 : Value} (hy : VR M ι y u0) {bs : List Blk} (h : qLoad P g t (some y) = some (x, bs)) :
    bs = [] ∧ ∃ u, (Instr.loadAt t u0).run P w = .ok u w ∧ VR M ι x u := by
  unfold qLoad at h
  split at h
  · rename_i r' i j ag n he hg hn
    cases he
    split at h
    · rename_i b hb
      simp only [qVal, Option.map_eq_some_iff] at h
      obtain ⟨y', hy', he⟩ := h
      cases he
      exact ⟨rfl, load_ok hg hn hS hy hb hy'⟩
    · cases h
  · rename_i esz es i j ag n he hg hn
    cases he
    simp only [qVal, Option.map_eq_some_iff] at h
    obtain ⟨y', hy', he⟩ := h
    cases he
    exact ⟨rfl, iload_ok hg hn hS.mem hy hy'⟩
  · cases h

theorem part_ok {t : TypeId} {cs : List AV} {vs : Array Value} {off : Nat} {x : AV} (hv : VRs M ι cs vs.toList) (h : partAV P t cs off = some x) : ∃ u, (part t vs off).run P w = .ok u w ∧ VR M ι x u := by
  unfold partAV at h
  split at h
  · rename_i n hg hn
    split at h
    · rename_i hle
      cases h
      refine ⟨.agg (vs.extract off (off + n)), by simp [part, run_isAgg hg, run_sizeOf hn], VR.agg_iff.2 ?_⟩
      have := (hv.drop off).take n
      have e : (vs.extract off (off + n)).toList = (vs.toList.drop off).take n := by
        rw [Array.toList_extract, List.extract_eq_take_drop, Nat.add_sub_cancel_left]
      rw [e]
      exact this
    · cases h
  · rename_i hg
    have hlt := (List.getElem?_eq_some_iff.1 h).1
    have hlt' : off < vs.size := by have := hv.1; simp at this; omega
    refine ⟨vs[off], by simp [part, run_isAgg hg, Array.getElem?_eq_getElem hlt'], hv.2 off x _ h (by simp [hlt'])⟩
  · cases h

theorem VR.aggOf {cs : List AV} {u : Value} (h : VR M ι (.agg cs) u) : ∃ vs, u = .agg vs ∧ VRs M ι cs vs.toList := by
  cases h with | agg hl hh => exact ⟨_, rfl, VR.agg_iff.1 (.agg hl hh)⟩

theorem tfield_ok {t : TypeId} {f off : Nat} {ft : TypeId} (h : tfield P t f = some (off, ft)) : ∃ fs fd, P.underlying t = some (.struct fs) ∧ fs[f]? = some fd ∧ fd.offset = off ∧ fd.type = ft := by
  unfold tfield at h
  split at h
  · rename_i fs hfs
    simp only [Option.map_eq_some_iff] at h
    obtain ⟨fd, hfd, he⟩ := h
    cases he
    exact ⟨fs, fd, hfs, hfd, rfl, rfl⟩
  · cases h

theorem qField_ok {t : TypeId} {f : Nat} {y x : AV} {u0 : Value} (hy : VR M ι y u0) {bs : List Blk} (h : qField P t (some y) f = some (x, bs)) :
    bs = [] ∧ ∃ u, (Instr.field t u0 f).run P w = .ok u w ∧ VR M ι x u := by
  unfold qField at h
  split at h
  · rename_i off ft cs hf he
    cases he
    simp only [qVal, Option.map_eq_some_iff] at h
    obtain ⟨y', hy', he⟩ := h
    cases he
    obtain ⟨vs, rfl, hvs⟩ := hy.aggOf
    obtain ⟨fs, fd, h1, h2, rfl, rfl⟩ := tfield_ok hf
    obtain ⟨u, hu, hv⟩ := part_ok (w := w) hvs hy'
    exact ⟨rfl, u, by simp [Instr.field, run_und h1, h2, asAgg, hu], hv⟩
  · cases h

theorem fieldPlaces_ok {t : TypeId} {f off s : Nat} (h : fieldPlaces P t f = some (off, s)) : ∃ fs fd, P.underlying t = some (.struct fs) ∧ fs[f]? = some fd ∧ fd.offset = off ∧ tsize P fd.type = some s := by
  unfold fieldPlaces at h
  split at h
  · rename_i off' ft hf
    simp only [Option.map_eq_some_iff] at h
    obtain ⟨n, hn, he⟩ := h
    cases he
    obtain ⟨fs, fd, h1, h2, h3, h4⟩ := tfield_ok hf
    exact ⟨fs, fd, h1, h2, h3, h4 ▸ hn⟩
  · cases h

theorem qFieldAddr_ok {t : TypeId} {f : Nat} {y x : AV} {u0 : Value} (hy : VR M ι y u0) {bs : List Blk} (h : qFieldAddr P t (some y) f = some (x, bs)) :
    bs = [] ∧ ∃ u, (Instr.fieldAt t u0 f).run P w = .ok u w ∧ VR M ι x u := by
  unfold qFieldAddr at h
  split at h
  · rename_i off s hf
    obtain ⟨fs, fd, h1, h2, rfl, h4⟩ := fieldPlaces_ok hf
    split at h
    · rename_i hs
      have go : ∀ (b o : Nat), u0 = .pointer (some ⟨b, o, none⟩) → (Instr.fieldAt t u0 f).run P w = .ok (.pointer (some ⟨b, o + fd.offset, none⟩)) w := by
        intro b o e
        subst e
        simp [Instr.fieldAt, run_und h1, h2, Instr.sureAddr, fieldPlace, run_sizeOf h4, show s ≠ 0 by omega, add_none]
      split at h
      · rename_i r' i j he
        cases he
        cases h
        cases hy with | ptr hl hzl =>
        rename_i l
        exact ⟨rfl, _, go _ _ rfl, by rw [Nat.add_assoc]; exact .ptr hl hzl⟩
      · rename_i n es i j he
        cases he
        cases h
        cases hy with | iptr cell hm he hh =>
        rename_i b o
        exact ⟨rfl, _, go _ _ rfl, by rw [show o + (i * n + j) + fd.offset = o + (i * n + (j + fd.offset)) by omega]; exact .iptr cell hm he hh⟩
      · cases h
    · cases h
  · cases h

theorem telem_ok {t e : TypeId} (h : telem P t = some e) : P.underlying t = some (.slice e) := by
  unfold telem at h
  split at h
  · cases h; assumption
  · cases h

theorem tarr_ok {t e : TypeId} {n : Nat} (h : tarr P t = some (n, e)) : P.underlying t = some (.array n e) := by
  unfold tarr at h
  split at h
  · cases h; assumption
  · cases h

theorem qIndexAddr_ok (hS : Sim M ι g w) {t : TypeId} {y z x : AV} {u0 u1 : Value} (hy : VR M ι y u0) (hz : VR M ι z u1) {bs : List Blk} (h : qIndexAddr P g t (some y) (some z) = some (x, bs)) :
    bs = [] ∧ ∃ u, (Instr.indexAt t u0 u1).run P w = .ok u w ∧ VR M ι x u := by
  unfold qIndexAddr at h
  simp only [Option.bind_some] at h
  split at h
  · rename_i k hk
    obtain ⟨ki, rfl⟩ := intOf_ok hz hk
    split at h
    · rename_i e he
      have hu := telem_ok he
      split at h
      · rename_i esz es cap s hye hs
        cases hye
        split at h
        · rename_i hc
          obtain ⟨h0, h1, rfl⟩ := hc
          cases h
          cases hy with | isl cell hsp hcc hkk hm hes hh =>
          rename_i a c
          refine ⟨rfl, .pointer (some (a.add (k.toNat * s))), ?_, ?_⟩
          · simp [Instr.indexAt, asIntOf, run_und hu, h0, h1, run_sizeOf hs]
          · have hsp := hsp.resolve_right (by intro e; subst e; simp at h1; omega)
            rw [addr_eta hsp, add_none]
            have := VR.iptr (M := M) (ι := ι) (i := k.toNat) (j := 0) (b := a.block) (o := a.off) cell hm hes hh
            simpa using this
        · cases h
      · rename_i r' off len cap s hye hs
        cases hye
        split at h
        · rename_i b hb
          split at h
          · rename_i hc
            obtain ⟨h0, h1, hse⟩ := hc
            cases h
            cases hy with | osl hr hbb hsp ha hcc hn hkk hzl =>
            rename_i l a c
            obtain ⟨l', hl', hbk⟩ := hS.live r' b hb
            rw [hr] at hl'; cases hl'
            refine ⟨rfl, .pointer (some (a.add (k.toNat * s))), ?_, ?_⟩
            · simp [Instr.indexAt, asIntOf, run_und hu, h0, h1, run_sizeOf hs]
            · have hoff : a.off = off * l.esz := by
                rcases ha with h | h
                · omega
                · exact h
              rw [addr_eta hsp, add_none, hbb, hoff, hse, ← hbk.esz, ← Nat.add_mul]
              have := VR.ptr (M := M) (ι := ι) (i := off + k.toNat) (j := 0) hr hzl
              simpa using this
          · cases h
        · cases h
      · cases h
    · split at h
      · rename_i n e ha
        have hu := tarr_ok ha
        have go : ∀ (b o s : Nat), u0 = .pointer (some ⟨b, o, none⟩) → tsize P e = some s → 0 ≤ k → k < n → (Instr.indexAt t u0 (.int ki k)).run P w = .ok (.pointer (some ⟨b, o + k.toNat * s, none⟩)) w := by
          intro b o s e h1 h2 h3
          subst e
          simp [Instr.indexAt, asIntOf, run_und hu, Instr.sureAddr, h2, h3, run_sizeOf h1, add_none]
        split at h
        · rename_i r' i j s hye hs
          cases hye
          split at h
          · rename_i hc
            cases h
            cases hy with | ptr hl hzl =>
            exact ⟨rfl, _, go _ _ _ rfl hs hc.1 hc.2, by rw [Nat.add_assoc]; exact .ptr hl hzl⟩
          · cases h
        · rename_i esz es i j s hye hs
          cases hye
          split at h
          · rename_i hc
            cases h
            cases hy with | iptr cell hm he hh =>
            rename_i b o
            exact ⟨rfl, _, go _ _ _ rfl hs hc.1 hc.2, by rw [show o + (i * esz + j) + k.toNat * s = o + (i * esz + (j + k.toNat * s)) by omega]; exact .iptr cell hm he hh⟩
          · cases h
        · cases h
      · cases h
  · cases h

theorem qExtract_ok {y x : AV} {u0 : Value} {i : Nat} (hy : VR M ι y u0) {bs : List Blk} (h : qExtract (some y) i = some (x, bs)) :
    bs = [] ∧ ∃ u, (Instr.extract u0 i).run P w = .ok u w ∧ VR M ι x u := by
  unfold qExtract at h
  split at h
  · rename_i vs he
    cases he
    simp only [qVal, Option.map_eq_some_iff] at h
    obtain ⟨y', hy', he⟩ := h
    cases he
    cases hy with | tup h0 hl hh =>
    rename_i us
    have hlt : i < us.size := by have := (List.getElem?_eq_some_iff.1 hy').1; omega
    exact ⟨rfl, us[i], by simp [Instr.extract, Array.getElem?_eq_getElem hlt], hh i _ _ hy' (Array.getElem?_eq_getElem hlt)⟩
  · cases h

theorem qIface_ok {t : TypeId} {y x : AV} {u0 : Value} (hy : VR M ι y u0) {bs : List Blk} (h : qIface P t (some y) = some (x, bs)) :
    bs = [] ∧ ∃ u, (Instr.makeInterface t u0).run P w = .ok u w ∧ VR M ι x u := by
  unfold qIface at h
  split at h
  · cases h
  · rename_i d hne hd
    simp at h
    obtain ⟨rfl, rfl⟩ := h
    refine ⟨rfl, .iface t u0, ?_, .ifc hy⟩
    simp only [Instr.makeInterface, Sem.run_bind, run_und hd, Result.andThen_ok]
    cases d <;> first | rfl | (exact absurd hd (hne _))
  · cases h

theorem qAssert_ok {st want : TypeId} {ok : Bool} {y x : AV} {u0 : Value} (hy : VR M ι y u0) {bs : List Blk} (h : qAssert P (some y) want ok = some (x, bs)) :
    bs = [] ∧ ∃ u, (Instr.typeAssert u0 st want ok).run P w = .ok u w ∧ VR M ι x u := by
  have fails : ∀ d, P.underlying want = some d → (∀ ms, d ≠ .interface ms) → ∀ z, tzero P want = some z → ok = true → (u0 = .nilIface ∨ ∃ t v, u0 = .iface t v ∧ t ≠ want) →
      ∃ u, (Instr.typeAssert u0 st want ok).run P w = .ok u w ∧ VR M ι (.tup [z, .v (.bool false)]) u := by
    intro d hd hne z hz hok hu
    subst hok
    obtain ⟨v, hv, hov⟩ := run_zero hz w
    refine ⟨.tuple #[v, .bool false], ?_, ?_⟩
    · simp only [Instr.typeAssert, Sem.run_bind, run_und hd, Result.andThen_ok]
      rcases hu with rfl | ⟨t, x, rfl, hne'⟩
      · cases d <;> first | (simp [hv]; done) | exact absurd rfl (hne _)
      · cases d <;> first | (simp [hv, hne']; done) | exact absurd rfl (hne _)
    · refine .tup (by simp) rfl fun i c u hc hu => ?_
      match i with
      | 0 => simp at hc hu; subst hc; subst hu; exact ofValue_ok hov
      | 1 => simp at hc hu; subst hc; subst hu; exact .v rfl
      | i + 2 => simp at hc
  unfold qAssert at h
  split at h
  · cases h
  · rename_i d t y' hne hd he
    cases he
    cases hy with | ifc hy =>
    rename_i u1
    split at h
    · rename_i ht
      subst ht
      simp at h
      obtain ⟨rfl, rfl⟩ := h
      refine ⟨rfl, (if ok then .tuple #[u1, .bool true] else u1), ?_, ?_⟩
      · simp only [Instr.typeAssert, Sem.run_bind, run_und hd, Result.andThen_ok]
        cases d <;> first | (simp; done) | exact absurd hd (by intro h; exact hne _ h)
      · cases ok with
        | false => simpa using hy
        | true =>
          simp only [if_true]
          refine .tup (by simp) rfl fun i c u hc hu => ?_
          match i with
          | 0 => simp at hc hu; subst hc; subst hu; exact hy
          | 1 => simp at hc hu; subst hc; subst hu; exact .v rfl
          | i + 2 => simp at hc
    · rename_i ht
      split at h
      · rename_i hok
        simp at h
        obtain ⟨z, hz, rfl, rfl⟩ := h
        exact ⟨rfl, fails d hd hne z hz hok (.inr ⟨t, u1, rfl, ht⟩)⟩
      · cases h
  · rename_i d hne hd he
    cases he
    split at h
    · rename_i hok
      simp at h
      obtain ⟨z, hz, rfl, rfl⟩ := h
      cases hy
      exact ⟨rfl, fails d hd hne z hz hok (.inl rfl)⟩
    · cases h
  · cases h

end
end Go.Ab
