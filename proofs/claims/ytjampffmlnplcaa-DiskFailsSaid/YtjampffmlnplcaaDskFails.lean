/-
  The first writes are done, and no others. No statement of a seat is proved here.
-/
import Derived.Test.YtjampffmlnplcaaDskLaw
import Derived.Test.YtjampffmlnplcaaRdVl13
set_option linter.unusedVariables false
set_option linter.unusedSimpArgs false
set_option linter.unusedSectionVars false
set_option linter.unnecessarySimpa false
set_option maxRecDepth 100000
namespace Go.Proofs.Ytjampffmlnplcaa
open Go.Ab
attribute [local simp] depth_eq callRes_V callG_frz keep thr appRes_G appFine_s appG_n appG_s roomB List.take_of_length_le
theorem key_wr (q : Int) (b : List UInt8) : ∀ l m : List Sec, keyS l = keyS m → keyS (wrR q b l) = keyS (wrR q b m) := by
  intro l
  induction l with
  | nil =>
    intro m h
    cases m with
    | nil => rfl
    | cons p m => simp [keyS] at h
  | cons p l ih =>
    intro m h
    cases m with
    | nil => simp [keyS] at h
    | cons p' m =>
      simp only [keyS, List.map_cons, List.cons.injEq, Prod.mk.injEq] at h
      obtain ⟨⟨h1, h2⟩, h3⟩ := h
      have ih' := ih m h3
      unfold wrR
      rw [h1]
      have h4 : keyS (twL l) = keyS (twL m) := by rw [key_tw, key_tw]; exact h3
      simp only [keyS] at ih' h4 ⊢
      split
      · simp [twS, h1, h2, ih']
      · split <;> simp [twS, newS, h1, h2, h4]
def encI (l : List Int) : List AV := l.map aI
theorem fails_loop {X0 X1 : AV} {ql : List Int} {st lf0 n : Int} {dd0 : Bool} (hX1 : Sl 1 (encI ql) X1) (hql : ql.length ≤ 30) (hn : 0 ≤ n ∧ n ≤ 100) (hst : 0 ≤ st ∧ st < 2147483647) {Q : AV → Heap → Prop} (hQ : ∀ H', Q (aB true) H') :
    ∀ (s : List Int) (k : Nat) (c : Int) (lx ly : List Sec) (Xx Xy : AV) (fx : Int) (dx : Bool) (H : Heap), ql.drop k = s → k ≤ ql.length → 0 ≤ c → c ≤ k → Sl 2 (encS lx) Xx → Sl 2 (encS ly) Xy → (∀ s ∈ lx, SecOk s) → (∀ s ∈ ly, SecOk s) →
      lx.length ≤ 200 + k → ly.length ≤ 200 + k → dOk lx (st + 1) fx dx = true → dOk ly (st + 1) (-1) false = true → keyS lx = keyS ly → ((c ≤ n ∧ dx = false ∧ fx = n - c) ∨ (n < c ∧ dx = true ∧ fx = 0)) → Fr H →
      H.get ⟨0, 3, 0, 0⟩ = some ⟨4, [dsk X0 st lf0 dd0], false, false⟩ → H.get ⟨0, 8, 0, 0⟩ = some ⟨4, [dsk Xx (st + 1) fx dx], false, false⟩ → H.get ⟨0, 10, 0, 0⟩ = some ⟨4, [dsk Xy (st + 1) (-1) false], false, false⟩ →
      GoL env Try.f13 0 hd_blindstamplaw12_DiskFails_10 [(13, aI k), (1, X1), (12, aI c), (10, .ptr ⟨0, 10, 0, 0⟩ 0 0), (2, aI n), (8, .ptr ⟨0, 8, 0, 0⟩ 0 0), (3, .ptr ⟨0, 3, 0, 0⟩ 0 0), (7, aB true)] H Q := by
  intro s
  induction s with
  | nil =>
    intro k c lx ly Xx Xy fx dx H hs hk hc0 hck hx hy hox hoy hlx hly hdx hdy hkey hrel hF h3 h8 h10
    obtain rfl := drop_nil hs hk
    have hS := s_Same0 hx hox hy hoy (by omega)
    rw [hkey, decide_eq_true rfl] at hS
    have hxr := hx.r
    have hyr := hy.r
    have e1 := IntWalk.i64_in (st + 1) (by omega)
    clear hox hoy hdx hdy hkey
    simp only [dsk] at h3 h8 h10 hS
    have hln : (encI ql).length = ql.length := by simp [encI]
    have hq := hQ H
    clear hQ
    refine vc_blindstamplaw12_DiskFails_10 _ _ _ _ _ _ _ _ _ _ fun g => ?_
    rcases hrel with ⟨h1, rfl, rfl⟩ | ⟨h1, rfl, rfl⟩
    · have h1' : ¬ n < c := by omega
      clear hF hs
      simp [new_ne, ne_new, new_ne1, ne_new1, gen_put', *, VC_blindstamplaw12_DiskFails_10, hX1.r]
    · clear hF hs
      simp [new_ne, ne_new, new_ne1, ne_new1, gen_put', *, VC_blindstamplaw12_DiskFails_10, hX1.r]
  | cons q s ih =>
    intro k c lx ly Xx Xy fx dx H hs hk hc0 hck hx hy hox hoy hlx hly hdx hdy hkey hrel hF h3 h8 h10
    obtain ⟨hlt, hg, hs', hg'⟩ := drop_cons hs
    have e3 := IntWalk.i64_in ((k : Int) + 1) (by omega)
    have e4 := IntWalk.i64_in (c + 1) (by omega)
    have hrd : readAt (encI ql) k 0 1 false = some (aI q) := by simp [encI, hg']
    have hln : (encI ql).length = ql.length := by simp [encI]
    have hxr := hx.r
    have hyr := hy.r
    obtain ⟨v, hv⟩ : ∃ v, u8 ((k : Int) + 1) = v := ⟨_, rfl⟩
    have hFu := s_full v
    obtain ⟨b, hb⟩ : ∃ b : List UInt8, b = List.replicate 128 v := ⟨_, rfl⟩
    have hbl : b.length = 128 := by rw [hb]; simp
    rw [← hb] at hFu
    clear hb
    have ih' := fun c lx ly Xx Xy fx dx H => ih (k + 1) c lx ly Xx Xy fx dx H hs' (by omega)
    rw [show ((k + 1 : Nat) : Int) = (k : Int) + 1 from by omega] at ih'
    clear ih hs hs' hQ
    by_cases hq : 0 ≤ q ∧ q < 6146
    · by_cases hcn : c < n
      · obtain ⟨rfl, rfl⟩ : dx = false ∧ fx = n - c := by
          rcases hrel with ⟨_, h1, h2⟩ | ⟨h1, _⟩
          · exact ⟨h1, h2⟩
          · omega
        have hW := s_WriteDo (xb := .isl 1 (by8 b) none) hx hox (by omega) (Sl.mk _ _) hdx hq hbl (by omega)
        have hW2 := s_WriteDo (xb := .isl 1 (by8 b) none) hy hoy (by omega) (Sl.mk _ _) hdy hq hbl (by omega)
        rw [wrL_eq, if_pos (by omega)] at hW
        rw [wrL_eq, if_neg (by omega)] at hW2
        have ihh := ih' (c + 1) (wrR q b lx) (wrR q b ly) (.isl 2 (encS (wrR q b lx)) none) (.isl 2 (encS (wrR q b ly)) none) (n - c - 1) false
        have g1 := wr_len q b lx
        have g2 := wr_len q b ly
        have g3 := wr_ok q b lx
        have g4 := wr_ok q b ly
        have hd1 : dOk (wrR q b lx) (st + 1) (n - c - 1) false = true := by
          have h1 := asc_wr q b hq.2 hbl lx (-1) (by omega) (dOk_asc hdx)
          unfold dOk headOk
          rw [h1]
          simp
          omega
        have hd2 : dOk (wrR q b ly) (st + 1) (-1) false = true := by
          have h1 := asc_wr q b hq.2 hbl ly (-1) (by omega) (dOk_asc hdy)
          unfold dOk headOk
          rw [h1]
          simp
          omega
        have ihh := fun H => ihh H (by omega) (by omega) (Sl.mk _ _) (Sl.mk _ _) g3 g4 (by omega) (by omega) hd1 hd2 (key_wr q b lx ly hkey) (.inl ⟨by omega, rfl, by omega⟩)
        clear ih' hox hoy hdx hdy hkey hrel g1 g2 g3 g4 hd1 hd2 hq
        generalize encS (wrR q b lx) = W1 at *
        generalize encS (wrR q b ly) = W2 at *
        simp only [dsk] at h3 h8 h10 hW hW2 ihh
        refine vc_blindstamplaw12_DiskFails_10 _ _ _ _ _ _ _ _ _ _ fun g => ?_
        simp [new_ne, ne_new, new_ne1, ne_new1, gen_put', *, VC_blindstamplaw12_DiskFails_10, hX1.r, hX1.idx]
        exact ihh _ (by simp (maxDischargeDepth := 12) [Heap.get_put, Fr_cons, Fr_consK, Fr.nil, Fr_put, new_ne, ne_new, new_ne1, ne_new1, get_new, get_new1, gen_put', *]) (by simp (maxDischargeDepth := 12) [Heap.get_put, Fr_cons, Fr_consK, Fr.nil, Fr_put, new_ne, ne_new, new_ne1, ne_new1, get_new, get_new1, gen_put', *]) (by simp (maxDischargeDepth := 12) [Heap.get_put, Fr_cons, Fr_consK, Fr.nil, Fr_put, new_ne, ne_new, new_ne1, ne_new1, get_new, get_new1, gen_put', *]) (by simp (maxDischargeDepth := 12) [Heap.get_put, Fr_cons, Fr_consK, Fr.nil, Fr_put, new_ne, ne_new, new_ne1, ne_new1, get_new, get_new1, gen_put', *])
      · obtain ⟨hdl, rfl⟩ : (dx = true ∨ fx = 0) ∧ fx = 0 := by
          rcases hrel with ⟨h0, h1, h2⟩ | ⟨h1, h2, h3⟩
          · have : fx = 0 := by omega
            exact ⟨.inr this, this⟩
          · exact ⟨.inl h2, h3⟩
        have hW := s_WriteDead (xb := .isl 1 (by8 b) none) hx hox (by omega) (Sl.mk _ _) hdx hq hbl hdl
        have hd1 : dOk (twL lx) (st + 1) 0 true = true := by
          have h1 := dOk_asc hdx
          unfold dOk headOk
          rw [tw_asc, h1]
          simp
          omega
        have ihh := fun H => ih' (c + 1) (twL lx) ly (vw (twA Xx lx)) Xy 0 true H (by omega) (by omega) (vw_sl hx) hy (twL_ok lx) hoy (by simp; omega) (by omega) hd1 hdy (by rw [key_tw]; exact hkey) (.inr ⟨by omega, rfl, rfl⟩)
        have hYr := (vw_sl hx).r
        generalize vw (twA Xx lx) = Y at *
        clear ih' hox hoy hdx hdy hkey hrel hd1 hq hdl
        simp only [dsk] at h3 h8 h10 hW ihh
        refine vc_blindstamplaw12_DiskFails_10 _ _ _ _ _ _ _ _ _ _ fun g => ?_
        simp [new_ne, ne_new, new_ne1, ne_new1, gen_put', *, VC_blindstamplaw12_DiskFails_10, hX1.r, hX1.idx]
        exact ihh _ (by simp (maxDischargeDepth := 12) [Heap.get_put, Fr_cons, Fr_consK, Fr.nil, Fr_put, new_ne, ne_new, new_ne1, ne_new1, get_new, get_new1, gen_put', *]) (by simp (maxDischargeDepth := 12) [Heap.get_put, Fr_cons, Fr_consK, Fr.nil, Fr_put, new_ne, ne_new, new_ne1, ne_new1, get_new, get_new1, gen_put', *]) (by simp (maxDischargeDepth := 12) [Heap.get_put, Fr_cons, Fr_consK, Fr.nil, Fr_put, new_ne, ne_new, new_ne1, ne_new1, get_new, get_new1, gen_put', *]) (by simp (maxDischargeDepth := 12) [Heap.get_put, Fr_cons, Fr_consK, Fr.nil, Fr_put, new_ne, ne_new, new_ne1, ne_new1, get_new, get_new1, gen_put', *])
    · have hW := s_WriteBad (xb := .isl 1 (by8 b) none) hx hox (by omega) (Sl.mk 1 (by8 b)) (q := q) (st := st + 1) (lf := fx) (dd := dx) (by rintro ⟨_, h, _⟩; exact hq h)
      rw [if_pos hdx] at hW
      have ihh := fun H => ih' c lx ly Xx Xy fx dx H hc0 (by omega) hx hy hox hoy (by omega) (by omega) hdx hdy hkey hrel
      clear ih' hox hoy hdx hdy hkey hrel
      simp only [dsk, zeroD] at h3 h8 h10 hW ihh
      refine vc_blindstamplaw12_DiskFails_10 _ _ _ _ _ _ _ _ _ _ fun g => ?_
      by_cases hq0 : 0 ≤ q
      · have hq1 : ¬ q < 6146 := fun h => hq ⟨hq0, h⟩
        clear hq
        simp [new_ne, ne_new, new_ne1, ne_new1, gen_put', *, VC_blindstamplaw12_DiskFails_10, hX1.r, hX1.idx]
        exact ihh _ (by simp (maxDischargeDepth := 12) [Heap.get_put, Fr_cons, Fr_consK, Fr.nil, Fr_put, new_ne, ne_new, new_ne1, ne_new1, get_new, get_new1, gen_put', *]) (by simp (maxDischargeDepth := 12) [Heap.get_put, Fr_cons, Fr_consK, Fr.nil, Fr_put, new_ne, ne_new, new_ne1, ne_new1, get_new, get_new1, gen_put', *]) (by simp (maxDischargeDepth := 12) [Heap.get_put, Fr_cons, Fr_consK, Fr.nil, Fr_put, new_ne, ne_new, new_ne1, ne_new1, get_new, get_new1, gen_put', *]) (by simp (maxDischargeDepth := 12) [Heap.get_put, Fr_cons, Fr_consK, Fr.nil, Fr_put, new_ne, ne_new, new_ne1, ne_new1, get_new, get_new1, gen_put', *])
      · clear hq
        simp [new_ne, ne_new, new_ne1, ne_new1, gen_put', *, VC_blindstamplaw12_DiskFails_10, hX1.r, hX1.idx]
        exact ihh _ (by simp (maxDischargeDepth := 12) [Heap.get_put, Fr_cons, Fr_consK, Fr.nil, Fr_put, new_ne, ne_new, new_ne1, ne_new1, get_new, get_new1, gen_put', *]) (by simp (maxDischargeDepth := 12) [Heap.get_put, Fr_cons, Fr_consK, Fr.nil, Fr_put, new_ne, ne_new, new_ne1, ne_new1, get_new, get_new1, gen_put', *]) (by simp (maxDischargeDepth := 12) [Heap.get_put, Fr_cons, Fr_consK, Fr.nil, Fr_put, new_ne, ne_new, new_ne1, ne_new1, get_new, get_new1, gen_put', *]) (by simp (maxDischargeDepth := 12) [Heap.get_put, Fr_cons, Fr_consK, Fr.nil, Fr_put, new_ne, ne_new, new_ne1, ne_new1, get_new, get_new1, gen_put', *])
theorem fails_law {l : List Sec} {x : AV} {st lf : Int} {dd : Bool} (hx : Sl 2 (encS l) x) (hok : ∀ s ∈ l, SecOk s) {X1 : AV} {ql : List Int} (hX1 : Sl 1 (encI ql) X1) (n : Int) : limf env 13 [dsk x st lf dd, X1, aI n] = some (aB true) := by
  refine limf_of (fn := Try.f13) (c := bd_blindstamplaw12_DiskFails) rfl (by kernel_rfl) (by kernel_rfl) (by kernel_rfl) (by kernel_rfl) ?_; refine vc_blindstamplaw12_DiskFails _ _ _ _ _ fun g => ?_
  have hal := s_alive
  have hln : (encI ql).length = ql.length := by simp [encI]
  obtain ⟨t, hG, hGl⟩ := s_Great (st := st) (lf := lf) (dd := dd) hx hok
  cases t with
  | true =>
    simp only [dsk] at hG ⊢
    simp [new_ne, ne_new, new_ne1, ne_new1, gen_put', *, VC_blindstamplaw12_DiskFails, hx.r]
  | false =>
    have hl := hGl rfl
    clear hGl
    by_cases c1 : 30 < ql.length
    · have c1' : (30 : Int) < ql.length := by omega
      clear hok
      simp only [dsk] at hG ⊢
      simp [new_ne, ne_new, new_ne1, ne_new1, gen_put', *, VC_blindstamplaw12_DiskFails, hx.r, hX1.r]
    have c1' : ¬ (30 : Int) < ql.length := by omega
    by_cases c2 : n < 0
    · clear hok
      simp only [dsk] at hG ⊢
      simp [new_ne, ne_new, new_ne1, ne_new1, gen_put', *, VC_blindstamplaw12_DiskFails, hx.r, hX1.r]
    by_cases c3 : 100 < n
    · clear hok
      simp only [dsk] at hG ⊢
      simp [new_ne, ne_new, new_ne1, ne_new1, gen_put', *, VC_blindstamplaw12_DiskFails, hx.r, hX1.r]
    have hS := s_DStart (st := st) (lf := lf) (dd := dd) hx hok (by omega) n
    have hT := s_DStart (st := st) (lf := lf) (dd := dd) hx hok (by omega) (-1)
    rw [if_neg (show ¬ (n < -1 ∨ 2147483648 ≤ n) by omega)] at hS
    rw [if_neg (show ¬ ((-1 : Int) < -1 ∨ (2147483648 : Int) ≤ -1) by omega)] at hT
    cases hd : dOk l st lf dd with
    | false =>
      simp only [hd, Bool.false_eq_true, if_false] at hS hT
      clear hok
      simp only [dsk, zeroD] at hG hS hT ⊢
      simp [new_ne, ne_new, new_ne1, ne_new1, gen_put', *, VC_blindstamplaw12_DiskFails, hx.r, hX1.r]
    | true =>
      simp only [hd, if_true] at hS hT
      by_cases hst : st + 1 ≥ 2147483648
      · simp only [if_pos hst] at hS hT
        clear hok
        simp only [dsk, zeroD] at hG hS hT ⊢
        simp [new_ne, ne_new, new_ne1, ne_new1, gen_put', *, VC_blindstamplaw12_DiskFails, hx.r, hX1.r]
      · simp only [if_neg hst] at hS hT
        have hst0 : 0 ≤ st := by
          unfold dOk headOk at hd
          simp at hd
          omega
        have hd1 : ∀ f : Int, -1 ≤ f → f < 2147483648 → dOk (twL l) (st + 1) f false = true := by
          intro f h1 h2
          have h3 := dOk_asc hd
          unfold dOk headOk
          rw [tw_asc, h3]
          simp
          omega
        have hy := vw_sl hx
        have hL := fun (Q : AV → Heap → Prop) (hQ : ∀ H', Q (aB true) H') (H : Heap) => fails_loop (X0 := x) (lf0 := lf) (dd0 := dd) (st := st) (n := n) hX1 (by omega) ⟨by omega, by omega⟩ ⟨hst0, by omega⟩ hQ ql 0 0 (twL l) (twL l) (vw (twA x l)) (vw (twA x l)) n false H rfl (by omega) (by omega) (by omega) hy hy (twL_ok l) (twL_ok l) (by simp; omega) (by simp; omega) (hd1 n (by omega) (by omega)) (hd1 (-1) (by omega) (by omega)) rfl (.inl ⟨by omega, rfl, by omega⟩)
        have hyr := hy.r
        generalize vw (twA x l) = Y at *
        clear hok hd1 hd hy
        simp only [dsk] at hG hS hT hL ⊢
        simp [new_ne, ne_new, new_ne1, ne_new1, gen_put', *, VC_blindstamplaw12_DiskFails, hx.r, hX1.r]
        exact hL _ (fun H' => by simp) _ (by simp (maxDischargeDepth := 12) [Heap.get_put, Fr_cons, Fr_consK, Fr.nil, Fr_put, new_ne, ne_new, new_ne1, ne_new1, get_new, get_new1, gen_put', *]) (by simp (maxDischargeDepth := 12) [Heap.get_put, Fr_cons, Fr_consK, Fr.nil, Fr_put, new_ne, ne_new, new_ne1, ne_new1, get_new, get_new1, gen_put', *]) (by simp (maxDischargeDepth := 12) [Heap.get_put, Fr_cons, Fr_consK, Fr.nil, Fr_put, new_ne, ne_new, new_ne1, ne_new1, get_new, get_new1, gen_put', *]) (by simp (maxDischargeDepth := 12) [Heap.get_put, Fr_cons, Fr_consK, Fr.nil, Fr_put, new_ne, ne_new, new_ne1, ne_new1, get_new, get_new1, gen_put', *])
end Go.Proofs.Ytjampffmlnplcaa
