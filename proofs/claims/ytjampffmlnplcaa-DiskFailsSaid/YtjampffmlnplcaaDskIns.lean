/-
  Disks: a sector put in. No statement of a seat is proved here.
-/
import Derived.Test.YtjampffmlnplcaaDskFns
import Derived.Test.YtjampffmlnplcaaRdVc2
set_option linter.unusedVariables false
set_option linter.unusedSimpArgs false
set_option linter.unusedSectionVars false
set_option linter.unnecessarySimpa false
set_option maxRecDepth 100000
namespace Go.Proofs.Ytjampffmlnplcaa
open Go.Ab
attribute [local simp] depth_eq callRes_V callG_frz keep thr appRes_G appFine_s appG_n appG_s roomB List.take_of_length_le
theorem callRes_T {f : FuncId} (hm : (env.mode f == 2) = true) (dep : Nat) (H : Heap) (r : Ref) (first args captured : List AV) :
    callRes env true (limf env) (limt env dep) H r (some (.fn (.func f) first captured)) args = limt env dep (.fn f) (first ++ args ++ captured) H := by
  have h : env.mode f = 2 := by simpa using hm
  simp [callRes, qCall, wCall, nRes, orW, h]
theorem limt_spec {dep : Nat} {f : FuncId} {args : List AV} {H : Heap} {z : AV × Heap} (h : env.thrSpec f args H = some z) : limt env dep (.fn f) args H = some z :=
  limt_eq.2 ⟨0, fun m _ => by unfold thrCall; simp only [h]⟩
def RowS (es : List AV) (H : Heap) (s : AV) : Prop := (s = aNil ∧ es = []) ∨ (∃ r, s = .osl r 0 0 (some 0) ∧ es = [] ∧ H.get r = some ⟨2, [], true, false⟩) ∨ ∃ r, s = .osl r 0 es.length none ∧ H.get r = some ⟨2, es, true, false⟩
theorem fr_get {H : Heap} (hF : Fr H) {d t : Nat} : H.get ⟨d, t, H.gen d t, 0⟩ = none := hF d t _ 0 (Nat.le_refl _)
theorem s_Insert {es : List AV} {H : Heap} {s v : AV} {n : Nat} {rv : Ref} {cv : Option Nat} {fz : Bool} (hs : RowS es H s) (hv : H.get rv = some ⟨2, [v], true, fz⟩) (hc : (cv.getD 1) = 1) (hsv : s.at? ≠ some rv) (hn : n ≤ es.length) (hl : es.length < 1000000) (hF : Fr H) (dep : Nat) :
    ∃ r' H', limt env dep (.fn 101) [s, aI n, .osl rv 0 1 cv] H = some (.osl r' 0 (es.length + 1) none, H') ∧ H'.get r' = some ⟨2, insAt es n v, true, false⟩ ∧ Fr H' ∧
      ∀ q b, H.get q = some b → s.at? ≠ some q → H'.get q = some b ∧ r' ≠ q := by
  by_cases hlt : n < es.length
  · rcases hs with ⟨rfl, rfl⟩ | ⟨r, rfl, rfl, hr⟩ | ⟨r, rfl, hr⟩
    · exact absurd hlt (by simp)
    · exact absurd hlt (by simp)
    · have hne : r ≠ rv := by
        intro e
        rw [e] at hsv
        exact hsv rfl
      have hbig : (es.length + 1) * 32 ≤ roomB := by unfold roomB; omega
      have hsp : insSpec Try.prog 91 40 [.osl r 0 es.length none, aI n, .osl rv 0 1 cv] H = some (.osl ⟨r.d, r.t, H.gen r.d r.t, 0⟩ 0 (es.length + 1) none, insH 40 H r ⟨2, insAt es n v, true, false⟩) := by
        have h1 : (telem Try.prog 91).bind (tsize Try.prog) = some 2 := by kernel_rfl
        have h2 : (telem Try.prog 91).bind (tbytes Try.prog) = some 32 := by kernel_rfl
        simp only [insSpec, hr, hv, h1, h2]
        rw [if_pos (by refine ⟨?_, ?_, ?_, ?_, ?_, ?_, ?_, ?_, ?_, ?_, ?_, ?_⟩ <;> first | trivial | exact hne | exact hbig | omega | rfl | decide)]
        rfl
      have hX : H.get (insX 40 H r) = none := fr_get hF
      refine ⟨_, _, limt_spec hsp, ?_, ?_, ?_⟩
      · rw [insH_get 40 _ hX, if_pos rfl]
      · unfold insH insX
        have hg : ∀ d t, (H.put r none).gen d t = H.gen d t := fun d t => Heap.gen_put H r none (by rw [hr]; rfl) d t
        refine Fr_cons (Fr_cons (Fr_put hF (by rw [hr]; rfl) _) (hg _ _).symm _) ?_ _
        rw [Heap.gen_cons, if_neg (fun h => by have := h.1; omega), hg]
      · intro q b hq hsq
        have hqr : q ≠ r := by rintro rfl; exact hsq rfl
        have hn' : (⟨r.d, r.t, H.gen r.d r.t, 0⟩ : Ref) ≠ q := by
          intro e
          rw [← e, fr_get hF] at hq
          cases hq
        exact ⟨by rw [insH_get 40 q hX, if_neg hn', if_neg hqr]; exact hq, hn'⟩
  · obtain rfl : n = es.length := by omega
    have hins : insAt es es.length v = es ++ [v] := by simp [insAt]
    rw [hins]
    clear hn hlt hins
    have hels : Els H.get 2 [v] (.osl rv 0 1 cv) := .inr ⟨rfl, by simp, by simp [elemsOf, hv]⟩
    have own : Own 2 es H s → ∀ dep, ∃ r' H', appRes env.P true H ⟨dep + 1, 25, H.gen (dep + 1) 25, 0⟩ (some 91) (some 91) s (.osl rv 0 1 cv) = some (.osl r' 0 (es.length + 1) none, H') ∧ H'.get r' = some ⟨2, es ++ [v], true, false⟩ ∧ Fr H' ∧
        ∀ q b, H.get q = some b → s.at? ≠ some q → H'.get q = some b ∧ r' ≠ q := by
      intro ho dep
      have h := app_ownN (P := env.P) (t := 91) (t' := 91) (z := 2) (by' := 32) (by kernel_rfl) (by kernel_rfl) H (dep + 1) 25 ho hels (by simp [roomB]; omega) hF
      obtain ⟨s', H', a1, a2, a3, a4⟩ := h
      rcases a2 with ⟨_, h0⟩ | ⟨r', rfl, a2⟩
      · simp at h0
      · refine ⟨r', H', ?_, a2, a3, fun q b h1 h2 => ⟨(a4 q b h1 h2).1, ?_⟩⟩
        · rw [a1]; simp
        · have := (a4 q b h1 h2).2
          rintro rfl
          exact this rfl
    have key : ∀ dep, ∃ r' H', appRes env.P true H ⟨dep + 1, 25, H.gen (dep + 1) 25, 0⟩ (some 91) (some 91) s (.osl rv 0 1 cv) = some (.osl r' 0 (es.length + 1) none, H') ∧ H'.get r' = some ⟨2, es ++ [v], true, false⟩ ∧ Fr H' ∧
        ∀ q b, H.get q = some b → s.at? ≠ some q → H'.get q = some b ∧ r' ≠ q := by
      intro dep
      rcases hs with ⟨rfl, rfl⟩ | ⟨r, rfl, rfl, hr⟩ | ⟨r, rfl, hr⟩
      · exact own (.inl ⟨rfl, rfl⟩) dep
      · have e2 : elZ env.P 91 = 2 := by kernel_rfl
        have e3 : elBy env.P 91 = 32 := by kernel_rfl
        have h := appRes_oslC (P := env.P) (t := 91) (t' := 91) (by kernel_rfl) (by kernel_rfl) true H ⟨dep + 1, 25, H.gen (dep + 1) 25, 0⟩ r 0 0 (.osl rv 0 1 cv) (es := []) (new := [v]) (fz := false) (by rw [e2]; exact hr) (by rw [e2]; simp [hv, elsB]) rfl (.inr ⟨by rw [e3]; simp [roomB], by simp⟩)
        rw [e2, if_neg (by simp)] at h
        refine ⟨_, _, h, ?_, ?_, ?_⟩
        · rw [Heap.get_cons, if_pos rfl]
        · exact Fr_cons hF rfl _
        · intro q b hq _
          have hn' : (⟨dep + 1, 25, H.gen (dep + 1) 25, 0⟩ : Ref) ≠ q := by
            intro e
            rw [← e, fr_get hF] at hq
            cases hq
          exact ⟨by rw [Heap.get_cons, if_neg hn']; exact hq, hn'⟩
      · exact own (.inr ⟨r, rfl, hr⟩) dep
    obtain ⟨r', H', k1, k2, k3, k4⟩ := key dep
    obtain ⟨y, H2, h1, e1, e2⟩ : ∃ y H2, limt env dep (.fn 101) [s, aI es.length, .osl rv 0 1 cv] H = some (y, H2) ∧ y = .osl r' 0 (es.length + 1) none ∧ H2 = H' := by
      refine limtQ_of (fn := Try.f101) (c := bd_slices_Insert___blindstamp_api_Sector_blindstamp_api_Sector_) (by kernel_rfl) (by kernel_rfl) (by kernel_rfl) (by kernel_rfl) (by kernel_rfl) ?_ ?_
      · refine vc_slices_Insert___blindstamp_api_Sector_blindstamp_api_Sector_ _ _ _ _ _ _ fun g => ?_
        rcases hs with ⟨rfl, rfl⟩ | ⟨r, rfl, rfl, hr⟩ | ⟨r, rfl, hr⟩
        · simp [new_ne, ne_new, new_ne1, ne_new1, gen_put', *, VC_slices_Insert___blindstamp_api_Sector_blindstamp_api_Sector_, k1]
          done
        · simp [new_ne, ne_new, new_ne1, ne_new1, gen_put', *, VC_slices_Insert___blindstamp_api_Sector_blindstamp_api_Sector_, k1]
          done
        · simp [new_ne, ne_new, new_ne1, ne_new1, gen_put', *, VC_slices_Insert___blindstamp_api_Sector_blindstamp_api_Sector_, k1]
          done
      · cases h : env.thrSpec 101 [s, aI es.length, .osl rv 0 1 cv] H with
        | none => rfl
        | some w =>
          exfalso
          have h' : insSpec Try.prog 91 40 [s, aI es.length, .osl rv 0 1 cv] H = some (w.1, w.2) := h
          obtain ⟨r, n, i, rv', cv', b, bv, v', z', by', he, hok, _⟩ := insSpec_some h'
          simp only [List.cons.injEq, AV.v.injEq, Value.int.injEq] at he
          obtain ⟨rfl, ⟨_, rfl⟩, _⟩ := he
          unfold insOk at hok
          rcases hs with ⟨e, _⟩ | ⟨q, e, _⟩ | ⟨q, e, _⟩
          · cases e
          · cases e
          · injection e with e1 e2 e3 e4
            omega
    exact ⟨r', H', by rw [h1, e1, e2], k2, k3, k4⟩
end Go.Proofs.Ytjampffmlnplcaa
