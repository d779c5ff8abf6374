/-
  The law of the last grant: its run. No statement of a seat is proved here.
-/
import Derived.Test.YtgooemdlilfkmaaGlMath
import Derived.Test.YtgooemdlilfkmaaPgVl9
import Derived.Test.YtgooemdlilfkmaaPolFns2
set_option linter.unusedVariables false
set_option linter.unusedSimpArgs false
set_option linter.unusedSectionVars false
set_option linter.unnecessarySimpa false
set_option maxRecDepth 100000
namespace Go.Proofs.Ytgooemdlilfkmaa
open Go.Ab
attribute [local simp] depth_eq callRes_V callG_data callG_frz callG_own keep appRes_G appFine_n appFine_s appG_n appG_s roomB appRes_I islFine_some islG_ne List.take_of_length_le qIface_ok qAssert_ok

theorem Gr_mk (u : Int) (lv : UInt8) (cats : UInt32) (ok : Bool) : (⟨u, lv, cats, ok⟩ : Gr).enc = [aI u, a8 lv, a32 cats, aB ok] := rfl
theorem Cl_mk (lv : UInt8) (cats : UInt32) (ok : Bool) : (⟨lv, cats, ok⟩ : Clear).enc = [a8 lv, a32 cats, aB ok] := rfl
theorem gl_alive : limf env 40 [] = some (aB true) := limf_run_of (n := 60000) (by kernel_rfl)
theorem s_GRunE {xu xq x1 : AV} {us : List Clear} {qs : List Quota} {gr : Int} {l : List Gr} (hu : Sl 3 (encCs us) xu) (hq : Sl 5 (encQs qs) xq) (hl : Sl 4 (encGs l) x1) (hql : qs.length < 1000) (hul : us.length < 1000) (hm : mayB us qs gr = false) :
    limf env 36 [.agg [xu, xq, aI gr], x1] = some (.tup [.agg [aNil, aNil, aI 0], aNil, aI 8]) := by
  have hC := s_Check (gr := gr) hu hq (by omega) (by omega)
  rw [hm] at hC
  clear hm
  refine limf_of (fn := Try.f36) (c := bd_grant_Run) rfl (by kernel_rfl) (by kernel_rfl) (by kernel_rfl) (by kernel_rfl) ?_; refine vc_grant_Run _ _ _ _ fun g => ?_
  simp [new_ne, ne_new, new_ne1, ne_new1, gen_put', *, VC_grant_Run, hu.r, hq.r, hl.r, bad]
section
variable {x1 x9 : AV} {l : List Gr} {es : List Int} (hx : Sl 4 (encGs l) x1) (he : Sl 1 (errs es) x9) (hll : l.length < 1000) (hel : es.length = l.length) (user : Int)
include hx he hll hel
theorem last26 {us : List Clear} {yu yq : AV} {gr : Int} (hu : Sl 3 (encCs us) yu) {r8 : Ref} (t8 : r8.t = 8) (h0 : 0 ≤ user) (h1 : user < us.length) {Q : AV → Heap → Prop} :
    ∀ (s : List Gr) (t : List Int) (k : Nat) (i : Int) (w : Clear) (r14 : Ref) (H : Heap), r14.t = 14 → l.drop k = s → es.drop k = t → k ≤ l.length → i = k → H.get r14 = some ⟨3, [.agg w.enc], false, false⟩ → H.get r8 = some ⟨3, [.agg [yu, yq, aI gr]], false, false⟩ →
    us[user.toNat]? = some (wantF user s t w) → (∀ y H', y = aB true → Q y H') →
    GoL env Try.f9 0 hd_blindstamplaw07_GrantLast_26 [(15, aI i), (14, .ptr r14 0 0), (1, x1), (2, aI user), (9, x9), (8, .ptr r8 0 0), (7, aB true)] H Q := by
  intro s
  induction s with
  | nil =>
    rintro t k i w r14 H t14 hs ht hk rfl h14 h8 hw hQ
    obtain rfl := drop_nil hs hk
    have hrd : readAt (encCs us) user.toNat 0 3 true = some (.agg w.enc) := by
      have : us[user.toNat]? = some w := by rw [hw]; cases t <;> rfl
      simp [this, Clear.enc]
    have hh : (0 : Int) ≤ user ∧ user < us.length := ⟨h0, h1⟩
    have hlen : (encCs us).length = us.length := by simp
    refine vc_blindstamplaw07_GrantLast_26 _ _ _ _ _ _ _ _ _ fun g => ?_
    clear hw ht hel
    simp [new_ne, ne_new, new_ne1, ne_new1, gen_put', *, VC_blindstamplaw07_GrantLast_26, hx.len, hu.r, hu.idx, Clear.enc, eqA, eqFs]
    all_goals exact hQ _ _ rfl
  | cons p s ih =>
    rintro t k i w r14 H t14 hs ht hk rfl h14 h8 hw hQ
    obtain ⟨hlt, hg, hs', hg'⟩ := drop_cons hs
    cases t with
    | nil => have := congrArg List.length ht; simp at this; omega
    | cons e t =>
    obtain ⟨hlt2, hg2, ht', hg2'⟩ := drop_cons ht
    obtain ⟨u, lv, cats, ok⟩ := p
    obtain ⟨w1, w2, w3⟩ := w
    have e3 := IntWalk.i64_in ((k : Int) + 1) (by omega)
    have hrd : readAt (encGs l) k 0 4 true = some (.agg [aI u, a8 lv, a32 cats, aB ok]) := by simp [Gr.enc, hg']
    have hre : readAt (errs es) k 0 1 false = some (aI e) := by simp [hg2']
    have hih := fun w H => ih t (k + 1) ((k : Int) + 1) w r14 H t14 hs' ht' (by omega) (by simp)
    have hw' : us[user.toNat]? = some (wantF user s t (if e = 0 ∧ u = user then ⟨lv, cats, ok⟩ else ⟨w1, w2, w3⟩)) := hw
    have l14 : (H.get r14).isSome = true := by rw [h14]; rfl
    have l8 : (H.get r8).isSome = true := by rw [h8]; rfl
    have n8 : r8 ≠ r14 := by rintro rfl; omega
    have hel' : (errs es).length = es.length := by simp
    have hgl' : (encGs l).length = l.length := by simp
    refine vc_blindstamplaw07_GrantLast_26 _ _ _ _ _ _ _ _ _ fun g => ?_
    clear ih hw hel ht hs
    by_cases h0' : e = 0
    · by_cases h1' : u = user
      · rw [if_pos ⟨h0', h1'⟩] at hw'
        subst h0' h1'
        simp [new_ne, ne_new, new_ne1, ne_new1, gen_put', *, VC_blindstamplaw07_GrantLast_26, hx.r, hx.idx, he.r, he.idx, Gr_mk, Cl_mk]
        exact hih _ _ (by simp [Heap.get_put, Cl_mk]) (by simp (maxDischargeDepth := 12) [Heap.get_put, Fr_cons, Fr_consK, Fr.nil, Fr_put, new_ne, ne_new, new_ne1, ne_new1, get_new, get_new1, gen_put', *]) hw' hQ
      · rw [if_neg (fun h => h1' h.2)] at hw'
        subst h0'
        have hfin := hih _ _ h14 h8 hw' hQ
        clear hih hw' hQ
        simp [new_ne, ne_new, new_ne1, ne_new1, gen_put', *, VC_blindstamplaw07_GrantLast_26, hx.r, hx.idx, he.r, he.idx, Gr_mk, Cl_mk]
    · rw [if_neg (fun h => h0' h.1)] at hw'
      have hfin := hih _ _ h14 h8 hw' hQ
      clear hih hw' hQ
      simp [new_ne, ne_new, new_ne1, ne_new1, gen_put', *, VC_blindstamplaw07_GrantLast_26, hx.r, hx.idx, he.r, he.idx, Gr_mk, Cl_mk]
/-- What the law's loops are told. -/
structure LInv (H : Heap) (r3 r8 : Ref) (xu xq yu yq : AV) (gr gr' : Int) : Prop where
  fr : Fr H
  p : H.get r3 = some ⟨3, [.agg [xu, xq, aI gr]], false, false⟩
  q : H.get r8 = some ⟨3, [.agg [yu, yq, aI gr']], false, false⟩
theorem last18 {us us' : List Clear} {qs : List Quota} {xu xq yu yq : AV} {gr gr' came : Int} (hxu : Sl 3 (encCs us) xu) (hxq : Sl 5 (encQs qs) xq) (hyu : Sl 3 (encCs us') yu) (hyq : Sl 5 (encQs qs) yq) {r3 r8 : Ref} (t8 : r8.t = 8)
    (hus : us'.length = us.length) (hgr : gr' = gr - came) (hc0 : 0 ≤ came) (hc1 : came ≤ gr) (hg64 : gr ≤ 64) (hql : qs.length < 1000) (hwant : ∀ w, 0 ≤ user → us[user.toNat]? = some w → us'[user.toNat]? = some (wantF user l es w)) {Q : AV → Heap → Prop} :
    ∀ (s : List Quota) (k : Nat) (i : Int) (H : Heap), qs.drop k = s → k ≤ qs.length → i = k → LInv H r3 r8 xu xq yu yq gr gr' → (∀ y H', y = aB true → Q y H') →
    GoL env Try.f9 0 hd_blindstamplaw07_GrantLast_18 [(13, aI i), (3, .ptr r3 0 0), (8, .ptr r8 0 0), (11, aI came), (7, aB true), (1, x1), (2, aI user), (9, x9)] H Q := by
  intro s
  induction s with
  | nil =>
    rintro k i H hs hk rfl hI hQ
    obtain rfl := drop_nil hs hk
    have hp := hI.p
    have hq := hI.q
    have hF := hI.fr
    have w1 := IntWalk.i64_in (gr - came) (by omega)
    have w2 : ¬ gr < came := by omega
    refine vc_blindstamplaw07_GrantLast_18 _ _ _ _ _ _ _ _ _ _ fun g => ?_
    by_cases h0 : user < 0
    · clear hwant hI
      subst hgr
      simp [new_ne, ne_new, new_ne1, ne_new1, gen_put', *, VC_blindstamplaw07_GrantLast_18, hxu.r, hxq.r, hyu.r, hyq.r]
      all_goals exact hQ _ _ rfl
    · by_cases h1 : (us.length : Int) ≤ user
      · clear hwant hI
        subst hgr
        simp [new_ne, ne_new, new_ne1, ne_new1, gen_put', *, VC_blindstamplaw07_GrantLast_18, hxu.r, hxq.r, hyu.r, hyq.r]
        all_goals exact hQ _ _ rfl
      · have hlt : user.toNat < us.length := by omega
        have hg' : us[user.toNat]? = some us[user.toNat] := List.getElem?_eq_getElem hlt
        have hw := hwant _ (by omega) hg'
        generalize us[user.toNat] = w at *
        obtain ⟨c1, c2, c3⟩ := w
        have h26 := fun r14 H t14 h14 h8 => last26 hx he hll hel user (gr := gr') (yq := yq) hyu (r8 := r8) t8 (by omega) (by omega) (Q := Q) l es 0 0 ⟨c1, c2, c3⟩ r14 H t14 rfl rfl (by omega) rfl h14 h8 hw hQ
        have hrd : readAt (encCs us) user.toNat 0 3 true = some (.agg [a8 c1, a32 c2, aB c3]) := by simp [hg', Clear.enc]
        have hh : (0 : Int) ≤ user ∧ user < us.length := by omega
        have l3 : (H.get r3).isSome = true := by rw [hp]; rfl
        have l8 : (H.get r8).isSome = true := by rw [hq]; rfl
        clear hwant hI hQ hw
        subst hgr
        simp [new_ne, ne_new, new_ne1, ne_new1, gen_put', *, VC_blindstamplaw07_GrantLast_18, hxu.r, hxu.idx, hxq.r, hyu.r, hyq.r]
        exact h26 _ _ rfl (by simp [Cl_mk]) (by simp (maxDischargeDepth := 12) [Heap.get_put, Fr_cons, Fr_consK, Fr.nil, Fr_put, new_ne, ne_new, new_ne1, ne_new1, get_new, get_new1, gen_put', *])
  | cons p s ih =>
    rintro k i H hs hk rfl hI hQ
    obtain ⟨hlt, hg, hs', hg'⟩ := drop_cons hs
    have hp := hI.p
    have hq := hI.q
    have e3 := IntWalk.i64_in ((k : Int) + 1) (by omega)
    obtain ⟨q1, q2, q3, q4, q5⟩ := p
    have hrd : readAt (encQs qs) k 0 5 true = some (.agg [a8 q1, a32 q2, aI q3, aI q4, aI q5]) := by simp [Quota.enc, hg']
    have hfin := ih (k + 1) ((k : Int) + 1) H hs' (by omega) (by simp) hI hQ
    have hql' : (encQs qs).length = qs.length := by simp
    refine vc_blindstamplaw07_GrantLast_18 _ _ _ _ _ _ _ _ _ _ fun g => ?_
    clear ih hI hQ hwant hel hs
    simp [new_ne, ne_new, new_ne1, ne_new1, gen_put', *, VC_blindstamplaw07_GrantLast_18, hxq.r, hxq.idx, hyq.r, hyq.idx, eqA, eqFs]
    all_goals exact hfin
theorem last11 {us us' : List Clear} {qs : List Quota} {xu xq yu yq : AV} {gr gr' : Int} (hxu : Sl 3 (encCs us) xu) (hxq : Sl 5 (encQs qs) xq) (hyu : Sl 3 (encCs us') yu) (hyq : Sl 5 (encQs qs) yq) {r3 r8 : Ref} (t8 : r8.t = 8)
    (hus : us'.length = us.length) (hgr : gr' = gr - cameF es) (hc0 : 0 ≤ cameF es) (hc1 : cameF es ≤ gr) (hg64 : gr ≤ 64) (hql : qs.length < 1000) (hwant : ∀ w, 0 ≤ user → us[user.toNat]? = some w → us'[user.toNat]? = some (wantF user l es w)) {Q : AV → Heap → Prop} {H : Heap} (hI : LInv H r3 r8 xu xq yu yq gr gr') (hQ : ∀ y H', y = aB true → Q y H') :
    ∀ (s : List Gr) (k : Nat) (i : Int) (came : Int) (us1 : List Clear) (gr1 : Int), l.drop k = s → es.drop k = (runF qs s us1 gr1).1 → mayB us1 qs gr1 = true → k ≤ l.length → i = k → came = gr - gr1 → came + cameF (runF qs s us1 gr1).1 = cameF es → 0 ≤ came →
    GoL env Try.f9 0 hd_blindstamplaw07_GrantLast_11 [(12, aI i), (11, aI came), (3, .ptr r3 0 0), (9, x9), (8, .ptr r8 0 0), (7, aB true), (1, x1), (2, aI user)] H Q := by
  intro s
  induction s with
  | nil =>
    rintro k i came us1 gr1 hs ht hm hk rfl hc hca hc2
    obtain rfl := drop_nil hs hk
    have e : came = cameF es := by rw [← hca]; simp [runF, cameF]
    have h18 := last18 hx he hll hel user hxu hxq hyu hyq (r3 := r3) (r8 := r8) t8 hus (by rw [hgr, e]) hc2 (by omega) hg64 hql hwant qs 0 0 H rfl (by omega) rfl hI hQ
    refine vc_blindstamplaw07_GrantLast_11 _ _ _ _ _ _ _ _ _ _ fun g => ?_
    clear hI hQ hwant ht hs hm hc hca e hel
    simp [new_ne, ne_new, new_ne1, ne_new1, gen_put', *, VC_blindstamplaw07_GrantLast_11, hx.r]
    all_goals exact h18
  | cons p s ih =>
    rintro k i came us1 gr1 hs ht hm hk rfl hc hca hc2
    obtain ⟨hlt, hg, hs', hg'⟩ := drop_cons hs
    have e3 := IntWalk.i64_in ((k : Int) + 1) (by omega)
    have hmb := may_bounds hm
    have e4 := IntWalk.i64_in (came + 1) (by omega)
    clear hmb
    have hp := hI.p
    rw [runF_cons] at ht hca
    have hel' : (errs es).length = es.length := by simp
    by_cases h0 : applyE us1 qs gr1 p.user p.lv p.cats p.ok = 0
    · obtain ⟨m1, m2, m3⟩ := step_may h0
      rw [if_pos h0, m2] at ht hca
      obtain ⟨hlt2, hg2, ht', hg2'⟩ := drop_cons ht
      simp only [cameF_cons, if_true] at hca
      have hfin := ih (k + 1) ((k : Int) + 1) (came + 1) _ _ hs' ht' m1 (by omega) (by simp) (by omega) (by omega) (by omega)
      have hre : readAt (errs es) k 0 1 false = some (aI 0) := by simp [hg2']
      refine vc_blindstamplaw07_GrantLast_11 _ _ _ _ _ _ _ _ _ _ fun g => ?_
      clear ih hI hQ hwant hel hs hca hc ht ht' h0 m1
      simp [new_ne, ne_new, new_ne1, ne_new1, gen_put', *, VC_blindstamplaw07_GrantLast_11, hx.r, he.r, he.idx]
      all_goals exact hfin
    · rw [if_neg h0] at ht hca
      obtain ⟨hlt2, hg2, ht', hg2'⟩ := drop_cons ht
      simp only [cameF_cons, if_neg h0] at hca
      have hfin := ih (k + 1) ((k : Int) + 1) came _ _ hs' ht' hm (by omega) (by simp) hc (by omega) hc2
      have h9 : applyE us1 qs gr1 p.user p.lv p.cats p.ok = 9 → came = gr := fun h => by have := applyE_full h; omega
      generalize applyE us1 qs gr1 p.user p.lv p.cats p.ok = er at *
      have hre : readAt (errs es) k 0 1 false = some (aI er) := by simp [hg2']
      refine vc_blindstamplaw07_GrantLast_11 _ _ _ _ _ _ _ _ _ _ fun g => ?_
      clear ih hI hQ hwant hel hs hca hc ht ht' 
      by_cases hn : er = 9
      · have hcg := h9 hn
        clear h9
        subst hn
        subst hcg
        simp [new_ne, ne_new, new_ne1, ne_new1, gen_put', *, VC_blindstamplaw07_GrantLast_11, hx.r, he.r, he.idx]
        all_goals exact hfin
      · clear h9
        simp [new_ne, ne_new, new_ne1, ne_new1, gen_put', *, VC_blindstamplaw07_GrantLast_11, hx.r, he.r, he.idx]
        all_goals exact hfin
end
set_option maxHeartbeats 2000000 in
theorem glast_law {xu xq x1 : AV} {us : List Clear} {qs : List Quota} {gr : Int} {l : List Gr} (hu : Sl 3 (encCs us) xu) (hq : Sl 5 (encQs qs) xq) (hl : Sl 4 (encGs l) x1) (user : Int) : limf env 9 [.agg [xu, xq, aI gr], x1, aI user] = some (aB true) := by
  refine limf_of (fn := Try.f9) (c := bd_blindstamplaw07_GrantLast) rfl (by kernel_rfl) (by kernel_rfl) (by kernel_rfl) (by kernel_rfl) ?_; refine vc_blindstamplaw07_GrantLast _ _ _ _ _ fun g => ?_
  have al := gl_alive
  have hG := s_Great gr hu hq
  have hlen : (encGs l).length = l.length := by simp
  by_cases b1 : (100 : Int) < us.length ∨ (100 : Int) < qs.length
  · have hb : (decide (100 < (us.length : Int)) || decide (100 < (qs.length : Int))) = true := by simpa using b1
    rw [hb] at hG
    clear hb b1
    simp [new_ne, ne_new, new_ne1, ne_new1, gen_put', *, VC_blindstamplaw07_GrantLast, hu.r, hq.r, hl.r]
  have hb : (decide (100 < (us.length : Int)) || decide (100 < (qs.length : Int))) = false := by simpa using b1
  rw [hb] at hG
  by_cases b2 : (300 : Int) < l.length
  · clear hb b1
    simp [new_ne, ne_new, new_ne1, ne_new1, gen_put', *, VC_blindstamplaw07_GrantLast, hu.r, hq.r, hl.r]
  have hul : us.length < 1000 := by omega
  have hql : qs.length < 1000 := by omega
  have hC := s_Check (gr := gr) hu hq (by omega) (by omega)
  cases hm : mayB us qs gr with
  | false =>
    have hR := s_GRunE hu hq hl hql hul hm
    rw [hm] at hC
    clear hb b1 hm
    simp [new_ne, ne_new, new_ne1, ne_new1, gen_put', *, VC_blindstamplaw07_GrantLast, hu.r, hq.r, hl.r, bad]
  | true =>
    obtain ⟨yu, yq, ye, hyu, hyq, hye, hR⟩ := s_GRun hu hq hl hql hul (by omega) hm
    obtain ⟨f1, f2, f3, f4, f5, f6⟩ := runF_facts qs l us gr hm
    have hwant := fun w h0 => want_run qs user h0 l us gr w hm
    have hmb := may_bounds hm
    have hC' := s_Check (gr := (runF qs l us gr).2.2) hyu hyq (by omega) (by omega)
    rw [f3] at hC'
    have h11 := fun H Q (hI : LInv H _ _ xu xq yu yq gr _) hQ => last11 hl hye (by omega) f1 user (H := H) (Q := Q) hu hq hyu hyq (r3 := ⟨0, 3, 0, 0⟩) (r8 := ⟨0, 8, 0, 0⟩) rfl f2 f4 f5 f6 hmb.2.2.2 hql hwant hI hQ l 0 0 0 us gr rfl rfl hm (by omega) rfl (by omega) (by omega) (by omega)
    have g1 : (errs (runF qs l us gr).1).length = l.length := by simp [f1]
    have g2 : (encCs (runF qs l us gr).2.1).length = us.length := by simp [f2]
    have hrun := fun H hI => h11 H (fun y H => view H.get 8 y = some (aB true)) hI (fun y H' e => by rw [e]; rfl)
    clear hb b1 hwant h11 f3 f4 f5 f6 hm hmb
    generalize (runF qs l us gr).1 = es at *
    generalize (runF qs l us gr).2.1 = us' at *
    generalize (runF qs l us gr).2.2 = gr' at *
    simp [new_ne, ne_new, new_ne1, ne_new1, gen_put', *, VC_blindstamplaw07_GrantLast, hu.r, hq.r, hl.r, hyu.r, hyq.r, hye.r, bad]
    exact hrun _ ⟨by simp (maxDischargeDepth := 12) [Fr_cons, Fr_consK, Fr.nil, Fr_put, new_ne, ne_new, new_ne1, ne_new1, get_new, get_new1, gen_put', *], by simp, by simp⟩
end Go.Proofs.Ytgooemdlilfkmaa
