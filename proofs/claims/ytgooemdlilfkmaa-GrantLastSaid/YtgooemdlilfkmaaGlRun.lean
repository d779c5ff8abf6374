/-
  Several grants applied: what that answers. No statement of a seat is proved here.
-/
import Derived.Test.YtgooemdlilfkmaaGlFns
import Derived.Test.YtgooemdlilfkmaaGrRep
set_option linter.unusedVariables false
set_option linter.unusedSimpArgs false
set_option linter.unusedSectionVars false
set_option linter.unnecessarySimpa false
set_option maxRecDepth 100000
namespace Go.Proofs.Ytgooemdlilfkmaa
open Go.Ab
attribute [local simp] depth_eq callRes_V callG_data callG_frz callG_own keep appRes_G appFine_n appFine_s appG_n appG_s roomB appRes_I islFine_some islG_ne List.take_of_length_le qIface_ok qAssert_ok

/-- A heap that is as it was, but for marks on what was told. -/
structure Like (H H' : Heap) (P : Ref → Prop) : Prop where
  fr : Fr H → Fr H'
  gen : ∀ d t, H'.gen d t = H.gen d t
  get : ∀ q b, H.get q = some b → ∃ fz, H'.get q = some ⟨b.esz, b.es, b.arr, fz⟩
  same : ∀ q, P q → H'.get q = H.get q
theorem Like.refl (H : Heap) (P : Ref → Prop) : Like H H P := ⟨id, fun _ _ => rfl, fun q b h => ⟨b.frz, h⟩, fun _ _ => rfl⟩
theorem Like.frz (H : Heap) (R : List Ref) {P : Ref → Prop} (h : ∀ q, P q → q ∉ R) : Like H (freezeAll H R) P where
  fr := fun hF => by
    intro d t g k hg
    rw [Heap.gen_freezeAll] at hg
    rw [Heap.get_freezeAll, frzG, hF _ _ _ _ hg]
    simp
  gen := fun d t => Heap.gen_freezeAll _ _ _ _
  get := fun q b hb => by
    rw [Heap.get_freezeAll, frzG, hb]
    by_cases hq : q ∈ R
    · exact ⟨true, by simp [hq]⟩
    · exact ⟨b.frz, by simp [hq]⟩
  same := fun q hq => by
    rw [Heap.get_freezeAll, frzG]
    simp [h q hq]
theorem callG_like {H : Heap} {R : List Ref} {P : Ref → Prop} (h : ∀ q, P q → q ∉ R) (r : Ref) {y : AV} (hy : importA r depth y [] = (y, [])) : ∃ H', callG true H r R (some y) = some (y, H') ∧ Like H H' P := by
  by_cases hc : (flat depth y || allFrz H.get R) = true
  · exact ⟨H, by simp only [callG, hc, if_true, hy]; rfl, Like.refl _ _⟩
  · exact ⟨freezeAll H R, by simp only [callG, if_neg hc, if_true, hy]; rfl, Like.frz _ _ h⟩
theorem SeenS.refs {z : Nat} {es : List AV} {H : Heap} {x y : AV} (h : SeenS z es H x y) (n : Nat) : viewRefs H.get (n + 1) x = (x.at?).toList := by
  rcases h with ⟨rfl, h⟩ | ⟨r, c, fz, rfl, hr, rfl, hc⟩
  · rw [h.refs]
    rcases h with ⟨rfl, _⟩ | ⟨c, rfl, _⟩ <;> rfl
  · simp
theorem SeenS.like {z : Nat} {es : List AV} {H H' : Heap} {P : Ref → Prop} {x y : AV} (h : SeenS z es H x y) (hl : Like H H' P) : SeenS z es H' x y := by
  rcases h with h | ⟨r, c, fz, rfl, hr, rfl, hc⟩
  · exact .inl h
  · obtain ⟨fz', h'⟩ := hl.get r _ hr
    exact .inr ⟨r, c, fz', rfl, h', rfl, hc⟩
/-- A policy is handed over, with something that is no slice: the call's answer, and the heap. -/
theorem call_seen {f : FuncId} (hm : (env.mode f == 2) = false) {H : Heap} (r : Ref) {xu xq vu vq gg : AV} {eu eq : List AV} {gr : Int} (hu : SeenS 3 eu H xu vu) (hq : SeenS 5 eq H xq vq) (hg1 : view H.get depth gg = some gg) (hg2 : viewRefs H.get depth gg = [])
    {y : AV} (hl : limf env f [.agg [vu, vq, aI gr], gg] = some y) (hy : ∀ r, importA r depth y [] = (y, [])) :
    ∃ H', callRes env true (limf env) (limt env 0) H r (some (.fn (.func f) [] [])) [.agg [xu, xq, aI gr], gg] = some (y, H') ∧ Like H H' fun q => xu.at? ≠ some q ∧ xq.at? ≠ some q := by
  rw [callRes_V true 0 H r f hm [] [] _]
  have e1 : (([] ++ [AV.agg [xu, xq, aI gr], gg] ++ []).mapM (view H.get depth)) = some [.agg [vu, vq, aI gr], gg] := by
    have := hu.view 6
    have := hq.view 6
    have hu' := hu.r
    have hq' := hq.r
    rw [depth_eq] at hg1
    simp [hg1, hu', hq']
  rw [e1]
  show ∃ H', callG true H r _ (limf env f _) = _ ∧ _
  rw [hl]
  refine callG_like ?_ r (hy r)
  intro q hq'
  have hu' := SeenS.refs hu 6
  have hq2 := SeenS.refs hq 6
  rw [depth_eq] at hg2
  have e (g : Get) (a : Int) : viewRefs g 7 (aI a) = [] := rfl
  show q ∉ (([xu, xq, aI gr].flatMap (viewRefs H.get 7)) ++ (viewRefs H.get 8 gg ++ []))
  simp only [List.flatMap_cons, List.flatMap_nil, hg2, hu', hq2, e, List.append_nil, List.mem_append, Option.mem_toList]
  rintro (h | h)
  · exact hq'.1 h
  · exact hq'.2 h

abbrev encGs (l : List Gr) : List AV := l.map fun g => .agg g.enc
abbrev errs (l : List Int) : List AV := l.map aI
/-- The errors of several grants, the users and the grants left behind them. -/
def runF (qs : List Quota) : List Gr → List Clear → Int → List Int × List Clear × Int
  | [], us, gr => ([], us, gr)
  | g :: l, us, gr =>
    if applyE us qs gr g.user g.lv g.cats g.ok = 0 then (0 :: (runF qs l (us.set g.user.toNat ⟨g.lv, g.cats, g.ok⟩) (IntKind.i64.wrap (gr - 1))).1, (runF qs l (us.set g.user.toNat ⟨g.lv, g.cats, g.ok⟩) (IntKind.i64.wrap (gr - 1))).2)
    else (applyE us qs gr g.user g.lv g.cats g.ok :: (runF qs l us gr).1, (runF qs l us gr).2)
/-- What a round leaves. -/
structure RInv (H : Heap) (r2 r4 : Ref) (us : List Clear) (qs : List Quota) (gr : Int) (acc : List Int) (x8 : AV) : Prop where
  fr : Fr H
  box : ∃ yu yq vu vq, H.get r2 = some ⟨3, [.agg [yu, yq, aI gr]], false, false⟩ ∧ SeenS 3 (encCs us) H yu vu ∧ SeenS 5 (encQs qs) H yq vq ∧ (∀ r, yu.at? = some r → r.t = 24) ∧ (∀ r, yq.at? = some r → r.t = 24)
  out : ∃ z1 z2 z3, H.get r4 = some ⟨3, [.agg [z1, z2, z3]], false, false⟩
  row : OwnAt [43] 1 (errs acc) H x8
theorem run_loop {l : List Gr} {x25 : AV} (hx : Sl 4 (encGs l) x25) (hl : l.length < 100000) {qs : List Quota} (hql : qs.length * 32 ≤ 140737488355328) {r2 r4 : Ref} (t2 : r2.t = 2) (t4 : r4.t = 4) {Q : AV → Heap → Prop} :
    ∀ (s : List Gr) (k : Nat) (i : Int) (us : List Clear) (gr : Int) (acc : List Int) (x8 : AV) (H : Heap), l.drop k = s → k ≤ l.length → i = k → acc.length = k → us.length * 12 ≤ 140737488355328 → RInv H r2 r4 us qs gr acc x8 →
    (∀ x8' H' yu yq vu vq, SeenS 3 (encCs (runF qs s us gr).2.1) H' yu vu → SeenS 5 (encQs qs) H' yq vq → OwnAt [43] 1 (errs (acc ++ (runF qs s us gr).1)) H' x8' → Q (.tup [.agg [yu, yq, aI (runF qs s us gr).2.2], x8', aI 0]) H') →
    GoL env Try.f36 0 hd_grant_Run_9 [(27, aI i), (8, x8), (2, .ptr r2 0 0), (25, x25), (4, .ptr r4 0 0), (26, aI l.length)] H Q := by
  intro s
  induction s with
  | nil =>
    rintro k i us gr acc x8 H hs hk rfl ha hul hI hQ
    obtain rfl := drop_nil hs hk
    obtain ⟨yu, yq, vu, vq, hb, su, sq, tu, tq⟩ := hI.box
    obtain ⟨z1, z2, z3, hz⟩ := hI.out
    have hO := hI.row
    have hF := hI.fr
    have n4 : yu.at? ≠ some r4 := fun e => by have := tu r4 e; omega
    have n4' : yq.at? ≠ some r4 := fun e => by have := tq r4 e; omega
    have hfin := fun b => hQ x8 (H.put r4 b) yu yq vu vq (su.put n4 b) (sq.put n4' b) (by
      rcases hO with ⟨rfl, h⟩ | ⟨t, gg, ht, rfl, hr⟩
      · exact .inl ⟨rfl, by simpa [runF] using h⟩
      · rw [List.mem_singleton] at ht
        subst ht
        refine .inr ⟨43, gg, by simp, by simp [runF], ?_⟩
        rw [Heap.get_put, if_neg (by rintro rfl; cases t4), hr]
        simp [runF])
    clear hI hQ hO
    refine vc_grant_Run_9 _ _ _ _ _ _ _ _ fun g => ?_
    simp [new_ne, ne_new, new_ne1, ne_new1, gen_put', *, VC_grant_Run_9, su.r, sq.r]
    exact hfin _
  | cons p s ih =>
    rintro k i us gr acc x8 H hs hk rfl ha hul hI hQ
    obtain ⟨hlt, hg, hs', hg'⟩ := drop_cons hs
    obtain ⟨user, lv, cats, ok⟩ := p
    obtain ⟨yu, yq, vu, vq, hb, su, sq, tu, tq⟩ := hI.box
    obtain ⟨z1, z2, z3, hz⟩ := hI.out
    have hO := hI.row
    have hF := hI.fr
    have e3 := IntWalk.i64_in ((k : Int) + 1) (by omega)
    have hrd : readAt (encGs l) k 0 4 true = some (.agg [aI user, a8 lv, a32 cats, aB ok]) := by simp [Gr.enc, hg']
    refine vc_grant_Run_9 _ _ _ _ _ _ _ _ fun g => ?_
    have l2 : (H.get r2).isSome = true := by rw [hb]; rfl
    have l4 : (H.get r4).isSome = true := by rw [hz]; rfl
    have hF1 : Fr ((⟨0, 10, H.gen 0 10, 0⟩, some ⟨4, [.agg [aI user, a8 lv, a32 cats, aB ok]], false, false⟩) :: H) := by simp (maxDischargeDepth := 12) [Fr_cons, Fr_consK, Fr.nil, Fr_put, new_ne, ne_new, new_ne1, ne_new1, get_new, get_new1, gen_put', *]
    have su1 := su.cons hF 0 10 (some ⟨4, [.agg [aI user, a8 lv, a32 cats, aB ok]], false, false⟩)
    have sq1 := sq.cons hF 0 10 (some ⟨4, [.agg [aI user, a8 lv, a32 cats, aB ok]], false, false⟩)
    have p2 : yu.at? ≠ some r2 ∧ yq.at? ≠ some r2 := ⟨fun e => by have := tu r2 e; omega, fun e => by have := tq r2 e; omega⟩
    have p4 : yu.at? ≠ some r4 ∧ yq.at? ≠ some r4 := ⟨fun e => by have := tu r4 e; omega, fun e => by have := tq r4 e; omega⟩
    have p43 (g : Nat) : yu.at? ≠ some ⟨0, 43, g, 0⟩ ∧ yq.at? ≠ some ⟨0, 43, g, 0⟩ := ⟨fun e => by have := tu _ e; simp at this, fun e => by have := tq _ e; simp at this⟩
    have n24 : r2 ≠ r4 := by rintro rfl; omega
    have n42 := n24.symm
    have after : ∀ H', Like ((⟨0, 10, H.gen 0 10, 0⟩, some ⟨4, [.agg [aI user, a8 lv, a32 cats, aB ok]], false, false⟩) :: H) H' (fun q => yu.at? ≠ some q ∧ yq.at? ≠ some q) →
        Fr H' ∧ H'.get r2 = some ⟨3, [.agg [yu, yq, aI gr]], false, false⟩ ∧ H'.get r4 = some ⟨3, [.agg [z1, z2, z3]], false, false⟩ ∧ SeenS 3 (encCs us) H' yu vu ∧ SeenS 5 (encQs qs) H' yq vq ∧ OwnAt [43] 1 (errs acc) H' x8 := by
      intro H' hlk
      refine ⟨hlk.fr hF1, ?_, ?_, SeenS.like su1 hlk, SeenS.like sq1 hlk, ?_⟩
      · rw [hlk.same r2 p2]; simp [new_ne hF l2, ne_new hF l2, hb]
      · rw [hlk.same r4 p4]; simp [new_ne hF l4, ne_new hF l4, hz]
      · rcases hO with h | ⟨t, gg, ht, rfl, hr⟩
        · exact .inl h
        · rw [List.mem_singleton] at ht
          subst ht
          refine .inr ⟨43, gg, by simp, rfl, ?_⟩
          rw [hlk.same _ (p43 gg)]
          simp [hr]
    have hacc : (errs acc).length = acc.length := by simp
    have hal : acc.length < 100000 := by omega
    have hun : runF qs (⟨user, lv, cats, ok⟩ :: s) us gr = if applyE us qs gr user lv cats ok = 0 then (0 :: (runF qs s (us.set user.toNat ⟨lv, cats, ok⟩) (IntKind.i64.wrap (gr - 1))).1, (runF qs s (us.set user.toNat ⟨lv, cats, ok⟩) (IntKind.i64.wrap (gr - 1))).2) else (applyE us qs gr user lv cats ok :: (runF qs s us gr).1, (runF qs s us gr).2) := rfl
    rw [hun] at hQ
    clear hun
    by_cases he : applyE us qs gr user lv cats ok = 0
    · obtain ⟨yq', hyq, hA⟩ := s_GApply (gr := gr) su.sl sq.sl hql hul user lv cats ok he
      rw [if_pos he] at hQ
      have hul' : (us.set user.toNat ⟨lv, cats, ok⟩).length * 12 ≤ 140737488355328 := by rw [List.length_set]; exact hul
      generalize us.set user.toNat ⟨lv, cats, ok⟩ = us' at *
      generalize IntKind.i64.wrap (gr - 1) = gr' at *
      obtain ⟨H', hc, hlk⟩ := call_seen (f := 34) (by rfl) ⟨0, 34, H.gen 0 34, 0⟩ su1 sq1 rfl rfl hA (fun r => by simp [hyq.r])
      obtain ⟨hF', hb', hz', su', sq', hO'⟩ := after H' hlk
      have hih := fun x8' H'' => ih (k + 1) ((k : Int) + 1) us' gr' (acc ++ [0]) x8' H'' hs' (by omega) (by simp) (by simp; omega) hul'
      have hQ' : ∀ x8' H' yu yq vu vq, SeenS 3 (encCs (runF qs s us' gr').2.1) H' yu vu → SeenS 5 (encQs qs) H' yq vq → OwnAt [43] 1 (errs ((acc ++ [0]) ++ (runF qs s us' gr').1)) H' x8' → Q (.tup [.agg [yu, yq, aI (runF qs s us' gr').2.2], x8', aI 0]) H' := fun x8' H' yu yq vu vq h1 h2 h3 => hQ x8' H' yu yq vu vq h1 h2 (by simpa using h3)
      clear after ih hQ he hI
      have l2' : (H'.get r2).isSome = true := by rw [hb']; rfl
      have l4' : (H'.get r4).isSome = true := by rw [hz']; rfl
      have hat : ∀ r, yq'.at? = some r → r.t = 24 := by
        intro r e
        rcases hyq with ⟨rfl, _⟩ | ⟨c, rfl, _⟩ <;> cases e
      have hso := fun H => SeenS.of hyq H
      have hst : ∀ (g : Nat) (H1 : Heap), Fr H1 → H1.get r2 = some ⟨3, [.agg [.isl 3 (encCs us') none, yq', aI gr']], false, false⟩ → H1.get r4 = some ⟨3, [.agg [z1, z2, z3]], false, false⟩ → H1.get ⟨0, 43, g, 0⟩ = some ⟨1, errs acc ++ [aI 0], true, false⟩ →
          RInv H1 r2 r4 us' qs gr' (acc ++ [0]) (.osl ⟨0, 43, g, 0⟩ 0 (acc.length + 1) none) := by
        intro g H1 f1 f2 f3 f4
        exact ⟨f1, ⟨_, _, _, _, f2, SeenS.of (Sl.mk _ _) H1, hso H1, (fun r e => nomatch e), hat⟩, ⟨z1, z2, z3, f3⟩, .inr ⟨43, g, by simp, by simp, by rw [f4]; simp⟩⟩
      have hyr := hyq.r
      clear hyq hso hat
      rcases hO' with ⟨rfl, hz0⟩ | ⟨t, gg, ht, rfl, hr⟩
      · have hz' : acc = [] := by simpa using hz0
        subst hz'
        have hst' := hst (H'.gen 0 43)
        clear hst hz0
        simp [new_ne, ne_new, new_ne1, ne_new1, gen_put', *, VC_grant_Run_9, hx.r, hx.idx, su.r, sq.r, hyr, -callRes_V]
        exact hih _ _ (hst' _ (by simp (maxDischargeDepth := 12) [Heap.get_put, Fr_cons, Fr_consK, Fr.nil, Fr_put, new_ne, ne_new, new_ne1, ne_new1, get_new, get_new1, gen_put', *]) (by simp (maxDischargeDepth := 12) [Heap.get_put, Fr_cons, Fr_consK, Fr.nil, Fr_put, new_ne, ne_new, new_ne1, ne_new1, get_new, get_new1, gen_put', *]) (by simp (maxDischargeDepth := 12) [Heap.get_put, Fr_cons, Fr_consK, Fr.nil, Fr_put, new_ne, ne_new, new_ne1, ne_new1, get_new, get_new1, gen_put', *]) (by simp (maxDischargeDepth := 12) [Heap.get_put, Fr_cons, Fr_consK, Fr.nil, Fr_put, new_ne, ne_new, new_ne1, ne_new1, get_new, get_new1, gen_put', *])) hQ'
      · rw [List.mem_singleton] at ht
        subst ht
        have hst' := hst (H'.gen 0 43)
        clear hst
        have l6 : (H'.get ⟨0, 43, gg, 0⟩).isSome = true := by rw [hr]; rfl
        have n6 : r2 ≠ ⟨0, 43, gg, 0⟩ := by rintro rfl; cases t2
        have n7 : r4 ≠ ⟨0, 43, gg, 0⟩ := by rintro rfl; cases t4
        have f4 : appFine 1 8 acc.length true none (some ⟨1, errs acc, true, false⟩) (some [aI 0]) := by
          simp; omega
        clear ha
        have n8 := n6.symm
        have n9 := n7.symm
        simp [new_ne, ne_new, new_ne1, ne_new1, gen_put', *, VC_grant_Run_9, hx.r, hx.idx, su.r, sq.r, hyr, -callRes_V, Heap.get_put]
        exact hih _ _ (hst' _ (by simp (maxDischargeDepth := 12) [Heap.get_put, Fr_cons, Fr_consK, Fr.nil, Fr_put, new_ne, ne_new, new_ne1, ne_new1, get_new, get_new1, gen_put', *]) (by simp (maxDischargeDepth := 12) [Heap.get_put, Fr_cons, Fr_consK, Fr.nil, Fr_put, new_ne, ne_new, new_ne1, ne_new1, get_new, get_new1, gen_put', *]) (by simp (maxDischargeDepth := 12) [Heap.get_put, Fr_cons, Fr_consK, Fr.nil, Fr_put, new_ne, ne_new, new_ne1, ne_new1, get_new, get_new1, gen_put', *]) (by simp (maxDischargeDepth := 12) [Heap.get_put, Fr_cons, Fr_consK, Fr.nil, Fr_put, new_ne, ne_new, new_ne1, ne_new1, get_new, get_new1, gen_put', *])) hQ'
    · have hA := s_GApplyE (gr := gr) su.sl sq.sl hql hul user lv cats ok he
      rw [if_neg he] at hQ
      obtain ⟨H', hc, hlk⟩ := call_seen (f := 34) (by rfl) ⟨0, 34, H.gen 0 34, 0⟩ su1 sq1 rfl rfl hA (fun r => by simp)
      obtain ⟨hF', hb', hz', su', sq', hO'⟩ := after H' hlk
      generalize applyE us qs gr user lv cats ok = er at *
      have hih := fun x8' H'' => ih (k + 1) ((k : Int) + 1) us gr (acc ++ [er]) x8' H'' hs' (by omega) (by simp) (by simp; omega) hul
      have hQ' : ∀ x8' H' yu yq vu vq, SeenS 3 (encCs (runF qs s us gr).2.1) H' yu vu → SeenS 5 (encQs qs) H' yq vq → OwnAt [43] 1 (errs ((acc ++ [er]) ++ (runF qs s us gr).1)) H' x8' → Q (.tup [.agg [yu, yq, aI (runF qs s us gr).2.2], x8', aI 0]) H' := fun x8' H' yu yq vu vq h1 h2 h3 => hQ x8' H' yu yq vu vq h1 h2 (by simpa using h3)
      clear after ih hQ hI
      have l2' : (H'.get r2).isSome = true := by rw [hb']; rfl
      have l4' : (H'.get r4).isSome = true := by rw [hz']; rfl
      have hst : ∀ (g : Nat) (H1 : Heap), Fr H1 → H1.get r2 = some ⟨3, [.agg [yu, yq, aI gr]], false, false⟩ → H1.get r4 = some ⟨3, [.agg [z1, z2, z3]], false, false⟩ → H1.get ⟨0, 43, g, 0⟩ = some ⟨1, errs acc ++ [aI er], true, false⟩ → (∀ r, r.t = 24 → (H'.get r).isSome = true → H1.get r = H'.get r) →
          RInv H1 r2 r4 us qs gr (acc ++ [er]) (.osl ⟨0, 43, g, 0⟩ 0 (acc.length + 1) none) := by
        intro g H1 f1 f2 f3 f4 f5
        exact ⟨f1, ⟨yu, yq, vu, vq, f2, su'.mono (fun r e => f5 r (tu r e) (su'.live e)), sq'.mono (fun r e => f5 r (tq r e) (sq'.live e)), tu, tq⟩, ⟨z1, z2, z3, f3⟩, .inr ⟨43, g, by simp, by simp, by rw [f4]; simp⟩⟩
      rcases hO' with ⟨rfl, hz0⟩ | ⟨t, gg, ht, rfl, hr⟩
      · have hz' : acc = [] := by simpa using hz0
        subst hz'
        have hst' := hst (H'.gen 0 43)
        clear hst hz0
        simp [new_ne, ne_new, new_ne1, ne_new1, gen_put', *, VC_grant_Run_9, hx.r, hx.idx, su.r, sq.r, -callRes_V]
        exact hih _ _ (hst' _ (by simp (maxDischargeDepth := 12) [Heap.get_put, Fr_cons, Fr_consK, Fr.nil, Fr_put, new_ne, ne_new, new_ne1, ne_new1, get_new, get_new1, gen_put', *]) (by simp (maxDischargeDepth := 12) [Heap.get_put, Fr_cons, Fr_consK, Fr.nil, Fr_put, new_ne, ne_new, new_ne1, ne_new1, get_new, get_new1, gen_put', *]) (by simp (maxDischargeDepth := 12) [Heap.get_put, Fr_cons, Fr_consK, Fr.nil, Fr_put, new_ne, ne_new, new_ne1, ne_new1, get_new, get_new1, gen_put', *]) (by simp (maxDischargeDepth := 12) [Heap.get_put, Fr_cons, Fr_consK, Fr.nil, Fr_put, new_ne, ne_new, new_ne1, ne_new1, get_new, get_new1, gen_put', *]) (fun r e hl => by have := new_ne hF' hl; have n43 : r ≠ ⟨0, 43, H'.gen 0 43, 0⟩ := (by rintro rfl; cases e); have n42' : r ≠ ⟨0, 42, H'.gen 0 42, 0⟩ := (by rintro rfl; cases e); have n11 : r ≠ ⟨0, 11, H'.gen 0 11, 0⟩ := (by rintro rfl; cases e); simp [n43.symm, n42'.symm, n11.symm])) hQ'
      · rw [List.mem_singleton] at ht
        subst ht
        have hst' := hst (H'.gen 0 43)
        clear hst
        have l6 : (H'.get ⟨0, 43, gg, 0⟩).isSome = true := by rw [hr]; rfl
        have n6 : r2 ≠ ⟨0, 43, gg, 0⟩ := by rintro rfl; cases t2
        have n7 : r4 ≠ ⟨0, 43, gg, 0⟩ := by rintro rfl; cases t4
        have f4 : appFine 1 8 acc.length true none (some ⟨1, errs acc, true, false⟩) (some [aI er]) := by
          simp; omega
        clear ha
        simp [new_ne, ne_new, new_ne1, ne_new1, gen_put', *, VC_grant_Run_9, hx.r, hx.idx, su.r, sq.r, -callRes_V]
        have n8 := n6.symm
        have n9 := n7.symm
        exact hih _ _ (hst' _ (by simp (maxDischargeDepth := 12) [Heap.get_put, Fr_cons, Fr_consK, Fr.nil, Fr_put, new_ne, ne_new, new_ne1, ne_new1, get_new, get_new1, gen_put', *]) (by simp (maxDischargeDepth := 12) [Heap.get_put, Fr_cons, Fr_consK, Fr.nil, Fr_put, new_ne, ne_new, new_ne1, ne_new1, get_new, get_new1, gen_put', *]) (by simp (maxDischargeDepth := 12) [Heap.get_put, Fr_cons, Fr_consK, Fr.nil, Fr_put, new_ne, ne_new, new_ne1, ne_new1, get_new, get_new1, gen_put', *]) (by simp (maxDischargeDepth := 12) [Heap.get_put, Fr_cons, Fr_consK, Fr.nil, Fr_put, new_ne, ne_new, new_ne1, ne_new1, get_new, get_new1, gen_put', *]) (fun r e hl => by have := new_ne hF' hl; have n43 : r ≠ ⟨0, 43, H'.gen 0 43, 0⟩ := (by rintro rfl; cases e); have n42' : r ≠ ⟨0, 42, H'.gen 0 42, 0⟩ := (by rintro rfl; cases e); have n11 : r ≠ ⟨0, 11, H'.gen 0 11, 0⟩ := (by rintro rfl; cases e); have ngg : r ≠ ⟨0, 43, gg, 0⟩ := (by rintro rfl; cases e); simp [n43.symm, n42'.symm, n11.symm, Heap.get_put, ngg])) hQ'
theorem limfQ_of {E : Env} {f : FuncId} {fn : Func} {c : Code} {args : List AV} {R : AV → Prop} (hsp : E.spec f args = none) (hal : E.allowed f = true) (hf : E.P.funcs[f]? = some fn) (hc : fn.body = some c) (hl : Nat.ble args.length fn.ntmps = true)
    (h : GoL E fn 0 [.code c] (argsL 0 args) [] fun x H => ∃ y, handed E f x H y ∧ R y) : ∃ y, limf E f args = some y ∧ R y := by
  obtain ⟨x, H, ⟨y, hQ, hR⟩, n, hn⟩ := h.h (fun _ => AV.undef) args fun i => (ofL_args args i).symm
  refine ⟨y, limf_eq.2 ⟨n, fun m hm => ?_⟩, hR⟩
  obtain ⟨st, h1, h2, h3⟩ := hn m hm
  subst h3
  unfold pureCall
  rw [hsp]
  unfold callIn
  simp only [hal, if_true, hf, hc, if_pos (Nat.le_of_ble_eq_true hl), h1, h2, Option.map_some]
  unfold handed at hQ
  split
  · rename_i h1
    rw [if_pos h1] at hQ
    rw [if_pos hQ.1]
    exact hQ.2
  · rename_i h1
    rw [if_neg h1] at hQ
    exact hQ


theorem seen_osl {z n : Nat} {es : List AV} {H : Heap} {r : Ref} {c : Option Nat} (h : H.get r = some ⟨z, es, true, false⟩) (hn : n = es.length) (hc : es.length ≤ c.getD es.length) : SeenS z es H (.osl r 0 n c) (.isl z es c) := by
  subst hn
  exact .inr ⟨r, c, false, rfl, h, rfl, hc⟩
theorem rinv_mk {H : Heap} {r2 r4 : Ref} {us : List Clear} {qs : List Quota} {gr : Int} {yu yq z1 z2 z3 : AV} (hF : Fr H) (hb : H.get r2 = some ⟨3, [.agg [yu, yq, aI gr]], false, false⟩) (su : ∃ v, SeenS 3 (encCs us) H yu v) (sq : ∃ v, SeenS 5 (encQs qs) H yq v)
    (tu : ∀ r, yu.at? = some r → r.t = 24) (tq : ∀ r, yq.at? = some r → r.t = 24) (hz : H.get r4 = some ⟨3, [.agg [z1, z2, z3]], false, false⟩) : RInv H r2 r4 us qs gr [] aNil := by
  obtain ⟨vu, su⟩ := su
  obtain ⟨vq, sq⟩ := sq
  exact ⟨hF, ⟨yu, yq, vu, vq, hb, su, sq, tu, tq⟩, ⟨z1, z2, z3, hz⟩, .inl ⟨rfl, rfl⟩⟩
theorem OwnAt.seen {z t : Nat} {es : List AV} {H : Heap} {x : AV} (h : OwnAt [t] z es H x) : ∃ v, Sl z es v ∧ ∀ n, view H.get (n + 1) x = some v := by
  rcases h with ⟨rfl, rfl⟩ | ⟨t', g, _, rfl, hr⟩
  · exact ⟨aNil, .inl ⟨rfl, rfl⟩, fun n => rfl⟩
  · exact ⟨.isl z es none, Sl.mk _ _, fun n => by rw [view_full hr rfl]⟩
theorem s_GRun {xu xq x1 : AV} {us : List Clear} {qs : List Quota} {gr : Int} {l : List Gr} (hu : Sl 3 (encCs us) xu) (hq : Sl 5 (encQs qs) xq) (hl : Sl 4 (encGs l) x1) (hql : qs.length < 1000) (hul : us.length < 1000) (hll : l.length < 2000) (hm : mayB us qs gr = true) :
    ∃ yu yq ye, Sl 3 (encCs (runF qs l us gr).2.1) yu ∧ Sl 5 (encQs qs) yq ∧ Sl 1 (errs (runF qs l us gr).1) ye ∧ limf env 36 [.agg [xu, xq, aI gr], x1] = some (.tup [.agg [yu, yq, aI (runF qs l us gr).2.2], ye, aI 0]) := by
  have hC := s_Check (gr := gr) hu hq (by omega) (by omega)
  rw [hm] at hC
  have hT := s_Twin (gr := gr) hu hq (by omega) (by omega)
  have ou := cloneA_out hu
  have oq := cloneA_out hq
  generalize cloneA xu = yu at *
  generalize cloneA xq = yq at *
  obtain ⟨R, hR⟩ : ∃ R : AV → Prop, R = fun y => ∃ yu yq ye, Sl 3 (encCs (runF qs l us gr).2.1) yu ∧ Sl 5 (encQs qs) yq ∧ Sl 1 (errs (runF qs l us gr).1) ye ∧ y = .tup [.agg [yu, yq, aI (runF qs l us gr).2.2], ye, aI 0] := ⟨_, rfl⟩
  have h : ∃ y, limf env 36 [.agg [xu, xq, aI gr], x1] = some y ∧ R y := by
    refine limfQ_of (fn := Try.f36) (c := bd_grant_Run) rfl (by kernel_rfl) (by kernel_rfl) (by kernel_rfl) (by kernel_rfl) ?_
    refine vc_grant_Run _ _ _ _ fun g => ?_
    have hloop := fun (H : Heap) (Q : AV → Heap → Prop) => run_loop (H := H) (Q := Q) hl (by omega) (qs := qs) (by omega) (r2 := ⟨0, 2, 0, 0⟩) (r4 := ⟨0, 4, 0, 0⟩) rfl rfl l 0 0 us gr [] aNil
    have hfin : ∀ x8' H' yu yq vu vq, SeenS 3 (encCs (runF qs l us gr).2.1) H' yu vu → SeenS 5 (encQs qs) H' yq vq → OwnAt [43] 1 (errs ([] ++ (runF qs l us gr).1)) H' x8' → ∃ y, view H'.get 8 (.tup [.agg [yu, yq, aI (runF qs l us gr).2.2], x8', aI 0]) = some y ∧ R y := by
      intro x8' H' yu yq vu vq su sq so
      obtain ⟨ve, he, hv⟩ := OwnAt.seen so
      rw [List.nil_append] at he
      have hu' := su.r
      have hq' := sq.r
      subst hR
      exact ⟨.tup [.agg [vu, vq, aI (runF qs l us gr).2.2], ve, aI 0], by simp [hu', hq', hv], vu, vq, ve, su.sl, sq.sl, he, rfl⟩
    have hlen : ¬ (2048 : Int) < l.length := by omega
    have e1 : encCs us = [] → us = [] := by simp
    have e2 : encQs qs = [] → qs = [] := by simp
    have run := fun H hI => hloop H (fun x H => ∃ y, view H.get 8 x = some y ∧ R y) rfl (by omega) rfl rfl (by omega) hI hfin
    clear hm hfin hloop hR
    rcases ou with ⟨rfl, h1⟩ | rfl | ⟨rfl, h1⟩ <;> rcases oq with ⟨rfl, h2⟩ | rfl | ⟨rfl, h2⟩ <;> simp [new_ne, ne_new, new_ne1, ne_new1, gen_put', *, VC_grant_Run, hu.r, hq.r, hl.r, callG_data, bad]
    all_goals first | (have hh1 := e1 h1; subst hh1) | skip
    all_goals first | (have hh2 := e2 h2; subst hh2) | skip
    all_goals refine run _ (rinv_mk (by simp (maxDischargeDepth := 12) [Heap.get_put, Fr_cons, Fr_consK, Fr.nil, Fr_put, new_ne, ne_new, new_ne1, ne_new1, get_new, get_new1, gen_put', *]) rfl ?_ ?_ ?_ ?_ rfl)
    all_goals first
      | exact ⟨_, SeenS.of (.inl ⟨rfl, rfl⟩) _⟩
      | (intro r e; cases e; done)
      | (intro r e; cases e; rfl)
      | exact ⟨_, seen_osl rfl (by simp) (by simp)⟩
      | skip
  subst hR
  obtain ⟨y, hy, yu, yq, ye, h1, h2, h3, rfl⟩ := h
  exact ⟨yu, yq, ye, h1, h2, h3, hy⟩
end Go.Proofs.Ytgooemdlilfkmaa
