/-
  The document's functions of policy: what they answer. No statement of a seat is proved here.
-/
import Derived.Test.YtgooemdlilfkmaaPolFns2
set_option linter.unusedVariables false
set_option linter.unusedSimpArgs false
set_option maxRecDepth 100000
namespace Go.Proofs.Ytgooemdlilfkmaa
open Go.Ab
attribute [local simp] depth_eq callRes_V keep

/- ## A label's quota -/
def quotaE (us : List Clear) (qs : List Quota) (gr : Int) (a : UInt8) (b : UInt32) : Quota := if askedE us qs gr a = 0 then quotaOf qs a b else ⟨0, 0, 0, 0, 0⟩
section
variable {xu xq : AV} {us : List Clear} {qs : List Quota} {gr : Int} (hu : Sl 3 (encCs us) xu) (hq : Sl 5 (encQs qs) xq) (hql : qs.length < 4611686018427387904) (hul : us.length < 4611686018427387904)
include hu hq hql hul
@[simp] theorem s_Quota (a : UInt8) (b : UInt32) : limf env 12 [.agg [xu, xq, aI gr], .agg [a8 a, a32 b]] = some (.tup [.agg (quotaE us qs gr a b).enc, aI (askedE us qs gr a)]) := by
  refine limf_of (fn := Try.f12) (c := bd_policy_Quota) rfl (by kernel_rfl) (by kernel_rfl) (by kernel_rfl) (by kernel_rfl) ?_; refine vc_policy_Quota _ _ _ _ fun g => ?_
  simp [new_ne, ne_new, new_ne1, ne_new1, gen_put', *, VC_policy_Quota, hu.r, hq.r, s_asked hu hq hql hul, fillAV]
  unfold quotaE quotaOf
  refine br_of (fun h => ?_) (fun h => ?_)
  · have h : askedE us qs gr a ≠ 0 := by simpa using h
    simp [h, Quota.enc]
  · have h : askedE us qs gr a = 0 := by simpa using h
    cases hf : qs.find? (labIs a b) with
    | none => simp [hu.r, hq.r, s_find hq hql, hf, Quota.enc, h, fillAV]
    | some q => simp [hu.r, hq.r, s_find hq hql, hf, Quota.enc, h, fillAV]
end

/- ## The document's -/
@[simp] theorem s_Rone (q : Quota) : limf env 73 [.agg [a8 q.lv, a32 q.cats, aI q.opens, aI q.ops, aI q.cells]] = some (aB (qOwn q)) := by
  refine limf_of (fn := Try.f73) (c := bd_blindstampref06_one) rfl (by kernel_rfl) (by kernel_rfl) (by kernel_rfl) (by kernel_rfl) ?_; refine vc_blindstampref06_one _ _ _ fun g => ?_
  simp [new_ne, ne_new, new_ne1, ne_new1, gen_put', *, VC_blindstampref06_one]
  repeat' ((first | refine br_of (fun h => ?_) (fun h => ?_) | refine gQ_oft (fun h => ?_) (fun h => ?_) | refine gQ_off (fun h => ?_) (fun h => ?_) | refine gW_oft (fun h => ?_) (fun h => ?_) | refine gW_off (fun h => ?_) (fun h => ?_)) <;> (try simp only [decide_eq_true_eq, decide_eq_false_iff_not, Bool.not_eq_true', Bool.not_eq_false', Bool.and_eq_true, Bool.or_eq_true] at h) <;> (try simp [new_ne, ne_new, new_ne1, ne_new1, gen_put', *, qOwn]))

/-- A category. -/
def bitB (b : UInt32) (n : Nat) : Bool := decide ((b >>> UInt32.ofNat n) % 2 = 1)
@[simp] theorem s_has (a : UInt8) (b : UInt32) (n : Nat) (hn : n < 32) : limf env 81 [.agg [a8 a, a32 b], aI n] = some (aB (bitB b n)) := by
  refine limf_of (fn := Try.f81) (c := bd_blindstampref01_has) rfl (by kernel_rfl) (by kernel_rfl) (by kernel_rfl) (by kernel_rfl) ?_; refine vc_blindstampref01_has _ _ _ _ fun g => ?_
  have h1 : (n : Int) ≤ 4294967296 := by omega
  have h2 : (n : Int) < 32 := by omega
  simp [new_ne, ne_new, new_ne1, ne_new1, gen_put', *, VC_blindstampref01_has, bitB]

def leqFrom (b d : UInt32) : Nat → Nat → Bool
  | 0, _ => true
  | m + 1, n => !(bitB b n && !bitB d n) && leqFrom b d m (n + 1)
theorem rleq_loop {a c : UInt8} {b d : UInt32} {r1 r2 : Ref} {Q : AV → Heap → Prop} : ∀ (m n : Nat) (i : Int) (H : Heap), n + m = 32 → i = n → Fr H → H.get r1 = some ⟨2, [.agg [a8 a, a32 b]], false, false⟩ → H.get r2 = some ⟨2, [.agg [a8 c, a32 d]], false, false⟩ →
    (∀ y H', y = aB (leqFrom b d m n && decide (a ≤ c)) → Q y H') →
    GoL env Try.f75 0 hd_blindstampref01_Leq_2 [(5, aI i), (3, .ptr r2 0 0), (2, .ptr r1 0 0)] H Q := by
  intro m
  induction m with
  | zero =>
    rintro n i H hn rfl hF h1 h2 hQ
    obtain rfl : n = 32 := by omega
    refine vc_blindstampref01_Leq_2 _ _ _ _ _ fun g => ?_
    simp [new_ne, ne_new, new_ne1, ne_new1, gen_put', *, VC_blindstampref01_Leq_2]
    all_goals (first | exact hQ _ _ rfl | exact hQ _ _ (by simp [*, leqFrom]))
  | succ m ih =>
    rintro n i H hn rfl hF h1 h2 hQ
    have hlt : n < 32 := by omega
    have hlt' : (n : Int) < 32 := by omega
    refine vc_blindstampref01_Leq_2 _ _ _ _ _ fun g => ?_
    simp [new_ne, ne_new, new_ne1, ne_new1, gen_put', *, VC_blindstampref01_Leq_2]
    have e := IntWalk.i64_in ((n : Int) + 1) (by omega)
    have ihn := ih (n + 1) _ H (by omega) rfl hF h1 h2
    cases hb : bitB b n <;> cases hd : bitB d n
    · simp [*]; exact ihn fun y H' ey => hQ y H' (by simp [ey, leqFrom, hb, hd])
    · simp [*]; exact ihn fun y H' ey => hQ y H' (by simp [ey, leqFrom, hb, hd])
    · simp [*]; exact hQ _ _ (by simp [leqFrom, hb, hd])
    · simp [*]; exact ihn fun y H' ey => hQ y H' (by simp [ey, leqFrom, hb, hd])

theorem bitB_get (b : UInt32) (n : Nat) (hn : n < 32) : bitB b n = b.toBitVec.getLsbD n := by
  unfold bitB
  have h1 : ((b >>> UInt32.ofNat n) % 2 = 1) ↔ ((b >>> UInt32.ofNat n) % 2).toNat = 1 := by rw [← UInt32.toNat_inj]; rfl
  rw [Bool.eq_iff_iff, decide_eq_true_eq, h1, UInt32.toNat_mod, UInt32.toNat_shiftRight, UInt32.toNat_ofNat', BitVec.getLsbD, Nat.testBit_eq_decide_div_mod_eq, Nat.shiftRight_eq_div_pow, decide_eq_true_eq]
  have : n % 2 ^ 32 % 32 = n := by omega
  rw [this]
  rfl
theorem leqFrom_iff (b d : UInt32) : ∀ (m n : Nat), n + m = 32 → (leqFrom b d m n = true ↔ ∀ k, n ≤ k → k < 32 → (b.toBitVec &&& ~~~d.toBitVec).getLsbD k = false) := by
  intro m
  induction m with
  | zero => intro n hn; simp only [leqFrom, true_iff]; intro k h1 h2; omega
  | succ m ih =>
    intro n hn
    have hlt : n < 32 := by omega
    simp only [leqFrom, Bool.and_eq_true, ih (n + 1) (by omega), bitB_get _ _ hlt]
    constructor
    · rintro ⟨h1, h2⟩ k hk hk2
      by_cases e : k = n
      · subst e
        simp only [BitVec.getLsbD_and, BitVec.getLsbD_not, hk2, decide_true, Bool.true_and]
        revert h1
        cases b.toBitVec.getLsbD k <;> cases d.toBitVec.getLsbD k <;> simp
      · exact h2 k (by omega) hk2
    · intro h
      refine ⟨?_, fun k h1 h2 => h k (by omega) h2⟩
      have := h n (Nat.le_refl _) hlt
      simp only [BitVec.getLsbD_and, BitVec.getLsbD_not, hlt, decide_true, Bool.true_and] at this
      revert this
      cases b.toBitVec.getLsbD n <;> cases d.toBitVec.getLsbD n <;> simp
theorem leqFrom_all (b d : UInt32) : leqFrom b d 32 0 = decide (b &&& ~~~d = 0) := by
  rw [Bool.eq_iff_iff, leqFrom_iff b d 32 0 (by omega), decide_eq_true_eq]
  constructor
  · intro h
    apply UInt32.toBitVec_inj.1
    apply BitVec.eq_of_getLsbD_eq
    intro i hi
    simpa using h i (by omega) hi
  · intro h k _ _
    have := congrArg UInt32.toBitVec h
    simp only [UInt32.toBitVec_and, UInt32.toBitVec_not] at this
    rw [this]; simp

@[simp] theorem s_RLeq (a : UInt8) (b : UInt32) (c : UInt8) (d : UInt32) : limf env 75 [.agg [a8 a, a32 b], .agg [a8 c, a32 d]] = some (aB (leqB a b c d)) := by
  refine limf_of (fn := Try.f75) (c := bd_blindstampref01_Leq) rfl (by kernel_rfl) (by kernel_rfl) (by kernel_rfl) (by kernel_rfl) ?_; refine vc_blindstampref01_Leq _ _ _ _ fun g => ?_
  simp [new_ne, ne_new, new_ne1, ne_new1, gen_put', *, VC_blindstampref01_Leq]
  exact rleq_loop (a := a) (b := b) (c := c) (d := d) 32 0 _ _ rfl rfl (by simp (maxDischargeDepth := 12) [Fr_cons, Fr_consK, Fr.nil, Fr_put, new_ne, ne_new, new_ne1, ne_new1, get_new, get_new1, gen_put', *]) (by simp (maxDischargeDepth := 12) [Fr_cons, Fr_consK, Fr.nil, Fr_put, new_ne, ne_new, new_ne1, ne_new1, get_new, get_new1, gen_put', *]) (by simp (maxDischargeDepth := 12) [Fr_cons, Fr_consK, Fr.nil, Fr_put, new_ne, ne_new, new_ne1, ne_new1, get_new, get_new1, gen_put', *]) fun y H' e => by simp [e, leqFrom_all, leqB, Bool.and_comm]

@[simp] theorem s_RAhead (a : UInt8) (b : UInt32) (c : UInt8) (d : UInt32) : limf env 74 [.agg [a8 a, a32 b], .agg [a8 c, a32 d]] = some (aB (aheadB a b c d)) := by
  refine limf_of (fn := Try.f74) (c := bd_blindstampref01_Ahead) rfl (by kernel_rfl) (by kernel_rfl) (by kernel_rfl) (by kernel_rfl) ?_; refine vc_blindstampref01_Ahead _ _ _ _ fun g => ?_
  have h1 := a.toNat_lt
  have h2 := b.toNat_lt
  have h3 := c.toNat_lt
  have h4 := d.toNat_lt
  have e1 : IntKind.i64.wrap ((a.toNat : Int) * 4294967296) = (a.toNat : Int) * 4294967296 := IntWalk.i64_in _ (by omega)
  have e2 : IntKind.i64.wrap ((c.toNat : Int) * 4294967296) = (c.toNat : Int) * 4294967296 := IntWalk.i64_in _ (by omega)
  have e3 : IntKind.i64.wrap ((a.toNat : Int) * 4294967296 + b.toNat) = (a.toNat : Int) * 4294967296 + b.toNat := IntWalk.i64_in _ (by omega)
  have e4 : IntKind.i64.wrap ((c.toNat : Int) * 4294967296 + d.toNat) = (c.toNat : Int) * 4294967296 + d.toNat := IntWalk.i64_in _ (by omega)
  simp [new_ne, ne_new, new_ne1, ne_new1, gen_put', *, VC_blindstampref01_Ahead, aheadB]
  rw [Bool.eq_iff_iff]
  simp only [Bool.or_eq_true, Bool.and_eq_true, decide_eq_true_eq, UInt8.lt_iff_toNat_lt, UInt32.lt_iff_toNat_lt, ← UInt8.toNat_inj]
  omega

end Go.Proofs.Ytgooemdlilfkmaa
