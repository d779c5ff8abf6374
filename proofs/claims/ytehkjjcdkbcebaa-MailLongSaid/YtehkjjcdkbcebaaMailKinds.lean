/-
  Mail's kinds: the map, and what is found in it. No statement of a seat is proved here.
-/
import Derived.Test.YtehkjjcdkbcebaaMailRd2
import Derived.Test.YtehkjjcdkbcebaaOpSame
set_option linter.unusedVariables false
set_option linter.unusedSimpArgs false
set_option linter.unusedSectionVars false
set_option linter.unnecessarySimpa false
set_option maxRecDepth 100000
namespace Go.Proofs.Ytehkjjcdkbcebaa
open Go.Ab
attribute [local simp] depth_eq callRes_V callG_frz callG_own keep thr appRes_G appFine_n appFine_s appG_n appG_s roomB appRes_I islFine_some islG_ne List.take_of_length_le
def fnA (f : Nat) : AV := .fn (.func f) [] []
def kEnt (k : Nat) (d m : Nat) : AV := .tup [.v (.int .u8 k), .agg [fnA d, fnA m]]
def kindEs : List AV := [kEnt 1 113 111, kEnt 2 115 117, kEnt 3 118 111, kEnt 4 119 112, kEnt 5 120 111,
  kEnt 6 121 111, kEnt 7 122 123, kEnt 8 124 111, kEnt 9 125 112, kEnt 10 121 111]
theorem s_kinds : limf env 72 [] = some (.fsl 0 (.v (.bool true) :: kindEs) none) := limf_run_of (n := 100000) (by kernel_rfl)
def kindAt (n : Nat) : Option Nat := if n = 0 then none else if n ≤ 10 then some (n - 1) else none
def kindKs : List Value := [.int .u8 1, .int .u8 2, .int .u8 3, .int .u8 4, .int .u8 5, .int .u8 6, .int .u8 7, .int .u8 8, .int .u8 9, .int .u8 10]
theorem ks_eq : kindEs.mapM entKey = some kindKs := by kernel_rfl
def sameO : Option (Option Nat) → Option (Option Nat) → Bool
  | none, none => true
  | some none, some none => true
  | some (some a), some (some b) => Nat.beq a b
  | _, _ => false
theorem sameO_eq {a b : Option (Option Nat)} (h : sameO a b = true) : a = b := by
  rcases a with _ | _ | a <;> rcases b with _ | _ | b <;> first | rfl | (simp [sameO] at h; done) | (simp [sameO] at h; subst h; rfl)
theorem find_all : ((List.range 256).all fun n => sameO (mapFind env.P false 5 (.int .u8 n) kindKs) (some (kindAt n))) = true := by kernel_rfl
theorem find_k (k : UInt8) : mapFind env.P false 5 (.int .u8 (k.toNat : Nat)) kindKs = some (kindAt k.toNat) :=
  sameO_eq (List.all_eq_true.1 find_all k.toNat (List.mem_range.2 k.toNat_lt))
def kindV (n : Nat) : AV := match kindAt n with
  | some i => (kindEs[i]?.bind entVal).getD aNil
  | none => .agg [.v .nilFunc, .v .nilFunc]
theorem s_find (g : Get) (r : Ref) (k : UInt8) (hg : g r = some ⟨0, .v (.bool true) :: kindEs, false, false⟩) : qLookup env.P g 128 (some (.mp r)) (some (a8 k)) true = some (.tup [kindV k.toNat, aB (kindAt k.toNat).isSome], []) := by
  have ht : tmap env.P 128 = some (5, 126) := by kernel_rfl
  have hm : mapAt g r = some kindEs := by simp only [mapAt, hg]
  have hk : (some (a8 k)).bind toValue = some (.int .u8 (k.toNat : Nat)) := rfl
  unfold qLookup
  rw [ht, hk]
  simp only [hm, ks_eq]
  rw [show kindKs.isEmpty = false from rfl, find_k]
  unfold kindV
  cases hka : kindAt k.toNat with
  | none =>
    have hz : tzero env.P 126 = some (.agg [.v .nilFunc, .v .nilFunc]) := by kernel_rfl
    simp only [hz, Option.map_some, if_true]
    rfl
  | some i =>
    have hi : i < 10 := by
      unfold kindAt at hka
      split at hka
      · cases hka
      · split at hka
        · cases hka; omega
        · cases hka
    have : kindEs[i]?.bind entVal = some ((kindEs[i]?.bind entVal).getD aNil) := by
      match i, hi with
      | 0, _ => rfl
      | 1, _ => rfl
      | 2, _ => rfl
      | 3, _ => rfl
      | 4, _ => rfl
      | 5, _ => rfl
      | 6, _ => rfl
      | 7, _ => rfl
      | 8, _ => rfl
      | 9, _ => rfl
    simp only [if_true]
    rw [this]
    rfl
def Mai.val (m : Mai) (xo : AV) : AV := .agg [a8 m.kind, aI m.user, aI m.serial, aI m.code, aI m.fromN, aI m.total, a8 m.asked, aI m.t0, aI m.t1, aI m.t2, aI m.t3, xo]
section
variable (m : Mai) {xo : AV} {ol : List (Opn × AV)} (hx : Sl 17 (encOs ol) xo)
include hx
theorem may_any : limf env 111 [m.val xo] = some (aB true) := by
  refine limf_of (fn := Try.f111) (c := bd_mail_kindsF1) rfl (by kernel_rfl) (by kernel_rfl) (by kernel_rfl) (by kernel_rfl) ?_; refine vc_mail_kindsF1 _ _ _ fun g => ?_
  unfold Mai.val
  simp [new_ne, ne_new, new_ne1, ne_new1, gen_put', *, VC_mail_kindsF1, hx.r]
theorem may_asks : limf env 112 [m.val xo] = some (aB (decide (m.asked = 1) || decide (m.asked = 2))) := by
  refine limf_of (fn := Try.f112) (c := bd_mail_kindsF2) rfl (by kernel_rfl) (by kernel_rfl) (by kernel_rfl) (by kernel_rfl) ?_; refine vc_mail_kindsF2 _ _ _ fun g => ?_
  unfold Mai.val
  simp [new_ne, ne_new, new_ne1, ne_new1, gen_put', *, VC_mail_kindsF2, hx.r]
  repeat' ((first | refine br_of (fun h => ?_) (fun h => ?_) | refine gQ_oft (fun h => ?_) (fun h => ?_) | refine gQ_off (fun h => ?_) (fun h => ?_) | refine gW_oft (fun h => ?_) (fun h => ?_) | refine gW_off (fun h => ?_) (fun h => ?_)) <;> (try simp only [decide_eq_true_eq, decide_eq_false_iff_not, Bool.not_eq_true', Bool.not_eq_false', Bool.and_eq_true, Bool.or_eq_true] at h) <;> (try simp [new_ne, ne_new, new_ne1, ne_new1, gen_put', *]))
theorem may_serial : limf env 123 [m.val xo] = some (aB (decide (0 < m.serial))) := by
  refine limf_of (fn := Try.f123) (c := bd_mail_kindsF9) rfl (by kernel_rfl) (by kernel_rfl) (by kernel_rfl) (by kernel_rfl) ?_; refine vc_mail_kindsF9 _ _ _ fun g => ?_
  unfold Mai.val
  simp [new_ne, ne_new, new_ne1, ne_new1, gen_put', *, VC_mail_kindsF9, hx.r]
theorem may_plain {p : Opn × AV} (ho : ol = [p]) (hp : okO p) : limf env 117 [m.val xo] = some (aB (!decide (-1 ∈ p.1.l))) := by
  subst ho
  refine limf_of (fn := Try.f117) (c := bd_mail_kindsF5) rfl (by kernel_rfl) (by kernel_rfl) (by kernel_rfl) (by kernel_rfl) ?_; refine vc_mail_kindsF5 _ _ _ fun g => ?_
  obtain ⟨⟨a_1, ⟨a_2, a_3, a_4⟩, a_5, ⟨⟨⟨a_6, a_7, a_8⟩, a_9⟩, a_10⟩, ⟨⟨a_11, a_12, a_13⟩, a_14⟩, ⟨a_15, a_16⟩, al⟩, xa⟩ := p
  obtain ⟨hp1, hp2⟩ := hp
  simp only at hp1 hp2
  have hpl := s_OpPlain a_1 a_2 a_3 a_4 a_5 a_6 a_7 a_8 a_9 a_10 a_11 a_12 a_13 a_14 a_15 a_16 hp1 (by omega)
  unfold Mai.val
  simp [new_ne, ne_new, new_ne1, ne_new1, gen_put', *, VC_mail_kindsF5, hx.r, hx.idx, encOs, encO, hp1.r]
end
end Go.Proofs.Ytehkjjcdkbcebaa
