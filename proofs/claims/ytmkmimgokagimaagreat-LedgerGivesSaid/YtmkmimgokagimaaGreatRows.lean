/-
  No cell of these rows narrows 'for every input' (looked for: loops, veiled, ifaces, maps, wideKeys, modest, calm, conditions, laid).
  DERIVED. THE GIVEN ROWS OF THIS SEAT. 10 by the template 'for every input the law returns true; each argument reads behind the call as it read before'; 0 by the template 'total and deterministic' (their statements: YtmkmimgokagimaaGreatTotals.lean).
  GIVEN WITH THE SEED: the statements are not yours to turn. If you find one false, say at which input.
  Laid BY PROGRAM, IN A SANDBOX (cutbox-rows.mjs): the forced cells as the released guide's own fill.sh prints them over the translation 1125afe223bfe19d… (all of the seat's roots in one cut). By AI agents, Wed Nov 11 2026. No macro, syntax, notation, axiom, sorry.
-/
import Derived.Test.YtmkmimgokagimaaGreatChecked
import GoSem.Claim
import GoSem.ClaimJoined
import GoSem.ClaimMapViews
import Derived.JoinedTies
import Derived.KernelRfl
namespace Go.Proofs.YtmkmimgokagimaaGreat
/- THE CELL 'sum', in the pinned program and in every row, IS THE sha256 OF THE DUMP (.gsa) THAT YtmkmimgokagimaaGreatProg.lean LOADS. Nothing in Lean hashes anything: it is a label: what it is worth is what the hold of that sum in a sandbox is worth. -/
noncomputable def Tryz.pinned : Pinned := { name := "ytmkmimgokagimaagreat", sum := "1125afe223bfe19d3848a5c684b4b29ea5426bd1755d10e899b2a5395268507b", checked := Tryz.checked }
namespace Rows
def none {H : Type} : Left H := { results := [], args := [] }

/-- 'blindstamplaw22.LedgerGives': WHATEVER THE INPUT: true; the input reads as it did. -/
def ledgerGivesSpec : ChangeSpec := { name := "ledgerGives", fn := fun _ => fun
  | [d1, d2, d3, d4] => { results := [.lit (.bool true)], args := [d1, d2, d3, d4] }
  | _ => none }
def ledgerGivesRow : OpenClaim := { program := "ytmkmimgokagimaagreat", sum := "1125afe223bfe19d3848a5c684b4b29ea5426bd1755d10e899b2a5395268507b", func := "blindstamp/blindstamplaw22.LedgerGives", spec := "ledgerGives", unfollowed := true, recurses := true, plainKeys := false, apart := false }
def LedgerGivesSaid : Prop := ledgerGivesRow.holds Tryz.pinned (OpenSpec.ofChange ledgerGivesSpec)

/-- ITS FALSE NEIGHBOUR: 'it returns false'. Refute it at one input. -/
def ledgerGivesWrong : ChangeSpec := { name := "ledgerGives", fn := fun _ => fun
  | [d1, d2, d3, d4] => { results := [.lit (.bool false)], args := [d1, d2, d3, d4] }
  | _ => none }
def LedgerGivesWrongFalsely : Prop := ledgerGivesRow.holds Tryz.pinned (OpenSpec.ofChange ledgerGivesWrong)

/-- 'blindstamplaw22.LedgerTells': WHATEVER THE INPUT: true; the input reads as it did. -/
def ledgerTellsSpec : ChangeSpec := { name := "ledgerTells", fn := fun _ => fun
  | [d1, d2, d3, d4, d5, d6] => { results := [.lit (.bool true)], args := [d1, d2, d3, d4, d5, d6] }
  | _ => none }
def ledgerTellsRow : OpenClaim := { program := "ytmkmimgokagimaagreat", sum := "1125afe223bfe19d3848a5c684b4b29ea5426bd1755d10e899b2a5395268507b", func := "blindstamp/blindstamplaw22.LedgerTells", spec := "ledgerTells", unfollowed := true, recurses := true, plainKeys := false, apart := false }
def LedgerTellsSaid : Prop := ledgerTellsRow.holds Tryz.pinned (OpenSpec.ofChange ledgerTellsSpec)

/-- ITS FALSE NEIGHBOUR: 'it returns false'. Refute it at one input. -/
def ledgerTellsWrong : ChangeSpec := { name := "ledgerTells", fn := fun _ => fun
  | [d1, d2, d3, d4, d5, d6] => { results := [.lit (.bool false)], args := [d1, d2, d3, d4, d5, d6] }
  | _ => none }
def LedgerTellsWrongFalsely : Prop := ledgerTellsRow.holds Tryz.pinned (OpenSpec.ofChange ledgerTellsWrong)

/-- 'blindstamplaw22.LedgerGoes': WHATEVER THE INPUT: true; the input reads as it did. -/
def ledgerGoesSpec : ChangeSpec := { name := "ledgerGoes", fn := fun _ => fun
  | [d1, d2, d3] => { results := [.lit (.bool true)], args := [d1, d2, d3] }
  | _ => none }
def ledgerGoesRow : OpenClaim := { program := "ytmkmimgokagimaagreat", sum := "1125afe223bfe19d3848a5c684b4b29ea5426bd1755d10e899b2a5395268507b", func := "blindstamp/blindstamplaw22.LedgerGoes", spec := "ledgerGoes", unfollowed := true, recurses := true, plainKeys := false, apart := false }
def LedgerGoesSaid : Prop := ledgerGoesRow.holds Tryz.pinned (OpenSpec.ofChange ledgerGoesSpec)

/-- ITS FALSE NEIGHBOUR: 'it returns false'. Refute it at one input. -/
def ledgerGoesWrong : ChangeSpec := { name := "ledgerGoes", fn := fun _ => fun
  | [d1, d2, d3] => { results := [.lit (.bool false)], args := [d1, d2, d3] }
  | _ => none }
def LedgerGoesWrongFalsely : Prop := ledgerGoesRow.holds Tryz.pinned (OpenSpec.ofChange ledgerGoesWrong)

/-- 'blindstamplaw22.LedgerNames': WHATEVER THE INPUT: true; the input reads as it did. -/
def ledgerNamesSpec : ChangeSpec := { name := "ledgerNames", fn := fun _ => fun
  | [] => { results := [.lit (.bool true)], args := [] }
  | _ => none }
def ledgerNamesRow : OpenClaim := { program := "ytmkmimgokagimaagreat", sum := "1125afe223bfe19d3848a5c684b4b29ea5426bd1755d10e899b2a5395268507b", func := "blindstamp/blindstamplaw22.LedgerNames", spec := "ledgerNames", unfollowed := true, recurses := true, plainKeys := false, apart := false }
def LedgerNamesSaid : Prop := ledgerNamesRow.holds Tryz.pinned (OpenSpec.ofChange ledgerNamesSpec)

/-- ITS FALSE NEIGHBOUR: 'it returns false'. Refute it at one input. -/
def ledgerNamesWrong : ChangeSpec := { name := "ledgerNames", fn := fun _ => fun
  | [] => { results := [.lit (.bool false)], args := [] }
  | _ => none }
def LedgerNamesWrongFalsely : Prop := ledgerNamesRow.holds Tryz.pinned (OpenSpec.ofChange ledgerNamesWrong)

/-- 'blindstamplaw22.LedgerOnce': WHATEVER THE INPUT: true; the input reads as it did. -/
def ledgerOnceSpec : ChangeSpec := { name := "ledgerOnce", fn := fun _ => fun
  | [d1, d2, d3, d4] => { results := [.lit (.bool true)], args := [d1, d2, d3, d4] }
  | _ => none }
def ledgerOnceRow : OpenClaim := { program := "ytmkmimgokagimaagreat", sum := "1125afe223bfe19d3848a5c684b4b29ea5426bd1755d10e899b2a5395268507b", func := "blindstamp/blindstamplaw22.LedgerOnce", spec := "ledgerOnce", unfollowed := true, recurses := true, plainKeys := false, apart := false }
def LedgerOnceSaid : Prop := ledgerOnceRow.holds Tryz.pinned (OpenSpec.ofChange ledgerOnceSpec)

/-- ITS FALSE NEIGHBOUR: 'it returns false'. Refute it at one input. -/
def ledgerOnceWrong : ChangeSpec := { name := "ledgerOnce", fn := fun _ => fun
  | [d1, d2, d3, d4] => { results := [.lit (.bool false)], args := [d1, d2, d3, d4] }
  | _ => none }
def LedgerOnceWrongFalsely : Prop := ledgerOnceRow.holds Tryz.pinned (OpenSpec.ofChange ledgerOnceWrong)

/-- 'blindstamplaw22.LedgerAlone': WHATEVER THE INPUT: true; the input reads as it did. -/
def ledgerAloneSpec : ChangeSpec := { name := "ledgerAlone", fn := fun _ => fun
  | [d1, d2, d3, d4, d5, d6] => { results := [.lit (.bool true)], args := [d1, d2, d3, d4, d5, d6] }
  | _ => none }
def ledgerAloneRow : OpenClaim := { program := "ytmkmimgokagimaagreat", sum := "1125afe223bfe19d3848a5c684b4b29ea5426bd1755d10e899b2a5395268507b", func := "blindstamp/blindstamplaw22.LedgerAlone", spec := "ledgerAlone", unfollowed := true, recurses := true, plainKeys := false, apart := false }
def LedgerAloneSaid : Prop := ledgerAloneRow.holds Tryz.pinned (OpenSpec.ofChange ledgerAloneSpec)

/-- ITS FALSE NEIGHBOUR: 'it returns false'. Refute it at one input. -/
def ledgerAloneWrong : ChangeSpec := { name := "ledgerAlone", fn := fun _ => fun
  | [d1, d2, d3, d4, d5, d6] => { results := [.lit (.bool false)], args := [d1, d2, d3, d4, d5, d6] }
  | _ => none }
def LedgerAloneWrongFalsely : Prop := ledgerAloneRow.holds Tryz.pinned (OpenSpec.ofChange ledgerAloneWrong)

/-- 'blindstamplaw23.AdmitNames': WHATEVER THE INPUT: true; the input reads as it did. -/
def admitNamesSpec : ChangeSpec := { name := "admitNames", fn := fun _ => fun
  | [] => { results := [.lit (.bool true)], args := [] }
  | _ => none }
def admitNamesRow : OpenClaim := { program := "ytmkmimgokagimaagreat", sum := "1125afe223bfe19d3848a5c684b4b29ea5426bd1755d10e899b2a5395268507b", func := "blindstamp/blindstamplaw23.AdmitNames", spec := "admitNames", unfollowed := true, recurses := true, plainKeys := false, apart := false }
def AdmitNamesSaid : Prop := admitNamesRow.holds Tryz.pinned (OpenSpec.ofChange admitNamesSpec)

/-- ITS FALSE NEIGHBOUR: 'it returns false'. Refute it at one input. -/
def admitNamesWrong : ChangeSpec := { name := "admitNames", fn := fun _ => fun
  | [] => { results := [.lit (.bool false)], args := [] }
  | _ => none }
def AdmitNamesWrongFalsely : Prop := admitNamesRow.holds Tryz.pinned (OpenSpec.ofChange admitNamesWrong)

/-- 'blindstamplaw23.AdmitTells': WHATEVER THE INPUT: true; the input reads as it did. -/
def admitTellsSpec : ChangeSpec := { name := "admitTells", fn := fun _ => fun
  | [d1, d2, d3, d4, d5] => { results := [.lit (.bool true)], args := [d1, d2, d3, d4, d5] }
  | _ => none }
def admitTellsRow : OpenClaim := { program := "ytmkmimgokagimaagreat", sum := "1125afe223bfe19d3848a5c684b4b29ea5426bd1755d10e899b2a5395268507b", func := "blindstamp/blindstamplaw23.AdmitTells", spec := "admitTells", unfollowed := true, recurses := true, plainKeys := false, apart := false }
def AdmitTellsSaid : Prop := admitTellsRow.holds Tryz.pinned (OpenSpec.ofChange admitTellsSpec)

/-- ITS FALSE NEIGHBOUR: 'it returns false'. Refute it at one input. -/
def admitTellsWrong : ChangeSpec := { name := "admitTells", fn := fun _ => fun
  | [d1, d2, d3, d4, d5] => { results := [.lit (.bool false)], args := [d1, d2, d3, d4, d5] }
  | _ => none }
def AdmitTellsWrongFalsely : Prop := admitTellsRow.holds Tryz.pinned (OpenSpec.ofChange admitTellsWrong)

/-- 'blindstamplaw23.AdmitOnce': WHATEVER THE INPUT: true; the input reads as it did. -/
def admitOnceSpec : ChangeSpec := { name := "admitOnce", fn := fun _ => fun
  | [d1, d2, d3, d4, d5] => { results := [.lit (.bool true)], args := [d1, d2, d3, d4, d5] }
  | _ => none }
def admitOnceRow : OpenClaim := { program := "ytmkmimgokagimaagreat", sum := "1125afe223bfe19d3848a5c684b4b29ea5426bd1755d10e899b2a5395268507b", func := "blindstamp/blindstamplaw23.AdmitOnce", spec := "admitOnce", unfollowed := true, recurses := true, plainKeys := false, apart := false }
def AdmitOnceSaid : Prop := admitOnceRow.holds Tryz.pinned (OpenSpec.ofChange admitOnceSpec)

/-- ITS FALSE NEIGHBOUR: 'it returns false'. Refute it at one input. -/
def admitOnceWrong : ChangeSpec := { name := "admitOnce", fn := fun _ => fun
  | [d1, d2, d3, d4, d5] => { results := [.lit (.bool false)], args := [d1, d2, d3, d4, d5] }
  | _ => none }
def AdmitOnceWrongFalsely : Prop := admitOnceRow.holds Tryz.pinned (OpenSpec.ofChange admitOnceWrong)

/-- 'blindstamplaw23.AdmitAlone': WHATEVER THE INPUT: true; the input reads as it did. -/
def admitAloneSpec : ChangeSpec := { name := "admitAlone", fn := fun _ => fun
  | [d1, d2, d3, d4, d5, d6] => { results := [.lit (.bool true)], args := [d1, d2, d3, d4, d5, d6] }
  | _ => none }
def admitAloneRow : OpenClaim := { program := "ytmkmimgokagimaagreat", sum := "1125afe223bfe19d3848a5c684b4b29ea5426bd1755d10e899b2a5395268507b", func := "blindstamp/blindstamplaw23.AdmitAlone", spec := "admitAlone", unfollowed := true, recurses := true, plainKeys := false, apart := false }
def AdmitAloneSaid : Prop := admitAloneRow.holds Tryz.pinned (OpenSpec.ofChange admitAloneSpec)

/-- ITS FALSE NEIGHBOUR: 'it returns false'. Refute it at one input. -/
def admitAloneWrong : ChangeSpec := { name := "admitAlone", fn := fun _ => fun
  | [d1, d2, d3, d4, d5, d6] => { results := [.lit (.bool false)], args := [d1, d2, d3, d4, d5, d6] }
  | _ => none }
def AdmitAloneWrongFalsely : Prop := admitAloneRow.holds Tryz.pinned (OpenSpec.ofChange admitAloneWrong)

/- THE SECOND FORM. 'bulk': how many values and letters a reading holds, each counted each time it is reached (what is shared counts as often as it is met; a slice's spare places count too). A statement '..UptoSaid' is the law's where the arguments, and the package variables that the reading takes, are together of bulk at most 1048576: NARROWER than '..Said'. Prove '..Said' where nothing that the law and all that it calls make is longer than what came in: it says more and counts as full. Else prove '..UptoSaid'. A law counts once. -/
mutual
def uptoBulk {H : Type} : DataW H → Nat
  | .lit (.string bytes) => bytes.length + 1
  | .lit _ => 1
  | .nil => 1
  | .ptr d => uptoBulk d + 1
  | .slice elems spare => uptoBulkAll elems + uptoBulkAll spare + 1
  | .agg parts => uptoBulkAll parts + 1
  | .iface _ d => uptoBulk d + 1
  | .map entries => uptoBulkEntries entries + 1
  | .held _ => 1
def uptoBulkAll {H : Type} : List (DataW H) → Nat
  | [] => 0
  | d :: r => uptoBulk d + uptoBulkAll r
def uptoBulkEntries {H : Type} : List (Lit × DataW H) → Nat
  | [] => 0
  | x :: r => uptoBulkEntry x + uptoBulkEntries r
def uptoBulkEntry {H : Type} : Lit × DataW H → Nat
  | (.string bytes, d) => bytes.length + uptoBulk d + 1
  | (_, d) => uptoBulk d + 1
 end
def uptoSmall : (H : Type) → List (DataW H) → Bool := fun _ ds => decide (uptoBulkAll ds ≤ 1048576)
def OpenSpec.upto (s : _root_.Go.ChangeSpec) : _root_.Go.OpenSpec := { _root_.Go.OpenSpec.ofChange s with cond := some uptoSmall }

/-- 'blindstamplaw22.LedgerGives', WHERE WHAT IT READS IS OF BULK AT MOST 1048576: true; the input reads as it did. -/
def ledgerGivesUptoRow : OpenClaim := { program := "ytmkmimgokagimaagreat", sum := "1125afe223bfe19d3848a5c684b4b29ea5426bd1755d10e899b2a5395268507b", func := "blindstamp/blindstamplaw22.LedgerGives", spec := "ledgerGives", unfollowed := true, recurses := true, plainKeys := false, apart := false, narrowed := true }
def LedgerGivesUptoSaid : Prop := ledgerGivesUptoRow.holds Tryz.pinned (OpenSpec.upto ledgerGivesSpec)

/-- 'blindstamplaw22.LedgerTells', WHERE WHAT IT READS IS OF BULK AT MOST 1048576: true; the input reads as it did. -/
def ledgerTellsUptoRow : OpenClaim := { program := "ytmkmimgokagimaagreat", sum := "1125afe223bfe19d3848a5c684b4b29ea5426bd1755d10e899b2a5395268507b", func := "blindstamp/blindstamplaw22.LedgerTells", spec := "ledgerTells", unfollowed := true, recurses := true, plainKeys := false, apart := false, narrowed := true }
def LedgerTellsUptoSaid : Prop := ledgerTellsUptoRow.holds Tryz.pinned (OpenSpec.upto ledgerTellsSpec)

/-- 'blindstamplaw22.LedgerGoes', WHERE WHAT IT READS IS OF BULK AT MOST 1048576: true; the input reads as it did. -/
def ledgerGoesUptoRow : OpenClaim := { program := "ytmkmimgokagimaagreat", sum := "1125afe223bfe19d3848a5c684b4b29ea5426bd1755d10e899b2a5395268507b", func := "blindstamp/blindstamplaw22.LedgerGoes", spec := "ledgerGoes", unfollowed := true, recurses := true, plainKeys := false, apart := false, narrowed := true }
def LedgerGoesUptoSaid : Prop := ledgerGoesUptoRow.holds Tryz.pinned (OpenSpec.upto ledgerGoesSpec)

/-- 'blindstamplaw22.LedgerNames', WHERE WHAT IT READS IS OF BULK AT MOST 1048576: true; the input reads as it did. -/
def ledgerNamesUptoRow : OpenClaim := { program := "ytmkmimgokagimaagreat", sum := "1125afe223bfe19d3848a5c684b4b29ea5426bd1755d10e899b2a5395268507b", func := "blindstamp/blindstamplaw22.LedgerNames", spec := "ledgerNames", unfollowed := true, recurses := true, plainKeys := false, apart := false, narrowed := true }
def LedgerNamesUptoSaid : Prop := ledgerNamesUptoRow.holds Tryz.pinned (OpenSpec.upto ledgerNamesSpec)

/-- 'blindstamplaw22.LedgerOnce', WHERE WHAT IT READS IS OF BULK AT MOST 1048576: true; the input reads as it did. -/
def ledgerOnceUptoRow : OpenClaim := { program := "ytmkmimgokagimaagreat", sum := "1125afe223bfe19d3848a5c684b4b29ea5426bd1755d10e899b2a5395268507b", func := "blindstamp/blindstamplaw22.LedgerOnce", spec := "ledgerOnce", unfollowed := true, recurses := true, plainKeys := false, apart := false, narrowed := true }
def LedgerOnceUptoSaid : Prop := ledgerOnceUptoRow.holds Tryz.pinned (OpenSpec.upto ledgerOnceSpec)

/-- 'blindstamplaw22.LedgerAlone', WHERE WHAT IT READS IS OF BULK AT MOST 1048576: true; the input reads as it did. -/
def ledgerAloneUptoRow : OpenClaim := { program := "ytmkmimgokagimaagreat", sum := "1125afe223bfe19d3848a5c684b4b29ea5426bd1755d10e899b2a5395268507b", func := "blindstamp/blindstamplaw22.LedgerAlone", spec := "ledgerAlone", unfollowed := true, recurses := true, plainKeys := false, apart := false, narrowed := true }
def LedgerAloneUptoSaid : Prop := ledgerAloneUptoRow.holds Tryz.pinned (OpenSpec.upto ledgerAloneSpec)

/-- 'blindstamplaw23.AdmitNames', WHERE WHAT IT READS IS OF BULK AT MOST 1048576: true; the input reads as it did. -/
def admitNamesUptoRow : OpenClaim := { program := "ytmkmimgokagimaagreat", sum := "1125afe223bfe19d3848a5c684b4b29ea5426bd1755d10e899b2a5395268507b", func := "blindstamp/blindstamplaw23.AdmitNames", spec := "admitNames", unfollowed := true, recurses := true, plainKeys := false, apart := false, narrowed := true }
def AdmitNamesUptoSaid : Prop := admitNamesUptoRow.holds Tryz.pinned (OpenSpec.upto admitNamesSpec)

/-- 'blindstamplaw23.AdmitTells', WHERE WHAT IT READS IS OF BULK AT MOST 1048576: true; the input reads as it did. -/
def admitTellsUptoRow : OpenClaim := { program := "ytmkmimgokagimaagreat", sum := "1125afe223bfe19d3848a5c684b4b29ea5426bd1755d10e899b2a5395268507b", func := "blindstamp/blindstamplaw23.AdmitTells", spec := "admitTells", unfollowed := true, recurses := true, plainKeys := false, apart := false, narrowed := true }
def AdmitTellsUptoSaid : Prop := admitTellsUptoRow.holds Tryz.pinned (OpenSpec.upto admitTellsSpec)

/-- 'blindstamplaw23.AdmitOnce', WHERE WHAT IT READS IS OF BULK AT MOST 1048576: true; the input reads as it did. -/
def admitOnceUptoRow : OpenClaim := { program := "ytmkmimgokagimaagreat", sum := "1125afe223bfe19d3848a5c684b4b29ea5426bd1755d10e899b2a5395268507b", func := "blindstamp/blindstamplaw23.AdmitOnce", spec := "admitOnce", unfollowed := true, recurses := true, plainKeys := false, apart := false, narrowed := true }
def AdmitOnceUptoSaid : Prop := admitOnceUptoRow.holds Tryz.pinned (OpenSpec.upto admitOnceSpec)

/-- 'blindstamplaw23.AdmitAlone', WHERE WHAT IT READS IS OF BULK AT MOST 1048576: true; the input reads as it did. -/
def admitAloneUptoRow : OpenClaim := { program := "ytmkmimgokagimaagreat", sum := "1125afe223bfe19d3848a5c684b4b29ea5426bd1755d10e899b2a5395268507b", func := "blindstamp/blindstamplaw23.AdmitAlone", spec := "admitAlone", unfollowed := true, recurses := true, plainKeys := false, apart := false, narrowed := true }
def AdmitAloneUptoSaid : Prop := admitAloneUptoRow.holds Tryz.pinned (OpenSpec.upto admitAloneSpec)

end Rows
end Go.Proofs.YtmkmimgokagimaaGreat
