/-
  No cell of these rows narrows 'for every input' (looked for: loops, veiled, ifaces, maps, wideKeys, modest, calm, conditions, laid).
  DERIVED. THE GIVEN ROWS OF THIS SEAT. 4 by the template 'for every input the law returns true; each argument reads behind the call as it read before'; 0 by the template 'total and deterministic' (their statements: YtdbiffjdomokfaaGreatTotals.lean).
  GIVEN WITH THE SEED: the statements are not yours to turn. If you find one false, say at which input.
  Laid BY PROGRAM, IN A SANDBOX (cutbox-rows.mjs): the forced cells as the released guide's own fill.sh prints them over the translation 4390480187a0289e… (all of the seat's roots in one cut). By AI agents, Wed Nov 11 2026. No macro, syntax, notation, axiom, sorry.
-/
import Derived.Test.YtdbiffjdomokfaaGreatChecked
import GoSem.Claim
import GoSem.ClaimJoined
import GoSem.ClaimMapViews
import Derived.JoinedTies
import Derived.KernelRfl
namespace Go.Proofs.YtdbiffjdomokfaaGreat
/- THE CELL 'sum', in the pinned program and in every row, IS THE sha256 OF THE DUMP (.gsa) THAT YtdbiffjdomokfaaGreatProg.lean LOADS. Nothing in Lean hashes anything: it is a label: what it is worth is what the hold of that sum in a sandbox is worth. -/
noncomputable def Tryz.pinned : Pinned := { name := "ytdbiffjdomokfaagreat", sum := "4390480187a0289ee28560578a8143a5e388a5eb46491a97d9e1af11aebbb8cc", checked := Tryz.checked }
namespace Rows
def none {H : Type} : Left H := { results := [], args := [] }

/-- 'blindstamplaw24.AuditNames': WHATEVER THE INPUT: true; the input reads as it did. -/
def auditNamesSpec : ChangeSpec := { name := "auditNames", fn := fun _ => fun
  | [] => { results := [.lit (.bool true)], args := [] }
  | _ => none }
def auditNamesRow : OpenClaim := { program := "ytdbiffjdomokfaagreat", sum := "4390480187a0289ee28560578a8143a5e388a5eb46491a97d9e1af11aebbb8cc", func := "blindstamp/blindstamplaw24.AuditNames", spec := "auditNames", unfollowed := true, recurses := true, plainKeys := false, apart := false }
def AuditNamesSaid : Prop := auditNamesRow.holds Tryz.pinned (OpenSpec.ofChange auditNamesSpec)

/-- ITS FALSE NEIGHBOUR: 'it returns false'. Refute it at one input. -/
def auditNamesWrong : ChangeSpec := { name := "auditNames", fn := fun _ => fun
  | [] => { results := [.lit (.bool false)], args := [] }
  | _ => none }
def AuditNamesWrongFalsely : Prop := auditNamesRow.holds Tryz.pinned (OpenSpec.ofChange auditNamesWrong)

/-- 'blindstamplaw24.AuditTells': WHATEVER THE INPUT: true; the input reads as it did. -/
def auditTellsSpec : ChangeSpec := { name := "auditTells", fn := fun _ => fun
  | [d1, d2, d3] => { results := [.lit (.bool true)], args := [d1, d2, d3] }
  | _ => none }
def auditTellsRow : OpenClaim := { program := "ytdbiffjdomokfaagreat", sum := "4390480187a0289ee28560578a8143a5e388a5eb46491a97d9e1af11aebbb8cc", func := "blindstamp/blindstamplaw24.AuditTells", spec := "auditTells", unfollowed := true, recurses := true, plainKeys := false, apart := false }
def AuditTellsSaid : Prop := auditTellsRow.holds Tryz.pinned (OpenSpec.ofChange auditTellsSpec)

/-- ITS FALSE NEIGHBOUR: 'it returns false'. Refute it at one input. -/
def auditTellsWrong : ChangeSpec := { name := "auditTells", fn := fun _ => fun
  | [d1, d2, d3] => { results := [.lit (.bool false)], args := [d1, d2, d3] }
  | _ => none }
def AuditTellsWrongFalsely : Prop := auditTellsRow.holds Tryz.pinned (OpenSpec.ofChange auditTellsWrong)

/-- 'blindstamplaw24.AuditAll': WHATEVER THE INPUT: true; the input reads as it did. -/
def auditAllSpec : ChangeSpec := { name := "auditAll", fn := fun _ => fun
  | [d1, d2, d3] => { results := [.lit (.bool true)], args := [d1, d2, d3] }
  | _ => none }
def auditAllRow : OpenClaim := { program := "ytdbiffjdomokfaagreat", sum := "4390480187a0289ee28560578a8143a5e388a5eb46491a97d9e1af11aebbb8cc", func := "blindstamp/blindstamplaw24.AuditAll", spec := "auditAll", unfollowed := true, recurses := true, plainKeys := false, apart := false }
def AuditAllSaid : Prop := auditAllRow.holds Tryz.pinned (OpenSpec.ofChange auditAllSpec)

/-- ITS FALSE NEIGHBOUR: 'it returns false'. Refute it at one input. -/
def auditAllWrong : ChangeSpec := { name := "auditAll", fn := fun _ => fun
  | [d1, d2, d3] => { results := [.lit (.bool false)], args := [d1, d2, d3] }
  | _ => none }
def AuditAllWrongFalsely : Prop := auditAllRow.holds Tryz.pinned (OpenSpec.ofChange auditAllWrong)

/-- 'blindstamplaw24.AuditAlone': WHATEVER THE INPUT: true; the input reads as it did. -/
def auditAloneSpec : ChangeSpec := { name := "auditAlone", fn := fun _ => fun
  | [d1, d2, d3, d4] => { results := [.lit (.bool true)], args := [d1, d2, d3, d4] }
  | _ => none }
def auditAloneRow : OpenClaim := { program := "ytdbiffjdomokfaagreat", sum := "4390480187a0289ee28560578a8143a5e388a5eb46491a97d9e1af11aebbb8cc", func := "blindstamp/blindstamplaw24.AuditAlone", spec := "auditAlone", unfollowed := true, recurses := true, plainKeys := false, apart := false }
def AuditAloneSaid : Prop := auditAloneRow.holds Tryz.pinned (OpenSpec.ofChange auditAloneSpec)

/-- ITS FALSE NEIGHBOUR: 'it returns false'. Refute it at one input. -/
def auditAloneWrong : ChangeSpec := { name := "auditAlone", fn := fun _ => fun
  | [d1, d2, d3, d4] => { results := [.lit (.bool false)], args := [d1, d2, d3, d4] }
  | _ => none }
def AuditAloneWrongFalsely : Prop := auditAloneRow.holds Tryz.pinned (OpenSpec.ofChange auditAloneWrong)

/- THE SECOND FORM. 'bulk': how many values and letters a reading holds, each counted each time it is reached (what is shared counts as often as it is met; a slice's spare places count too). A statement '..UptoSaid' is the law's where the arguments, and the package variables that the reading takes, are together of bulk at most 1048576: NARROWER than '..Said'. Prove '..Said' where nothing that the law and all that it calls make is longer than what came in: it says more and counts as full. Else prove '..UptoSaid'. A law counts once. -/
mutual
def uptoBulk {H : Type} : DataW H → Nat
  | .lit (.string bytes) => bytes.length + 1
  | .lit _ => 1
  | .nil => 1
  | .ptr d => uptoBulk d + 1
  | .slice elems spare => uptoBulkAll elems + uptoBulkAll spare + 1
  | .agg parts => uptoBulkAll parts + 1
  | .iface _ d => uptoBulk d + 1
  | .map entries => uptoBulkEntries entries + 1
  | .held _ => 1
def uptoBulkAll {H : Type} : List (DataW H) → Nat
  | [] => 0
  | d :: r => uptoBulk d + uptoBulkAll r
def uptoBulkEntries {H : Type} : List (Lit × DataW H) → Nat
  | [] => 0
  | x :: r => uptoBulkEntry x + uptoBulkEntries r
def uptoBulkEntry {H : Type} : Lit × DataW H → Nat
  | (.string bytes, d) => bytes.length + uptoBulk d + 1
  | (_, d) => uptoBulk d + 1
 end
def uptoSmall : (H : Type) → List (DataW H) → Bool := fun _ ds => decide (uptoBulkAll ds ≤ 1048576)
def OpenSpec.upto (s : _root_.Go.ChangeSpec) : _root_.Go.OpenSpec := { _root_.Go.OpenSpec.ofChange s with cond := some uptoSmall }

/-- 'blindstamplaw24.AuditNames', WHERE WHAT IT READS IS OF BULK AT MOST 1048576: true; the input reads as it did. -/
def auditNamesUptoRow : OpenClaim := { program := "ytdbiffjdomokfaagreat", sum := "4390480187a0289ee28560578a8143a5e388a5eb46491a97d9e1af11aebbb8cc", func := "blindstamp/blindstamplaw24.AuditNames", spec := "auditNames", unfollowed := true, recurses := true, plainKeys := false, apart := false, narrowed := true }
def AuditNamesUptoSaid : Prop := auditNamesUptoRow.holds Tryz.pinned (OpenSpec.upto auditNamesSpec)

/-- 'blindstamplaw24.AuditTells', WHERE WHAT IT READS IS OF BULK AT MOST 1048576: true; the input reads as it did. -/
def auditTellsUptoRow : OpenClaim := { program := "ytdbiffjdomokfaagreat", sum := "4390480187a0289ee28560578a8143a5e388a5eb46491a97d9e1af11aebbb8cc", func := "blindstamp/blindstamplaw24.AuditTells", spec := "auditTells", unfollowed := true, recurses := true, plainKeys := false, apart := false, narrowed := true }
def AuditTellsUptoSaid : Prop := auditTellsUptoRow.holds Tryz.pinned (OpenSpec.upto auditTellsSpec)

/-- 'blindstamplaw24.AuditAll', WHERE WHAT IT READS IS OF BULK AT MOST 1048576: true; the input reads as it did. -/
def auditAllUptoRow : OpenClaim := { program := "ytdbiffjdomokfaagreat", sum := "4390480187a0289ee28560578a8143a5e388a5eb46491a97d9e1af11aebbb8cc", func := "blindstamp/blindstamplaw24.AuditAll", spec := "auditAll", unfollowed := true, recurses := true, plainKeys := false, apart := false, narrowed := true }
def AuditAllUptoSaid : Prop := auditAllUptoRow.holds Tryz.pinned (OpenSpec.upto auditAllSpec)

/-- 'blindstamplaw24.AuditAlone', WHERE WHAT IT READS IS OF BULK AT MOST 1048576: true; the input reads as it did. -/
def auditAloneUptoRow : OpenClaim := { program := "ytdbiffjdomokfaagreat", sum := "4390480187a0289ee28560578a8143a5e388a5eb46491a97d9e1af11aebbb8cc", func := "blindstamp/blindstamplaw24.AuditAlone", spec := "auditAlone", unfollowed := true, recurses := true, plainKeys := false, apart := false, narrowed := true }
def AuditAloneUptoSaid : Prop := auditAloneUptoRow.holds Tryz.pinned (OpenSpec.upto auditAloneSpec)

end Rows
end Go.Proofs.YtdbiffjdomokfaaGreat
