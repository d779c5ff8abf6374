/-
  No cell of these rows narrows 'for every input' (looked for: loops, veiled, ifaces, maps, wideKeys, modest, calm, conditions, laid).
  DERIVED. THE GIVEN ROWS OF THIS SEAT. 6 by the template 'for every input the law returns true; each argument reads behind the call as it read before'; 0 by the template 'total and deterministic' (their statements: YtmjkpdknicjjgaaTotals.lean).
  GIVEN WITH THE SEED: the statements are not yours to turn. If you find one false, say at which input.
  Laid BY PROGRAM, IN A SANDBOX (cutbox-rows.mjs): the forced cells as the released guide's own fill.sh prints them over the translation e7481ea77dd48d16… (all of the seat's roots in one cut). By AI agents, Wed Nov 11 2026. No macro, syntax, notation, axiom, sorry.
-/
import Derived.Test.YtmjkpdknicjjgaaChecked
import GoSem.Claim
import GoSem.ClaimJoined
import GoSem.ClaimMapViews
import Derived.JoinedTies
import Derived.KernelRfl
namespace Go.Proofs.Ytmjkpdknicjjgaa
/- THE CELL 'sum', in the pinned program and in every row, IS THE sha256 OF THE DUMP (.gsa) THAT YtmjkpdknicjjgaaProg.lean LOADS. Nothing in Lean hashes anything: it is a label: what it is worth is what the hold of that sum in a sandbox is worth. -/
noncomputable def Try.pinned : Pinned := { name := "ytmjkpdknicjjgaa", sum := "e7481ea77dd48d16a0dd0ee8f7bd72ab3526da998a0fa8cf33735d1ba998dab8", checked := Try.checked }
namespace Rows
def none {H : Type} : Left H := { results := [], args := [] }

/-- 'blindstamplaw13.LogNames': WHATEVER THE INPUT: true; the input reads as it did. -/
def logNamesSpec : ChangeSpec := { name := "logNames", fn := fun _ => fun
  | [] => { results := [.lit (.bool true)], args := [] }
  | _ => none }
def logNamesRow : OpenClaim := { program := "ytmjkpdknicjjgaa", sum := "e7481ea77dd48d16a0dd0ee8f7bd72ab3526da998a0fa8cf33735d1ba998dab8", func := "blindstamp/blindstamplaw13.LogNames", spec := "logNames", inPlace := ["slices.overlaps[blindstamp/api.Sector]"], unfollowed := true, recurses := true, apart := false }
def LogNamesSaid : Prop := logNamesRow.holds Try.pinned (OpenSpec.ofChange logNamesSpec)

/-- ITS FALSE NEIGHBOUR: 'it returns false'. Refute it at one input. -/
def logNamesWrong : ChangeSpec := { name := "logNames", fn := fun _ => fun
  | [] => { results := [.lit (.bool false)], args := [] }
  | _ => none }
def LogNamesWrongFalsely : Prop := logNamesRow.holds Try.pinned (OpenSpec.ofChange logNamesWrong)

/-- 'blindstamplaw13.LogAreas': WHATEVER THE INPUT: true; the input reads as it did. -/
def logAreasSpec : ChangeSpec := { name := "logAreas", fn := fun _ => fun
  | [d1, d2, d3, d4, d5] => { results := [.lit (.bool true)], args := [d1, d2, d3, d4, d5] }
  | _ => none }
def logAreasRow : OpenClaim := { program := "ytmjkpdknicjjgaa", sum := "e7481ea77dd48d16a0dd0ee8f7bd72ab3526da998a0fa8cf33735d1ba998dab8", func := "blindstamp/blindstamplaw13.LogAreas", spec := "logAreas", inPlace := ["slices.overlaps[blindstamp/api.Sector]"], unfollowed := true, recurses := true, apart := false }
def LogAreasSaid : Prop := logAreasRow.holds Try.pinned (OpenSpec.ofChange logAreasSpec)

/-- ITS FALSE NEIGHBOUR: 'it returns false'. Refute it at one input. -/
def logAreasWrong : ChangeSpec := { name := "logAreas", fn := fun _ => fun
  | [d1, d2, d3, d4, d5] => { results := [.lit (.bool false)], args := [d1, d2, d3, d4, d5] }
  | _ => none }
def LogAreasWrongFalsely : Prop := logAreasRow.holds Try.pinned (OpenSpec.ofChange logAreasWrong)

/-- 'blindstamplaw13.LogTorn': WHATEVER THE INPUT: true; the input reads as it did. -/
def logTornSpec : ChangeSpec := { name := "logTorn", fn := fun _ => fun
  | [d1, d2, d3] => { results := [.lit (.bool true)], args := [d1, d2, d3] }
  | _ => none }
def logTornRow : OpenClaim := { program := "ytmjkpdknicjjgaa", sum := "e7481ea77dd48d16a0dd0ee8f7bd72ab3526da998a0fa8cf33735d1ba998dab8", func := "blindstamp/blindstamplaw13.LogTorn", spec := "logTorn", inPlace := ["slices.overlaps[blindstamp/api.Sector]"], unfollowed := true, recurses := true, apart := false }
def LogTornSaid : Prop := logTornRow.holds Try.pinned (OpenSpec.ofChange logTornSpec)

/-- ITS FALSE NEIGHBOUR: 'it returns false'. Refute it at one input. -/
def logTornWrong : ChangeSpec := { name := "logTorn", fn := fun _ => fun
  | [d1, d2, d3] => { results := [.lit (.bool false)], args := [d1, d2, d3] }
  | _ => none }
def LogTornWrongFalsely : Prop := logTornRow.holds Try.pinned (OpenSpec.ofChange logTornWrong)

/-- 'blindstamplaw14.SlotsNames': WHATEVER THE INPUT: true; the input reads as it did. -/
def slotsNamesSpec : ChangeSpec := { name := "slotsNames", fn := fun _ => fun
  | [] => { results := [.lit (.bool true)], args := [] }
  | _ => none }
def slotsNamesRow : OpenClaim := { program := "ytmjkpdknicjjgaa", sum := "e7481ea77dd48d16a0dd0ee8f7bd72ab3526da998a0fa8cf33735d1ba998dab8", func := "blindstamp/blindstamplaw14.SlotsNames", spec := "slotsNames", inPlace := ["slices.overlaps[blindstamp/api.Sector]"], unfollowed := true, recurses := true, apart := false }
def SlotsNamesSaid : Prop := slotsNamesRow.holds Try.pinned (OpenSpec.ofChange slotsNamesSpec)

/-- ITS FALSE NEIGHBOUR: 'it returns false'. Refute it at one input. -/
def slotsNamesWrong : ChangeSpec := { name := "slotsNames", fn := fun _ => fun
  | [] => { results := [.lit (.bool false)], args := [] }
  | _ => none }
def SlotsNamesWrongFalsely : Prop := slotsNamesRow.holds Try.pinned (OpenSpec.ofChange slotsNamesWrong)

/-- 'blindstamplaw14.SlotsKeep': WHATEVER THE INPUT: true; the input reads as it did. -/
def slotsKeepSpec : ChangeSpec := { name := "slotsKeep", fn := fun _ => fun
  | [d1, d2, d3, d4] => { results := [.lit (.bool true)], args := [d1, d2, d3, d4] }
  | _ => none }
def slotsKeepRow : OpenClaim := { program := "ytmjkpdknicjjgaa", sum := "e7481ea77dd48d16a0dd0ee8f7bd72ab3526da998a0fa8cf33735d1ba998dab8", func := "blindstamp/blindstamplaw14.SlotsKeep", spec := "slotsKeep", inPlace := ["slices.overlaps[blindstamp/api.Sector]"], unfollowed := true, recurses := true, apart := false }
def SlotsKeepSaid : Prop := slotsKeepRow.holds Try.pinned (OpenSpec.ofChange slotsKeepSpec)

/-- ITS FALSE NEIGHBOUR: 'it returns false'. Refute it at one input. -/
def slotsKeepWrong : ChangeSpec := { name := "slotsKeep", fn := fun _ => fun
  | [d1, d2, d3, d4] => { results := [.lit (.bool false)], args := [d1, d2, d3, d4] }
  | _ => none }
def SlotsKeepWrongFalsely : Prop := slotsKeepRow.holds Try.pinned (OpenSpec.ofChange slotsKeepWrong)

/-- 'blindstamplaw14.SlotsApart': WHATEVER THE INPUT: true; the input reads as it did. -/
def slotsApartSpec : ChangeSpec := { name := "slotsApart", fn := fun _ => fun
  | [d1, d2, d3] => { results := [.lit (.bool true)], args := [d1, d2, d3] }
  | _ => none }
def slotsApartRow : OpenClaim := { program := "ytmjkpdknicjjgaa", sum := "e7481ea77dd48d16a0dd0ee8f7bd72ab3526da998a0fa8cf33735d1ba998dab8", func := "blindstamp/blindstamplaw14.SlotsApart", spec := "slotsApart", inPlace := ["slices.overlaps[blindstamp/api.Sector]"], unfollowed := true, recurses := true, apart := false }
def SlotsApartSaid : Prop := slotsApartRow.holds Try.pinned (OpenSpec.ofChange slotsApartSpec)

/-- ITS FALSE NEIGHBOUR: 'it returns false'. Refute it at one input. -/
def slotsApartWrong : ChangeSpec := { name := "slotsApart", fn := fun _ => fun
  | [d1, d2, d3] => { results := [.lit (.bool false)], args := [d1, d2, d3] }
  | _ => none }
def SlotsApartWrongFalsely : Prop := slotsApartRow.holds Try.pinned (OpenSpec.ofChange slotsApartWrong)

/- THE SECOND FORM. 'bulk': how many values and letters a reading holds, each counted each time it is reached (what is shared counts as often as it is met; a slice's spare places count too). A statement '..UptoSaid' is the law's where the arguments, and the package variables that the reading takes, are together of bulk at most 1048576: NARROWER than '..Said'. Prove '..Said' where nothing that the law and all that it calls make is longer than what came in: it says more and counts as full. Else prove '..UptoSaid'. A law counts once. -/
mutual
def uptoBulk {H : Type} : DataW H → Nat
  | .lit (.string bytes) => bytes.length + 1
  | .lit _ => 1
  | .nil => 1
  | .ptr d => uptoBulk d + 1
  | .slice elems spare => uptoBulkAll elems + uptoBulkAll spare + 1
  | .agg parts => uptoBulkAll parts + 1
  | .iface _ d => uptoBulk d + 1
  | .map entries => uptoBulkEntries entries + 1
  | .held _ => 1
def uptoBulkAll {H : Type} : List (DataW H) → Nat
  | [] => 0
  | d :: r => uptoBulk d + uptoBulkAll r
def uptoBulkEntries {H : Type} : List (Lit × DataW H) → Nat
  | [] => 0
  | x :: r => uptoBulkEntry x + uptoBulkEntries r
def uptoBulkEntry {H : Type} : Lit × DataW H → Nat
  | (.string bytes, d) => bytes.length + uptoBulk d + 1
  | (_, d) => uptoBulk d + 1
 end
def uptoSmall : (H : Type) → List (DataW H) → Bool := fun _ ds => decide (uptoBulkAll ds ≤ 1048576)
def OpenSpec.upto (s : _root_.Go.ChangeSpec) : _root_.Go.OpenSpec := { _root_.Go.OpenSpec.ofChange s with cond := some uptoSmall }

/-- 'blindstamplaw13.LogNames', WHERE WHAT IT READS IS OF BULK AT MOST 1048576: true; the input reads as it did. -/
def logNamesUptoRow : OpenClaim := { program := "ytmjkpdknicjjgaa", sum := "e7481ea77dd48d16a0dd0ee8f7bd72ab3526da998a0fa8cf33735d1ba998dab8", func := "blindstamp/blindstamplaw13.LogNames", spec := "logNames", inPlace := ["slices.overlaps[blindstamp/api.Sector]"], unfollowed := true, recurses := true, apart := false, narrowed := true }
def LogNamesUptoSaid : Prop := logNamesUptoRow.holds Try.pinned (OpenSpec.upto logNamesSpec)

/-- 'blindstamplaw13.LogAreas', WHERE WHAT IT READS IS OF BULK AT MOST 1048576: true; the input reads as it did. -/
def logAreasUptoRow : OpenClaim := { program := "ytmjkpdknicjjgaa", sum := "e7481ea77dd48d16a0dd0ee8f7bd72ab3526da998a0fa8cf33735d1ba998dab8", func := "blindstamp/blindstamplaw13.LogAreas", spec := "logAreas", inPlace := ["slices.overlaps[blindstamp/api.Sector]"], unfollowed := true, recurses := true, apart := false, narrowed := true }
def LogAreasUptoSaid : Prop := logAreasUptoRow.holds Try.pinned (OpenSpec.upto logAreasSpec)

/-- 'blindstamplaw13.LogTorn', WHERE WHAT IT READS IS OF BULK AT MOST 1048576: true; the input reads as it did. -/
def logTornUptoRow : OpenClaim := { program := "ytmjkpdknicjjgaa", sum := "e7481ea77dd48d16a0dd0ee8f7bd72ab3526da998a0fa8cf33735d1ba998dab8", func := "blindstamp/blindstamplaw13.LogTorn", spec := "logTorn", inPlace := ["slices.overlaps[blindstamp/api.Sector]"], unfollowed := true, recurses := true, apart := false, narrowed := true }
def LogTornUptoSaid : Prop := logTornUptoRow.holds Try.pinned (OpenSpec.upto logTornSpec)

/-- 'blindstamplaw14.SlotsNames', WHERE WHAT IT READS IS OF BULK AT MOST 1048576: true; the input reads as it did. -/
def slotsNamesUptoRow : OpenClaim := { program := "ytmjkpdknicjjgaa", sum := "e7481ea77dd48d16a0dd0ee8f7bd72ab3526da998a0fa8cf33735d1ba998dab8", func := "blindstamp/blindstamplaw14.SlotsNames", spec := "slotsNames", inPlace := ["slices.overlaps[blindstamp/api.Sector]"], unfollowed := true, recurses := true, apart := false, narrowed := true }
def SlotsNamesUptoSaid : Prop := slotsNamesUptoRow.holds Try.pinned (OpenSpec.upto slotsNamesSpec)

/-- 'blindstamplaw14.SlotsKeep', WHERE WHAT IT READS IS OF BULK AT MOST 1048576: true; the input reads as it did. -/
def slotsKeepUptoRow : OpenClaim := { program := "ytmjkpdknicjjgaa", sum := "e7481ea77dd48d16a0dd0ee8f7bd72ab3526da998a0fa8cf33735d1ba998dab8", func := "blindstamp/blindstamplaw14.SlotsKeep", spec := "slotsKeep", inPlace := ["slices.overlaps[blindstamp/api.Sector]"], unfollowed := true, recurses := true, apart := false, narrowed := true }
def SlotsKeepUptoSaid : Prop := slotsKeepUptoRow.holds Try.pinned (OpenSpec.upto slotsKeepSpec)

/-- 'blindstamplaw14.SlotsApart', WHERE WHAT IT READS IS OF BULK AT MOST 1048576: true; the input reads as it did. -/
def slotsApartUptoRow : OpenClaim := { program := "ytmjkpdknicjjgaa", sum := "e7481ea77dd48d16a0dd0ee8f7bd72ab3526da998a0fa8cf33735d1ba998dab8", func := "blindstamp/blindstamplaw14.SlotsApart", spec := "slotsApart", inPlace := ["slices.overlaps[blindstamp/api.Sector]"], unfollowed := true, recurses := true, apart := false, narrowed := true }
def SlotsApartUptoSaid : Prop := slotsApartUptoRow.holds Try.pinned (OpenSpec.upto slotsApartSpec)

end Rows
end Go.Proofs.Ytmjkpdknicjjgaa
