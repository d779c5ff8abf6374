/-
  No cell of these rows narrows 'for every input' (looked for: loops, veiled, ifaces, maps, wideKeys, modest, calm, conditions, laid).
  DERIVED. THE GIVEN ROWS OF THIS SEAT. 12 by the template 'for every input the law returns true; each argument reads behind the call as it read before'; 0 by the template 'total and deterministic' (their statements: YtjampffmlnplcaaTotals.lean).
  GIVEN WITH THE SEED: the statements are not yours to turn. If you find one false, say at which input.
  Laid BY PROGRAM, IN A SANDBOX (cutbox-rows.mjs): the forced cells as the released guide's own fill.sh prints them over the translation 74c4e9611eb46562… (all of the seat's roots in one cut). By AI agents, Wed Nov 11 2026. No macro, syntax, notation, axiom, sorry.
-/
import Derived.Test.YtjampffmlnplcaaChecked
import GoSem.Claim
import GoSem.ClaimJoined
import GoSem.ClaimMapViews
import Derived.JoinedTies
import Derived.KernelRfl
namespace Go.Proofs.Ytjampffmlnplcaa
/- THE CELL 'sum', in the pinned program and in every row, IS THE sha256 OF THE DUMP (.gsa) THAT YtjampffmlnplcaaProg.lean LOADS. Nothing in Lean hashes anything: it is a label: what it is worth is what the hold of that sum in a sandbox is worth. -/
noncomputable def Try.pinned : Pinned := { name := "ytjampffmlnplcaa", sum := "74c4e9611eb46562e8da0dc8d4f6f4b3894e1f1d77facbb2c6b0cffe4ec4d288", checked := Try.checked }
namespace Rows
def none {H : Type} : Left H := { results := [], args := [] }

/-- 'blindstamplaw16.RunJoin': WHATEVER THE INPUT: true; the input reads as it did. -/
def runJoinSpec : ChangeSpec := { name := "runJoin", fn := fun _ => fun
  | [d1, d2] => { results := [.lit (.bool true)], args := [d1, d2] }
  | _ => none }
def runJoinRow : OpenClaim := { program := "ytjampffmlnplcaa", sum := "74c4e9611eb46562e8da0dc8d4f6f4b3894e1f1d77facbb2c6b0cffe4ec4d288", func := "blindstamp/blindstamplaw16.RunJoin", spec := "runJoin", unfollowed := true, recurses := true, apart := false }
def RunJoinSaid : Prop := runJoinRow.holds Try.pinned (OpenSpec.ofChange runJoinSpec)

/-- ITS FALSE NEIGHBOUR: 'it returns false'. Refute it at one input. -/
def runJoinWrong : ChangeSpec := { name := "runJoin", fn := fun _ => fun
  | [d1, d2] => { results := [.lit (.bool false)], args := [d1, d2] }
  | _ => none }
def RunJoinWrongFalsely : Prop := runJoinRow.holds Try.pinned (OpenSpec.ofChange runJoinWrong)

/-- 'blindstamplaw16.RunCut': WHATEVER THE INPUT: true; the input reads as it did. -/
def runCutSpec : ChangeSpec := { name := "runCut", fn := fun _ => fun
  | [d1, d2, d3] => { results := [.lit (.bool true)], args := [d1, d2, d3] }
  | _ => none }
def runCutRow : OpenClaim := { program := "ytjampffmlnplcaa", sum := "74c4e9611eb46562e8da0dc8d4f6f4b3894e1f1d77facbb2c6b0cffe4ec4d288", func := "blindstamp/blindstamplaw16.RunCut", spec := "runCut", unfollowed := true, recurses := true, apart := false }
def RunCutSaid : Prop := runCutRow.holds Try.pinned (OpenSpec.ofChange runCutSpec)

/-- ITS FALSE NEIGHBOUR: 'it returns false'. Refute it at one input. -/
def runCutWrong : ChangeSpec := { name := "runCut", fn := fun _ => fun
  | [d1, d2, d3] => { results := [.lit (.bool false)], args := [d1, d2, d3] }
  | _ => none }
def RunCutWrongFalsely : Prop := runCutRow.holds Try.pinned (OpenSpec.ofChange runCutWrong)

/-- 'blindstamplaw16.RunNames': WHATEVER THE INPUT: true; the input reads as it did. -/
def runNamesSpec : ChangeSpec := { name := "runNames", fn := fun _ => fun
  | [] => { results := [.lit (.bool true)], args := [] }
  | _ => none }
def runNamesRow : OpenClaim := { program := "ytjampffmlnplcaa", sum := "74c4e9611eb46562e8da0dc8d4f6f4b3894e1f1d77facbb2c6b0cffe4ec4d288", func := "blindstamp/blindstamplaw16.RunNames", spec := "runNames", unfollowed := true, recurses := true, apart := false }
def RunNamesSaid : Prop := runNamesRow.holds Try.pinned (OpenSpec.ofChange runNamesSpec)

/-- ITS FALSE NEIGHBOUR: 'it returns false'. Refute it at one input. -/
def runNamesWrong : ChangeSpec := { name := "runNames", fn := fun _ => fun
  | [] => { results := [.lit (.bool false)], args := [] }
  | _ => none }
def RunNamesWrongFalsely : Prop := runNamesRow.holds Try.pinned (OpenSpec.ofChange runNamesWrong)

/-- 'blindstamplaw16.RunTells': WHATEVER THE INPUT: true; the input reads as it did. -/
def runTellsSpec : ChangeSpec := { name := "runTells", fn := fun _ => fun
  | [d1, d2, d3, d4] => { results := [.lit (.bool true)], args := [d1, d2, d3, d4] }
  | _ => none }
def runTellsRow : OpenClaim := { program := "ytjampffmlnplcaa", sum := "74c4e9611eb46562e8da0dc8d4f6f4b3894e1f1d77facbb2c6b0cffe4ec4d288", func := "blindstamp/blindstamplaw16.RunTells", spec := "runTells", unfollowed := true, recurses := true, apart := false }
def RunTellsSaid : Prop := runTellsRow.holds Try.pinned (OpenSpec.ofChange runTellsSpec)

/-- ITS FALSE NEIGHBOUR: 'it returns false'. Refute it at one input. -/
def runTellsWrong : ChangeSpec := { name := "runTells", fn := fun _ => fun
  | [d1, d2, d3, d4] => { results := [.lit (.bool false)], args := [d1, d2, d3, d4] }
  | _ => none }
def RunTellsWrongFalsely : Prop := runTellsRow.holds Try.pinned (OpenSpec.ofChange runTellsWrong)

/-- 'blindstamplaw18.ChainHides': WHATEVER THE INPUT: true; the input reads as it did. -/
def chainHidesSpec : ChangeSpec := { name := "chainHides", fn := fun _ => fun
  | [d1, d2, d3] => { results := [.lit (.bool true)], args := [d1, d2, d3] }
  | _ => none }
def chainHidesRow : OpenClaim := { program := "ytjampffmlnplcaa", sum := "74c4e9611eb46562e8da0dc8d4f6f4b3894e1f1d77facbb2c6b0cffe4ec4d288", func := "blindstamp/blindstamplaw18.ChainHides", spec := "chainHides", unfollowed := true, recurses := true, apart := false }
def ChainHidesSaid : Prop := chainHidesRow.holds Try.pinned (OpenSpec.ofChange chainHidesSpec)

/-- ITS FALSE NEIGHBOUR: 'it returns false'. Refute it at one input. -/
def chainHidesWrong : ChangeSpec := { name := "chainHides", fn := fun _ => fun
  | [d1, d2, d3] => { results := [.lit (.bool false)], args := [d1, d2, d3] }
  | _ => none }
def ChainHidesWrongFalsely : Prop := chainHidesRow.holds Try.pinned (OpenSpec.ofChange chainHidesWrong)

/-- 'blindstamplaw18.ChainNames': WHATEVER THE INPUT: true; the input reads as it did. -/
def chainNamesSpec : ChangeSpec := { name := "chainNames", fn := fun _ => fun
  | [] => { results := [.lit (.bool true)], args := [] }
  | _ => none }
def chainNamesRow : OpenClaim := { program := "ytjampffmlnplcaa", sum := "74c4e9611eb46562e8da0dc8d4f6f4b3894e1f1d77facbb2c6b0cffe4ec4d288", func := "blindstamp/blindstamplaw18.ChainNames", spec := "chainNames", unfollowed := true, recurses := true, apart := false }
def ChainNamesSaid : Prop := chainNamesRow.holds Try.pinned (OpenSpec.ofChange chainNamesSpec)

/-- ITS FALSE NEIGHBOUR: 'it returns false'. Refute it at one input. -/
def chainNamesWrong : ChangeSpec := { name := "chainNames", fn := fun _ => fun
  | [] => { results := [.lit (.bool false)], args := [] }
  | _ => none }
def ChainNamesWrongFalsely : Prop := chainNamesRow.holds Try.pinned (OpenSpec.ofChange chainNamesWrong)

/-- 'blindstamplaw18.ChainTells': WHATEVER THE INPUT: true; the input reads as it did. -/
def chainTellsSpec : ChangeSpec := { name := "chainTells", fn := fun _ => fun
  | [d1, d2, d3, d4] => { results := [.lit (.bool true)], args := [d1, d2, d3, d4] }
  | _ => none }
def chainTellsRow : OpenClaim := { program := "ytjampffmlnplcaa", sum := "74c4e9611eb46562e8da0dc8d4f6f4b3894e1f1d77facbb2c6b0cffe4ec4d288", func := "blindstamp/blindstamplaw18.ChainTells", spec := "chainTells", unfollowed := true, recurses := true, apart := false }
def ChainTellsSaid : Prop := chainTellsRow.holds Try.pinned (OpenSpec.ofChange chainTellsSpec)

/-- ITS FALSE NEIGHBOUR: 'it returns false'. Refute it at one input. -/
def chainTellsWrong : ChangeSpec := { name := "chainTells", fn := fun _ => fun
  | [d1, d2, d3, d4] => { results := [.lit (.bool false)], args := [d1, d2, d3, d4] }
  | _ => none }
def ChainTellsWrongFalsely : Prop := chainTellsRow.holds Try.pinned (OpenSpec.ofChange chainTellsWrong)

/-- 'blindstamplaw18.ChainTower': WHATEVER THE INPUT: true; the input reads as it did. -/
def chainTowerSpec : ChangeSpec := { name := "chainTower", fn := fun _ => fun
  | [d1, d2, d3, d4, d5] => { results := [.lit (.bool true)], args := [d1, d2, d3, d4, d5] }
  | _ => none }
def chainTowerRow : OpenClaim := { program := "ytjampffmlnplcaa", sum := "74c4e9611eb46562e8da0dc8d4f6f4b3894e1f1d77facbb2c6b0cffe4ec4d288", func := "blindstamp/blindstamplaw18.ChainTower", spec := "chainTower", unfollowed := true, recurses := true, apart := false }
def ChainTowerSaid : Prop := chainTowerRow.holds Try.pinned (OpenSpec.ofChange chainTowerSpec)

/-- ITS FALSE NEIGHBOUR: 'it returns false'. Refute it at one input. -/
def chainTowerWrong : ChangeSpec := { name := "chainTower", fn := fun _ => fun
  | [d1, d2, d3, d4, d5] => { results := [.lit (.bool false)], args := [d1, d2, d3, d4, d5] }
  | _ => none }
def ChainTowerWrongFalsely : Prop := chainTowerRow.holds Try.pinned (OpenSpec.ofChange chainTowerWrong)

/-- 'blindstamplaw12.DiskNames': WHATEVER THE INPUT: true; the input reads as it did. -/
def diskNamesSpec : ChangeSpec := { name := "diskNames", fn := fun _ => fun
  | [] => { results := [.lit (.bool true)], args := [] }
  | _ => none }
def diskNamesRow : OpenClaim := { program := "ytjampffmlnplcaa", sum := "74c4e9611eb46562e8da0dc8d4f6f4b3894e1f1d77facbb2c6b0cffe4ec4d288", func := "blindstamp/blindstamplaw12.DiskNames", spec := "diskNames", inPlace := ["slices.overlaps[blindstamp/api.Sector]"], unfollowed := true, recurses := true, apart := false }
def DiskNamesSaid : Prop := diskNamesRow.holds Try.pinned (OpenSpec.ofChange diskNamesSpec)

/-- ITS FALSE NEIGHBOUR: 'it returns false'. Refute it at one input. -/
def diskNamesWrong : ChangeSpec := { name := "diskNames", fn := fun _ => fun
  | [] => { results := [.lit (.bool false)], args := [] }
  | _ => none }
def DiskNamesWrongFalsely : Prop := diskNamesRow.holds Try.pinned (OpenSpec.ofChange diskNamesWrong)

/-- 'blindstamplaw12.DiskLast': WHATEVER THE INPUT: true; the input reads as it did. -/
def diskLastSpec : ChangeSpec := { name := "diskLast", fn := fun _ => fun
  | [d1, d2, d3, d4] => { results := [.lit (.bool true)], args := [d1, d2, d3, d4] }
  | _ => none }
def diskLastRow : OpenClaim := { program := "ytjampffmlnplcaa", sum := "74c4e9611eb46562e8da0dc8d4f6f4b3894e1f1d77facbb2c6b0cffe4ec4d288", func := "blindstamp/blindstamplaw12.DiskLast", spec := "diskLast", inPlace := ["slices.overlaps[blindstamp/api.Sector]"], unfollowed := true, recurses := true, apart := false }
def DiskLastSaid : Prop := diskLastRow.holds Try.pinned (OpenSpec.ofChange diskLastSpec)

/-- ITS FALSE NEIGHBOUR: 'it returns false'. Refute it at one input. -/
def diskLastWrong : ChangeSpec := { name := "diskLast", fn := fun _ => fun
  | [d1, d2, d3, d4] => { results := [.lit (.bool false)], args := [d1, d2, d3, d4] }
  | _ => none }
def DiskLastWrongFalsely : Prop := diskLastRow.holds Try.pinned (OpenSpec.ofChange diskLastWrong)

/-- 'blindstamplaw12.DiskFails': WHATEVER THE INPUT: true; the input reads as it did. -/
def diskFailsSpec : ChangeSpec := { name := "diskFails", fn := fun _ => fun
  | [d1, d2, d3] => { results := [.lit (.bool true)], args := [d1, d2, d3] }
  | _ => none }
def diskFailsRow : OpenClaim := { program := "ytjampffmlnplcaa", sum := "74c4e9611eb46562e8da0dc8d4f6f4b3894e1f1d77facbb2c6b0cffe4ec4d288", func := "blindstamp/blindstamplaw12.DiskFails", spec := "diskFails", inPlace := ["slices.overlaps[blindstamp/api.Sector]"], unfollowed := true, recurses := true, apart := false }
def DiskFailsSaid : Prop := diskFailsRow.holds Try.pinned (OpenSpec.ofChange diskFailsSpec)

/-- ITS FALSE NEIGHBOUR: 'it returns false'. Refute it at one input. -/
def diskFailsWrong : ChangeSpec := { name := "diskFails", fn := fun _ => fun
  | [d1, d2, d3] => { results := [.lit (.bool false)], args := [d1, d2, d3] }
  | _ => none }
def DiskFailsWrongFalsely : Prop := diskFailsRow.holds Try.pinned (OpenSpec.ofChange diskFailsWrong)

/-- 'blindstamplaw12.DiskTells': WHATEVER THE INPUT: true; the input reads as it did. -/
def diskTellsSpec : ChangeSpec := { name := "diskTells", fn := fun _ => fun
  | [d1, d2, d3, d4, d5] => { results := [.lit (.bool true)], args := [d1, d2, d3, d4, d5] }
  | _ => none }
def diskTellsRow : OpenClaim := { program := "ytjampffmlnplcaa", sum := "74c4e9611eb46562e8da0dc8d4f6f4b3894e1f1d77facbb2c6b0cffe4ec4d288", func := "blindstamp/blindstamplaw12.DiskTells", spec := "diskTells", inPlace := ["slices.overlaps[blindstamp/api.Sector]"], unfollowed := true, recurses := true, apart := false }
def DiskTellsSaid : Prop := diskTellsRow.holds Try.pinned (OpenSpec.ofChange diskTellsSpec)

/-- ITS FALSE NEIGHBOUR: 'it returns false'. Refute it at one input. -/
def diskTellsWrong : ChangeSpec := { name := "diskTells", fn := fun _ => fun
  | [d1, d2, d3, d4, d5] => { results := [.lit (.bool false)], args := [d1, d2, d3, d4, d5] }
  | _ => none }
def DiskTellsWrongFalsely : Prop := diskTellsRow.holds Try.pinned (OpenSpec.ofChange diskTellsWrong)

/- THE SECOND FORM. 'bulk': how many values and letters a reading holds, each counted each time it is reached (what is shared counts as often as it is met; a slice's spare places count too). A statement '..UptoSaid' is the law's where the arguments, and the package variables that the reading takes, are together of bulk at most 1048576: NARROWER than '..Said'. Prove '..Said' where nothing that the law and all that it calls make is longer than what came in: it says more and counts as full. Else prove '..UptoSaid'. A law counts once. -/
mutual
def uptoBulk {H : Type} : DataW H → Nat
  | .lit (.string bytes) => bytes.length + 1
  | .lit _ => 1
  | .nil => 1
  | .ptr d => uptoBulk d + 1
  | .slice elems spare => uptoBulkAll elems + uptoBulkAll spare + 1
  | .agg parts => uptoBulkAll parts + 1
  | .iface _ d => uptoBulk d + 1
  | .map entries => uptoBulkEntries entries + 1
  | .held _ => 1
def uptoBulkAll {H : Type} : List (DataW H) → Nat
  | [] => 0
  | d :: r => uptoBulk d + uptoBulkAll r
def uptoBulkEntries {H : Type} : List (Lit × DataW H) → Nat
  | [] => 0
  | x :: r => uptoBulkEntry x + uptoBulkEntries r
def uptoBulkEntry {H : Type} : Lit × DataW H → Nat
  | (.string bytes, d) => bytes.length + uptoBulk d + 1
  | (_, d) => uptoBulk d + 1
 end
def uptoSmall : (H : Type) → List (DataW H) → Bool := fun _ ds => decide (uptoBulkAll ds ≤ 1048576)
def OpenSpec.upto (s : _root_.Go.ChangeSpec) : _root_.Go.OpenSpec := { _root_.Go.OpenSpec.ofChange s with cond := some uptoSmall }

/-- 'blindstamplaw16.RunJoin', WHERE WHAT IT READS IS OF BULK AT MOST 1048576: true; the input reads as it did. -/
def runJoinUptoRow : OpenClaim := { program := "ytjampffmlnplcaa", sum := "74c4e9611eb46562e8da0dc8d4f6f4b3894e1f1d77facbb2c6b0cffe4ec4d288", func := "blindstamp/blindstamplaw16.RunJoin", spec := "runJoin", unfollowed := true, recurses := true, apart := false, narrowed := true }
def RunJoinUptoSaid : Prop := runJoinUptoRow.holds Try.pinned (OpenSpec.upto runJoinSpec)

/-- 'blindstamplaw16.RunCut', WHERE WHAT IT READS IS OF BULK AT MOST 1048576: true; the input reads as it did. -/
def runCutUptoRow : OpenClaim := { program := "ytjampffmlnplcaa", sum := "74c4e9611eb46562e8da0dc8d4f6f4b3894e1f1d77facbb2c6b0cffe4ec4d288", func := "blindstamp/blindstamplaw16.RunCut", spec := "runCut", unfollowed := true, recurses := true, apart := false, narrowed := true }
def RunCutUptoSaid : Prop := runCutUptoRow.holds Try.pinned (OpenSpec.upto runCutSpec)

/-- 'blindstamplaw16.RunNames', WHERE WHAT IT READS IS OF BULK AT MOST 1048576: true; the input reads as it did. -/
def runNamesUptoRow : OpenClaim := { program := "ytjampffmlnplcaa", sum := "74c4e9611eb46562e8da0dc8d4f6f4b3894e1f1d77facbb2c6b0cffe4ec4d288", func := "blindstamp/blindstamplaw16.RunNames", spec := "runNames", unfollowed := true, recurses := true, apart := false, narrowed := true }
def RunNamesUptoSaid : Prop := runNamesUptoRow.holds Try.pinned (OpenSpec.upto runNamesSpec)

/-- 'blindstamplaw16.RunTells', WHERE WHAT IT READS IS OF BULK AT MOST 1048576: true; the input reads as it did. -/
def runTellsUptoRow : OpenClaim := { program := "ytjampffmlnplcaa", sum := "74c4e9611eb46562e8da0dc8d4f6f4b3894e1f1d77facbb2c6b0cffe4ec4d288", func := "blindstamp/blindstamplaw16.RunTells", spec := "runTells", unfollowed := true, recurses := true, apart := false, narrowed := true }
def RunTellsUptoSaid : Prop := runTellsUptoRow.holds Try.pinned (OpenSpec.upto runTellsSpec)

/-- 'blindstamplaw18.ChainHides', WHERE WHAT IT READS IS OF BULK AT MOST 1048576: true; the input reads as it did. -/
def chainHidesUptoRow : OpenClaim := { program := "ytjampffmlnplcaa", sum := "74c4e9611eb46562e8da0dc8d4f6f4b3894e1f1d77facbb2c6b0cffe4ec4d288", func := "blindstamp/blindstamplaw18.ChainHides", spec := "chainHides", unfollowed := true, recurses := true, apart := false, narrowed := true }
def ChainHidesUptoSaid : Prop := chainHidesUptoRow.holds Try.pinned (OpenSpec.upto chainHidesSpec)

/-- 'blindstamplaw18.ChainNames', WHERE WHAT IT READS IS OF BULK AT MOST 1048576: true; the input reads as it did. -/
def chainNamesUptoRow : OpenClaim := { program := "ytjampffmlnplcaa", sum := "74c4e9611eb46562e8da0dc8d4f6f4b3894e1f1d77facbb2c6b0cffe4ec4d288", func := "blindstamp/blindstamplaw18.ChainNames", spec := "chainNames", unfollowed := true, recurses := true, apart := false, narrowed := true }
def ChainNamesUptoSaid : Prop := chainNamesUptoRow.holds Try.pinned (OpenSpec.upto chainNamesSpec)

/-- 'blindstamplaw18.ChainTells', WHERE WHAT IT READS IS OF BULK AT MOST 1048576: true; the input reads as it did. -/
def chainTellsUptoRow : OpenClaim := { program := "ytjampffmlnplcaa", sum := "74c4e9611eb46562e8da0dc8d4f6f4b3894e1f1d77facbb2c6b0cffe4ec4d288", func := "blindstamp/blindstamplaw18.ChainTells", spec := "chainTells", unfollowed := true, recurses := true, apart := false, narrowed := true }
def ChainTellsUptoSaid : Prop := chainTellsUptoRow.holds Try.pinned (OpenSpec.upto chainTellsSpec)

/-- 'blindstamplaw18.ChainTower', WHERE WHAT IT READS IS OF BULK AT MOST 1048576: true; the input reads as it did. -/
def chainTowerUptoRow : OpenClaim := { program := "ytjampffmlnplcaa", sum := "74c4e9611eb46562e8da0dc8d4f6f4b3894e1f1d77facbb2c6b0cffe4ec4d288", func := "blindstamp/blindstamplaw18.ChainTower", spec := "chainTower", unfollowed := true, recurses := true, apart := false, narrowed := true }
def ChainTowerUptoSaid : Prop := chainTowerUptoRow.holds Try.pinned (OpenSpec.upto chainTowerSpec)

/-- 'blindstamplaw12.DiskNames', WHERE WHAT IT READS IS OF BULK AT MOST 1048576: true; the input reads as it did. -/
def diskNamesUptoRow : OpenClaim := { program := "ytjampffmlnplcaa", sum := "74c4e9611eb46562e8da0dc8d4f6f4b3894e1f1d77facbb2c6b0cffe4ec4d288", func := "blindstamp/blindstamplaw12.DiskNames", spec := "diskNames", inPlace := ["slices.overlaps[blindstamp/api.Sector]"], unfollowed := true, recurses := true, apart := false, narrowed := true }
def DiskNamesUptoSaid : Prop := diskNamesUptoRow.holds Try.pinned (OpenSpec.upto diskNamesSpec)

/-- 'blindstamplaw12.DiskLast', WHERE WHAT IT READS IS OF BULK AT MOST 1048576: true; the input reads as it did. -/
def diskLastUptoRow : OpenClaim := { program := "ytjampffmlnplcaa", sum := "74c4e9611eb46562e8da0dc8d4f6f4b3894e1f1d77facbb2c6b0cffe4ec4d288", func := "blindstamp/blindstamplaw12.DiskLast", spec := "diskLast", inPlace := ["slices.overlaps[blindstamp/api.Sector]"], unfollowed := true, recurses := true, apart := false, narrowed := true }
def DiskLastUptoSaid : Prop := diskLastUptoRow.holds Try.pinned (OpenSpec.upto diskLastSpec)

/-- 'blindstamplaw12.DiskFails', WHERE WHAT IT READS IS OF BULK AT MOST 1048576: true; the input reads as it did. -/
def diskFailsUptoRow : OpenClaim := { program := "ytjampffmlnplcaa", sum := "74c4e9611eb46562e8da0dc8d4f6f4b3894e1f1d77facbb2c6b0cffe4ec4d288", func := "blindstamp/blindstamplaw12.DiskFails", spec := "diskFails", inPlace := ["slices.overlaps[blindstamp/api.Sector]"], unfollowed := true, recurses := true, apart := false, narrowed := true }
def DiskFailsUptoSaid : Prop := diskFailsUptoRow.holds Try.pinned (OpenSpec.upto diskFailsSpec)

/-- 'blindstamplaw12.DiskTells', WHERE WHAT IT READS IS OF BULK AT MOST 1048576: true; the input reads as it did. -/
def diskTellsUptoRow : OpenClaim := { program := "ytjampffmlnplcaa", sum := "74c4e9611eb46562e8da0dc8d4f6f4b3894e1f1d77facbb2c6b0cffe4ec4d288", func := "blindstamp/blindstamplaw12.DiskTells", spec := "diskTells", inPlace := ["slices.overlaps[blindstamp/api.Sector]"], unfollowed := true, recurses := true, apart := false, narrowed := true }
def DiskTellsUptoSaid : Prop := diskTellsUptoRow.holds Try.pinned (OpenSpec.upto diskTellsSpec)

end Rows
end Go.Proofs.Ytjampffmlnplcaa
