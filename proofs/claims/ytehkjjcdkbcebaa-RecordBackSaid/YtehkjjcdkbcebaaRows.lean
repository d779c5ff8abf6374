/-
  No cell of these rows narrows 'for every input' (looked for: loops, veiled, ifaces, maps, wideKeys, modest, calm, conditions, laid).
  DERIVED. THE GIVEN ROWS OF THIS SEAT. 10 by the template 'for every input the law returns true; each argument reads behind the call as it read before'; 0 by the template 'total and deterministic' (their statements: YtehkjjcdkbcebaaTotals.lean).
  GIVEN WITH THE SEED: the statements are not yours to turn. If you find one false, say at which input.
  Laid BY PROGRAM, IN A SANDBOX (cutbox-rows.mjs): the forced cells as the released guide's own fill.sh prints them over the translation 22d24ef83ecf26b9… (all of the seat's roots in one cut). By AI agents, Wed Nov 11 2026. No macro, syntax, notation, axiom, sorry.
-/
import Derived.Test.YtehkjjcdkbcebaaChecked
import GoSem.Claim
import GoSem.ClaimJoined
import GoSem.ClaimMapViews
import Derived.JoinedTies
import Derived.KernelRfl
namespace Go.Proofs.Ytehkjjcdkbcebaa
/- THE CELL 'sum', in the pinned program and in every row, IS THE sha256 OF THE DUMP (.gsa) THAT YtehkjjcdkbcebaaProg.lean LOADS. Nothing in Lean hashes anything: it is a label: what it is worth is what the hold of that sum in a sandbox is worth. -/
noncomputable def Try.pinned : Pinned := { name := "ytehkjjcdkbcebaa", sum := "22d24ef83ecf26b9728c5a38fe525abc20276ddceb1f4f80d55c9e8734372abc", checked := Try.checked }
namespace Rows
def none {H : Type} : Left H := { results := [], args := [] }

/-- 'blindstamplaw09.OpBack': WHATEVER THE INPUT: true; the input reads as it did. -/
def opBackSpec : ChangeSpec := { name := "opBack", fn := fun _ => fun
  | [d1, d2] => { results := [.lit (.bool true)], args := [d1, d2] }
  | _ => none }
def opBackRow : OpenClaim := { program := "ytehkjjcdkbcebaa", sum := "22d24ef83ecf26b9728c5a38fe525abc20276ddceb1f4f80d55c9e8734372abc", func := "blindstamp/blindstamplaw09.OpBack", spec := "opBack", unfollowed := true, recurses := true, apart := false }
def OpBackSaid : Prop := opBackRow.holds Try.pinned (OpenSpec.ofChange opBackSpec)

/-- ITS FALSE NEIGHBOUR: 'it returns false'. Refute it at one input. -/
def opBackWrong : ChangeSpec := { name := "opBack", fn := fun _ => fun
  | [d1, d2] => { results := [.lit (.bool false)], args := [d1, d2] }
  | _ => none }
def OpBackWrongFalsely : Prop := opBackRow.holds Try.pinned (OpenSpec.ofChange opBackWrong)

/-- 'blindstamplaw09.OpLong': WHATEVER THE INPUT: true; the input reads as it did. -/
def opLongSpec : ChangeSpec := { name := "opLong", fn := fun _ => fun
  | [d1, d2, d3] => { results := [.lit (.bool true)], args := [d1, d2, d3] }
  | _ => none }
def opLongRow : OpenClaim := { program := "ytehkjjcdkbcebaa", sum := "22d24ef83ecf26b9728c5a38fe525abc20276ddceb1f4f80d55c9e8734372abc", func := "blindstamp/blindstamplaw09.OpLong", spec := "opLong", unfollowed := true, recurses := true, apart := false }
def OpLongSaid : Prop := opLongRow.holds Try.pinned (OpenSpec.ofChange opLongSpec)

/-- ITS FALSE NEIGHBOUR: 'it returns false'. Refute it at one input. -/
def opLongWrong : ChangeSpec := { name := "opLong", fn := fun _ => fun
  | [d1, d2, d3] => { results := [.lit (.bool false)], args := [d1, d2, d3] }
  | _ => none }
def OpLongWrongFalsely : Prop := opLongRow.holds Try.pinned (OpenSpec.ofChange opLongWrong)

/-- 'blindstamplaw09.OpNames': WHATEVER THE INPUT: true; the input reads as it did. -/
def opNamesSpec : ChangeSpec := { name := "opNames", fn := fun _ => fun
  | [] => { results := [.lit (.bool true)], args := [] }
  | _ => none }
def opNamesRow : OpenClaim := { program := "ytehkjjcdkbcebaa", sum := "22d24ef83ecf26b9728c5a38fe525abc20276ddceb1f4f80d55c9e8734372abc", func := "blindstamp/blindstamplaw09.OpNames", spec := "opNames", unfollowed := true, recurses := true, apart := false }
def OpNamesSaid : Prop := opNamesRow.holds Try.pinned (OpenSpec.ofChange opNamesSpec)

/-- ITS FALSE NEIGHBOUR: 'it returns false'. Refute it at one input. -/
def opNamesWrong : ChangeSpec := { name := "opNames", fn := fun _ => fun
  | [] => { results := [.lit (.bool false)], args := [] }
  | _ => none }
def OpNamesWrongFalsely : Prop := opNamesRow.holds Try.pinned (OpenSpec.ofChange opNamesWrong)

/-- 'blindstamplaw09.OpTells': WHATEVER THE INPUT: true; the input reads as it did. -/
def opTellsSpec : ChangeSpec := { name := "opTells", fn := fun _ => fun
  | [d1, d2, d3, d4, d5] => { results := [.lit (.bool true)], args := [d1, d2, d3, d4, d5] }
  | _ => none }
def opTellsRow : OpenClaim := { program := "ytehkjjcdkbcebaa", sum := "22d24ef83ecf26b9728c5a38fe525abc20276ddceb1f4f80d55c9e8734372abc", func := "blindstamp/blindstamplaw09.OpTells", spec := "opTells", unfollowed := true, recurses := true, apart := false }
def OpTellsSaid : Prop := opTellsRow.holds Try.pinned (OpenSpec.ofChange opTellsSpec)

/-- ITS FALSE NEIGHBOUR: 'it returns false'. Refute it at one input. -/
def opTellsWrong : ChangeSpec := { name := "opTells", fn := fun _ => fun
  | [d1, d2, d3, d4, d5] => { results := [.lit (.bool false)], args := [d1, d2, d3, d4, d5] }
  | _ => none }
def OpTellsWrongFalsely : Prop := opTellsRow.holds Try.pinned (OpenSpec.ofChange opTellsWrong)

/-- 'blindstamplaw10.MailBack': WHATEVER THE INPUT: true; the input reads as it did. -/
def mailBackSpec : ChangeSpec := { name := "mailBack", fn := fun _ => fun
  | [d1, d2] => { results := [.lit (.bool true)], args := [d1, d2] }
  | _ => none }
def mailBackRow : OpenClaim := { program := "ytehkjjcdkbcebaa", sum := "22d24ef83ecf26b9728c5a38fe525abc20276ddceb1f4f80d55c9e8734372abc", func := "blindstamp/blindstamplaw10.MailBack", spec := "mailBack", unfollowed := true, recurses := true, apart := false }
def MailBackSaid : Prop := mailBackRow.holds Try.pinned (OpenSpec.ofChange mailBackSpec)

/-- ITS FALSE NEIGHBOUR: 'it returns false'. Refute it at one input. -/
def mailBackWrong : ChangeSpec := { name := "mailBack", fn := fun _ => fun
  | [d1, d2] => { results := [.lit (.bool false)], args := [d1, d2] }
  | _ => none }
def MailBackWrongFalsely : Prop := mailBackRow.holds Try.pinned (OpenSpec.ofChange mailBackWrong)

/-- 'blindstamplaw10.MailNames': WHATEVER THE INPUT: true; the input reads as it did. -/
def mailNamesSpec : ChangeSpec := { name := "mailNames", fn := fun _ => fun
  | [] => { results := [.lit (.bool true)], args := [] }
  | _ => none }
def mailNamesRow : OpenClaim := { program := "ytehkjjcdkbcebaa", sum := "22d24ef83ecf26b9728c5a38fe525abc20276ddceb1f4f80d55c9e8734372abc", func := "blindstamp/blindstamplaw10.MailNames", spec := "mailNames", unfollowed := true, recurses := true, apart := false }
def MailNamesSaid : Prop := mailNamesRow.holds Try.pinned (OpenSpec.ofChange mailNamesSpec)

/-- ITS FALSE NEIGHBOUR: 'it returns false'. Refute it at one input. -/
def mailNamesWrong : ChangeSpec := { name := "mailNames", fn := fun _ => fun
  | [] => { results := [.lit (.bool false)], args := [] }
  | _ => none }
def MailNamesWrongFalsely : Prop := mailNamesRow.holds Try.pinned (OpenSpec.ofChange mailNamesWrong)

/-- 'blindstamplaw10.MailLong': WHATEVER THE INPUT: true; the input reads as it did. -/
def mailLongSpec : ChangeSpec := { name := "mailLong", fn := fun _ => fun
  | [d1, d2] => { results := [.lit (.bool true)], args := [d1, d2] }
  | _ => none }
def mailLongRow : OpenClaim := { program := "ytehkjjcdkbcebaa", sum := "22d24ef83ecf26b9728c5a38fe525abc20276ddceb1f4f80d55c9e8734372abc", func := "blindstamp/blindstamplaw10.MailLong", spec := "mailLong", unfollowed := true, recurses := true, apart := false }
def MailLongSaid : Prop := mailLongRow.holds Try.pinned (OpenSpec.ofChange mailLongSpec)

/-- ITS FALSE NEIGHBOUR: 'it returns false'. Refute it at one input. -/
def mailLongWrong : ChangeSpec := { name := "mailLong", fn := fun _ => fun
  | [d1, d2] => { results := [.lit (.bool false)], args := [d1, d2] }
  | _ => none }
def MailLongWrongFalsely : Prop := mailLongRow.holds Try.pinned (OpenSpec.ofChange mailLongWrong)

/-- 'blindstamplaw11.RecordBack': WHATEVER THE INPUT: true; the input reads as it did. -/
def recordBackSpec : ChangeSpec := { name := "recordBack", fn := fun _ => fun
  | [d1, d2, d3, d4, d5] => { results := [.lit (.bool true)], args := [d1, d2, d3, d4, d5] }
  | _ => none }
def recordBackRow : OpenClaim := { program := "ytehkjjcdkbcebaa", sum := "22d24ef83ecf26b9728c5a38fe525abc20276ddceb1f4f80d55c9e8734372abc", func := "blindstamp/blindstamplaw11.RecordBack", spec := "recordBack", unfollowed := true, recurses := true, apart := false }
def RecordBackSaid : Prop := recordBackRow.holds Try.pinned (OpenSpec.ofChange recordBackSpec)

/-- ITS FALSE NEIGHBOUR: 'it returns false'. Refute it at one input. -/
def recordBackWrong : ChangeSpec := { name := "recordBack", fn := fun _ => fun
  | [d1, d2, d3, d4, d5] => { results := [.lit (.bool false)], args := [d1, d2, d3, d4, d5] }
  | _ => none }
def RecordBackWrongFalsely : Prop := recordBackRow.holds Try.pinned (OpenSpec.ofChange recordBackWrong)

/-- 'blindstamplaw11.RecordLong': WHATEVER THE INPUT: true; the input reads as it did. -/
def recordLongSpec : ChangeSpec := { name := "recordLong", fn := fun _ => fun
  | [d1, d2] => { results := [.lit (.bool true)], args := [d1, d2] }
  | _ => none }
def recordLongRow : OpenClaim := { program := "ytehkjjcdkbcebaa", sum := "22d24ef83ecf26b9728c5a38fe525abc20276ddceb1f4f80d55c9e8734372abc", func := "blindstamp/blindstamplaw11.RecordLong", spec := "recordLong", unfollowed := true, recurses := true, apart := false }
def RecordLongSaid : Prop := recordLongRow.holds Try.pinned (OpenSpec.ofChange recordLongSpec)

/-- ITS FALSE NEIGHBOUR: 'it returns false'. Refute it at one input. -/
def recordLongWrong : ChangeSpec := { name := "recordLong", fn := fun _ => fun
  | [d1, d2] => { results := [.lit (.bool false)], args := [d1, d2] }
  | _ => none }
def RecordLongWrongFalsely : Prop := recordLongRow.holds Try.pinned (OpenSpec.ofChange recordLongWrong)

/-- 'blindstamplaw11.RecordNames': WHATEVER THE INPUT: true; the input reads as it did. -/
def recordNamesSpec : ChangeSpec := { name := "recordNames", fn := fun _ => fun
  | [] => { results := [.lit (.bool true)], args := [] }
  | _ => none }
def recordNamesRow : OpenClaim := { program := "ytehkjjcdkbcebaa", sum := "22d24ef83ecf26b9728c5a38fe525abc20276ddceb1f4f80d55c9e8734372abc", func := "blindstamp/blindstamplaw11.RecordNames", spec := "recordNames", unfollowed := true, recurses := true, apart := false }
def RecordNamesSaid : Prop := recordNamesRow.holds Try.pinned (OpenSpec.ofChange recordNamesSpec)

/-- ITS FALSE NEIGHBOUR: 'it returns false'. Refute it at one input. -/
def recordNamesWrong : ChangeSpec := { name := "recordNames", fn := fun _ => fun
  | [] => { results := [.lit (.bool false)], args := [] }
  | _ => none }
def RecordNamesWrongFalsely : Prop := recordNamesRow.holds Try.pinned (OpenSpec.ofChange recordNamesWrong)

/- THE SECOND FORM. 'bulk': how many values and letters a reading holds, each counted each time it is reached (what is shared counts as often as it is met; a slice's spare places count too). A statement '..UptoSaid' is the law's where the arguments, and the package variables that the reading takes, are together of bulk at most 1048576: NARROWER than '..Said'. Prove '..Said' where nothing that the law and all that it calls make is longer than what came in: it says more and counts as full. Else prove '..UptoSaid'. A law counts once. -/
mutual
def uptoBulk {H : Type} : DataW H → Nat
  | .lit (.string bytes) => bytes.length + 1
  | .lit _ => 1
  | .nil => 1
  | .ptr d => uptoBulk d + 1
  | .slice elems spare => uptoBulkAll elems + uptoBulkAll spare + 1
  | .agg parts => uptoBulkAll parts + 1
  | .iface _ d => uptoBulk d + 1
  | .map entries => uptoBulkEntries entries + 1
  | .held _ => 1
def uptoBulkAll {H : Type} : List (DataW H) → Nat
  | [] => 0
  | d :: r => uptoBulk d + uptoBulkAll r
def uptoBulkEntries {H : Type} : List (Lit × DataW H) → Nat
  | [] => 0
  | x :: r => uptoBulkEntry x + uptoBulkEntries r
def uptoBulkEntry {H : Type} : Lit × DataW H → Nat
  | (.string bytes, d) => bytes.length + uptoBulk d + 1
  | (_, d) => uptoBulk d + 1
 end
def uptoSmall : (H : Type) → List (DataW H) → Bool := fun _ ds => decide (uptoBulkAll ds ≤ 1048576)
def OpenSpec.upto (s : _root_.Go.ChangeSpec) : _root_.Go.OpenSpec := { _root_.Go.OpenSpec.ofChange s with cond := some uptoSmall }

/-- 'blindstamplaw09.OpBack', WHERE WHAT IT READS IS OF BULK AT MOST 1048576: true; the input reads as it did. -/
def opBackUptoRow : OpenClaim := { program := "ytehkjjcdkbcebaa", sum := "22d24ef83ecf26b9728c5a38fe525abc20276ddceb1f4f80d55c9e8734372abc", func := "blindstamp/blindstamplaw09.OpBack", spec := "opBack", unfollowed := true, recurses := true, apart := false, narrowed := true }
def OpBackUptoSaid : Prop := opBackUptoRow.holds Try.pinned (OpenSpec.upto opBackSpec)

/-- 'blindstamplaw09.OpLong', WHERE WHAT IT READS IS OF BULK AT MOST 1048576: true; the input reads as it did. -/
def opLongUptoRow : OpenClaim := { program := "ytehkjjcdkbcebaa", sum := "22d24ef83ecf26b9728c5a38fe525abc20276ddceb1f4f80d55c9e8734372abc", func := "blindstamp/blindstamplaw09.OpLong", spec := "opLong", unfollowed := true, recurses := true, apart := false, narrowed := true }
def OpLongUptoSaid : Prop := opLongUptoRow.holds Try.pinned (OpenSpec.upto opLongSpec)

/-- 'blindstamplaw09.OpNames', WHERE WHAT IT READS IS OF BULK AT MOST 1048576: true; the input reads as it did. -/
def opNamesUptoRow : OpenClaim := { program := "ytehkjjcdkbcebaa", sum := "22d24ef83ecf26b9728c5a38fe525abc20276ddceb1f4f80d55c9e8734372abc", func := "blindstamp/blindstamplaw09.OpNames", spec := "opNames", unfollowed := true, recurses := true, apart := false, narrowed := true }
def OpNamesUptoSaid : Prop := opNamesUptoRow.holds Try.pinned (OpenSpec.upto opNamesSpec)

/-- 'blindstamplaw09.OpTells', WHERE WHAT IT READS IS OF BULK AT MOST 1048576: true; the input reads as it did. -/
def opTellsUptoRow : OpenClaim := { program := "ytehkjjcdkbcebaa", sum := "22d24ef83ecf26b9728c5a38fe525abc20276ddceb1f4f80d55c9e8734372abc", func := "blindstamp/blindstamplaw09.OpTells", spec := "opTells", unfollowed := true, recurses := true, apart := false, narrowed := true }
def OpTellsUptoSaid : Prop := opTellsUptoRow.holds Try.pinned (OpenSpec.upto opTellsSpec)

/-- 'blindstamplaw10.MailBack', WHERE WHAT IT READS IS OF BULK AT MOST 1048576: true; the input reads as it did. -/
def mailBackUptoRow : OpenClaim := { program := "ytehkjjcdkbcebaa", sum := "22d24ef83ecf26b9728c5a38fe525abc20276ddceb1f4f80d55c9e8734372abc", func := "blindstamp/blindstamplaw10.MailBack", spec := "mailBack", unfollowed := true, recurses := true, apart := false, narrowed := true }
def MailBackUptoSaid : Prop := mailBackUptoRow.holds Try.pinned (OpenSpec.upto mailBackSpec)

/-- 'blindstamplaw10.MailNames', WHERE WHAT IT READS IS OF BULK AT MOST 1048576: true; the input reads as it did. -/
def mailNamesUptoRow : OpenClaim := { program := "ytehkjjcdkbcebaa", sum := "22d24ef83ecf26b9728c5a38fe525abc20276ddceb1f4f80d55c9e8734372abc", func := "blindstamp/blindstamplaw10.MailNames", spec := "mailNames", unfollowed := true, recurses := true, apart := false, narrowed := true }
def MailNamesUptoSaid : Prop := mailNamesUptoRow.holds Try.pinned (OpenSpec.upto mailNamesSpec)

/-- 'blindstamplaw10.MailLong', WHERE WHAT IT READS IS OF BULK AT MOST 1048576: true; the input reads as it did. -/
def mailLongUptoRow : OpenClaim := { program := "ytehkjjcdkbcebaa", sum := "22d24ef83ecf26b9728c5a38fe525abc20276ddceb1f4f80d55c9e8734372abc", func := "blindstamp/blindstamplaw10.MailLong", spec := "mailLong", unfollowed := true, recurses := true, apart := false, narrowed := true }
def MailLongUptoSaid : Prop := mailLongUptoRow.holds Try.pinned (OpenSpec.upto mailLongSpec)

/-- 'blindstamplaw11.RecordBack', WHERE WHAT IT READS IS OF BULK AT MOST 1048576: true; the input reads as it did. -/
def recordBackUptoRow : OpenClaim := { program := "ytehkjjcdkbcebaa", sum := "22d24ef83ecf26b9728c5a38fe525abc20276ddceb1f4f80d55c9e8734372abc", func := "blindstamp/blindstamplaw11.RecordBack", spec := "recordBack", unfollowed := true, recurses := true, apart := false, narrowed := true }
def RecordBackUptoSaid : Prop := recordBackUptoRow.holds Try.pinned (OpenSpec.upto recordBackSpec)

/-- 'blindstamplaw11.RecordLong', WHERE WHAT IT READS IS OF BULK AT MOST 1048576: true; the input reads as it did. -/
def recordLongUptoRow : OpenClaim := { program := "ytehkjjcdkbcebaa", sum := "22d24ef83ecf26b9728c5a38fe525abc20276ddceb1f4f80d55c9e8734372abc", func := "blindstamp/blindstamplaw11.RecordLong", spec := "recordLong", unfollowed := true, recurses := true, apart := false, narrowed := true }
def RecordLongUptoSaid : Prop := recordLongUptoRow.holds Try.pinned (OpenSpec.upto recordLongSpec)

/-- 'blindstamplaw11.RecordNames', WHERE WHAT IT READS IS OF BULK AT MOST 1048576: true; the input reads as it did. -/
def recordNamesUptoRow : OpenClaim := { program := "ytehkjjcdkbcebaa", sum := "22d24ef83ecf26b9728c5a38fe525abc20276ddceb1f4f80d55c9e8734372abc", func := "blindstamp/blindstamplaw11.RecordNames", spec := "recordNames", unfollowed := true, recurses := true, apart := false, narrowed := true }
def RecordNamesUptoSaid : Prop := recordNamesUptoRow.holds Try.pinned (OpenSpec.upto recordNamesSpec)

end Rows
end Go.Proofs.Ytehkjjcdkbcebaa
