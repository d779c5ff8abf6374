/-
  No cell of these rows narrows 'for every input' (looked for: loops, veiled, ifaces, maps, wideKeys, modest, calm, conditions, laid).
  DERIVED. THE GIVEN ROWS OF THIS SEAT. 9 by the template 'for every input the law returns true; each argument reads behind the call as it read before'; 0 by the template 'total and deterministic' (their statements: YtgooemdlilfkmaaTotals.lean).
  GIVEN WITH THE SEED: the statements are not yours to turn. If you find one false, say at which input.
  Laid BY PROGRAM, IN A SANDBOX (cutbox-rows.mjs): the forced cells as the released guide's own fill.sh prints them over the translation 6b4770addba8a4e2… (all of the seat's roots in one cut). By AI agents, Wed Nov 11 2026. No macro, syntax, notation, axiom, sorry.
-/
import Derived.Test.YtgooemdlilfkmaaChecked
import GoSem.Claim
import GoSem.ClaimJoined
import GoSem.ClaimMapViews
import Derived.JoinedTies
import Derived.KernelRfl
namespace Go.Proofs.Ytgooemdlilfkmaa
/- THE CELL 'sum', in the pinned program and in every row, IS THE sha256 OF THE DUMP (.gsa) THAT YtgooemdlilfkmaaProg.lean LOADS. Nothing in Lean hashes anything: it is a label: what it is worth is what the hold of that sum in a sandbox is worth. -/
noncomputable def Try.pinned : Pinned := { name := "ytgooemdlilfkmaa", sum := "6b4770addba8a4e229a67f3497ee314a7f0abb5cd658af9982cccd2d1b3805a6", checked := Try.checked }
namespace Rows
def none {H : Type} : Left H := { results := [], args := [] }

/-- 'blindstamplaw06.PolicyNames': WHATEVER THE INPUT: true; the input reads as it did. -/
def policyNamesSpec : ChangeSpec := { name := "policyNames", fn := fun _ => fun
  | [] => { results := [.lit (.bool true)], args := [] }
  | _ => none }
def policyNamesRow : OpenClaim := { program := "ytgooemdlilfkmaa", sum := "6b4770addba8a4e229a67f3497ee314a7f0abb5cd658af9982cccd2d1b3805a6", func := "blindstamp/blindstamplaw06.PolicyNames", spec := "policyNames", unfollowed := true, recurses := true, apart := false }
def PolicyNamesSaid : Prop := policyNamesRow.holds Try.pinned (OpenSpec.ofChange policyNamesSpec)

/-- ITS FALSE NEIGHBOUR: 'it returns false'. Refute it at one input. -/
def policyNamesWrong : ChangeSpec := { name := "policyNames", fn := fun _ => fun
  | [] => { results := [.lit (.bool false)], args := [] }
  | _ => none }
def PolicyNamesWrongFalsely : Prop := policyNamesRow.holds Try.pinned (OpenSpec.ofChange policyNamesWrong)

/-- 'blindstamplaw06.PolicyDown': WHATEVER THE INPUT: true; the input reads as it did. -/
def policyDownSpec : ChangeSpec := { name := "policyDown", fn := fun _ => fun
  | [d1, d2, d3, d4] => { results := [.lit (.bool true)], args := [d1, d2, d3, d4] }
  | _ => none }
def policyDownRow : OpenClaim := { program := "ytgooemdlilfkmaa", sum := "6b4770addba8a4e229a67f3497ee314a7f0abb5cd658af9982cccd2d1b3805a6", func := "blindstamp/blindstamplaw06.PolicyDown", spec := "policyDown", unfollowed := true, recurses := true, apart := false }
def PolicyDownSaid : Prop := policyDownRow.holds Try.pinned (OpenSpec.ofChange policyDownSpec)

/-- ITS FALSE NEIGHBOUR: 'it returns false'. Refute it at one input. -/
def policyDownWrong : ChangeSpec := { name := "policyDown", fn := fun _ => fun
  | [d1, d2, d3, d4] => { results := [.lit (.bool false)], args := [d1, d2, d3, d4] }
  | _ => none }
def PolicyDownWrongFalsely : Prop := policyDownRow.holds Try.pinned (OpenSpec.ofChange policyDownWrong)

/-- 'blindstamplaw06.PolicyApart': WHATEVER THE INPUT: true; the input reads as it did. -/
def policyApartSpec : ChangeSpec := { name := "policyApart", fn := fun _ => fun
  | [d1, d2, d3] => { results := [.lit (.bool true)], args := [d1, d2, d3] }
  | _ => none }
def policyApartRow : OpenClaim := { program := "ytgooemdlilfkmaa", sum := "6b4770addba8a4e229a67f3497ee314a7f0abb5cd658af9982cccd2d1b3805a6", func := "blindstamp/blindstamplaw06.PolicyApart", spec := "policyApart", unfollowed := true, recurses := true, apart := false }
def PolicyApartSaid : Prop := policyApartRow.holds Try.pinned (OpenSpec.ofChange policyApartSpec)

/-- ITS FALSE NEIGHBOUR: 'it returns false'. Refute it at one input. -/
def policyApartWrong : ChangeSpec := { name := "policyApart", fn := fun _ => fun
  | [d1, d2, d3] => { results := [.lit (.bool false)], args := [d1, d2, d3] }
  | _ => none }
def PolicyApartWrongFalsely : Prop := policyApartRow.holds Try.pinned (OpenSpec.ofChange policyApartWrong)

/-- 'blindstamplaw06.PolicyTells': WHATEVER THE INPUT: true; the input reads as it did. -/
def policyTellsSpec : ChangeSpec := { name := "policyTells", fn := fun _ => fun
  | [d1, d2, d3, d4] => { results := [.lit (.bool true)], args := [d1, d2, d3, d4] }
  | _ => none }
def policyTellsRow : OpenClaim := { program := "ytgooemdlilfkmaa", sum := "6b4770addba8a4e229a67f3497ee314a7f0abb5cd658af9982cccd2d1b3805a6", func := "blindstamp/blindstamplaw06.PolicyTells", spec := "policyTells", unfollowed := true, recurses := true, apart := false }
def PolicyTellsSaid : Prop := policyTellsRow.holds Try.pinned (OpenSpec.ofChange policyTellsSpec)

/-- ITS FALSE NEIGHBOUR: 'it returns false'. Refute it at one input. -/
def policyTellsWrong : ChangeSpec := { name := "policyTells", fn := fun _ => fun
  | [d1, d2, d3, d4] => { results := [.lit (.bool false)], args := [d1, d2, d3, d4] }
  | _ => none }
def PolicyTellsWrongFalsely : Prop := policyTellsRow.holds Try.pinned (OpenSpec.ofChange policyTellsWrong)

/-- 'blindstamplaw07.GrantWrites': WHATEVER THE INPUT: true; the input reads as it did. -/
def grantWritesSpec : ChangeSpec := { name := "grantWrites", fn := fun _ => fun
  | [d1, d2] => { results := [.lit (.bool true)], args := [d1, d2] }
  | _ => none }
def grantWritesRow : OpenClaim := { program := "ytgooemdlilfkmaa", sum := "6b4770addba8a4e229a67f3497ee314a7f0abb5cd658af9982cccd2d1b3805a6", func := "blindstamp/blindstamplaw07.GrantWrites", spec := "grantWrites", apart := false }
def GrantWritesSaid : Prop := grantWritesRow.holds Try.pinned (OpenSpec.ofChange grantWritesSpec)

/-- ITS FALSE NEIGHBOUR: 'it returns false'. Refute it at one input. -/
def grantWritesWrong : ChangeSpec := { name := "grantWrites", fn := fun _ => fun
  | [d1, d2] => { results := [.lit (.bool false)], args := [d1, d2] }
  | _ => none }
def GrantWritesWrongFalsely : Prop := grantWritesRow.holds Try.pinned (OpenSpec.ofChange grantWritesWrong)

/-- 'blindstamplaw07.GrantTells': WHATEVER THE INPUT: true; the input reads as it did. -/
def grantTellsSpec : ChangeSpec := { name := "grantTells", fn := fun _ => fun
  | [d1, d2, d3] => { results := [.lit (.bool true)], args := [d1, d2, d3] }
  | _ => none }
def grantTellsRow : OpenClaim := { program := "ytgooemdlilfkmaa", sum := "6b4770addba8a4e229a67f3497ee314a7f0abb5cd658af9982cccd2d1b3805a6", func := "blindstamp/blindstamplaw07.GrantTells", spec := "grantTells", apart := false }
def GrantTellsSaid : Prop := grantTellsRow.holds Try.pinned (OpenSpec.ofChange grantTellsSpec)

/-- ITS FALSE NEIGHBOUR: 'it returns false'. Refute it at one input. -/
def grantTellsWrong : ChangeSpec := { name := "grantTells", fn := fun _ => fun
  | [d1, d2, d3] => { results := [.lit (.bool false)], args := [d1, d2, d3] }
  | _ => none }
def GrantTellsWrongFalsely : Prop := grantTellsRow.holds Try.pinned (OpenSpec.ofChange grantTellsWrong)

/-- 'blindstamplaw07.GrantLast': WHATEVER THE INPUT: true; the input reads as it did. -/
def grantLastSpec : ChangeSpec := { name := "grantLast", fn := fun _ => fun
  | [d1, d2, d3] => { results := [.lit (.bool true)], args := [d1, d2, d3] }
  | _ => none }
def grantLastRow : OpenClaim := { program := "ytgooemdlilfkmaa", sum := "6b4770addba8a4e229a67f3497ee314a7f0abb5cd658af9982cccd2d1b3805a6", func := "blindstamp/blindstamplaw07.GrantLast", spec := "grantLast", apart := false }
def GrantLastSaid : Prop := grantLastRow.holds Try.pinned (OpenSpec.ofChange grantLastSpec)

/-- ITS FALSE NEIGHBOUR: 'it returns false'. Refute it at one input. -/
def grantLastWrong : ChangeSpec := { name := "grantLast", fn := fun _ => fun
  | [d1, d2, d3] => { results := [.lit (.bool false)], args := [d1, d2, d3] }
  | _ => none }
def GrantLastWrongFalsely : Prop := grantLastRow.holds Try.pinned (OpenSpec.ofChange grantLastWrong)

/-- 'blindstamplaw07.GrantBack': WHATEVER THE INPUT: true; the input reads as it did. -/
def grantBackSpec : ChangeSpec := { name := "grantBack", fn := fun _ => fun
  | [d1, d2] => { results := [.lit (.bool true)], args := [d1, d2] }
  | _ => none }
def grantBackRow : OpenClaim := { program := "ytgooemdlilfkmaa", sum := "6b4770addba8a4e229a67f3497ee314a7f0abb5cd658af9982cccd2d1b3805a6", func := "blindstamp/blindstamplaw07.GrantBack", spec := "grantBack", apart := false }
def GrantBackSaid : Prop := grantBackRow.holds Try.pinned (OpenSpec.ofChange grantBackSpec)

/-- ITS FALSE NEIGHBOUR: 'it returns false'. Refute it at one input. -/
def grantBackWrong : ChangeSpec := { name := "grantBack", fn := fun _ => fun
  | [d1, d2] => { results := [.lit (.bool false)], args := [d1, d2] }
  | _ => none }
def GrantBackWrongFalsely : Prop := grantBackRow.holds Try.pinned (OpenSpec.ofChange grantBackWrong)

/-- 'blindstamplaw07.GrantNames': WHATEVER THE INPUT: true; the input reads as it did. -/
def grantNamesSpec : ChangeSpec := { name := "grantNames", fn := fun _ => fun
  | [] => { results := [.lit (.bool true)], args := [] }
  | _ => none }
def grantNamesRow : OpenClaim := { program := "ytgooemdlilfkmaa", sum := "6b4770addba8a4e229a67f3497ee314a7f0abb5cd658af9982cccd2d1b3805a6", func := "blindstamp/blindstamplaw07.GrantNames", spec := "grantNames", apart := false }
def GrantNamesSaid : Prop := grantNamesRow.holds Try.pinned (OpenSpec.ofChange grantNamesSpec)

/-- ITS FALSE NEIGHBOUR: 'it returns false'. Refute it at one input. -/
def grantNamesWrong : ChangeSpec := { name := "grantNames", fn := fun _ => fun
  | [] => { results := [.lit (.bool false)], args := [] }
  | _ => none }
def GrantNamesWrongFalsely : Prop := grantNamesRow.holds Try.pinned (OpenSpec.ofChange grantNamesWrong)

/- THE SECOND FORM. 'bulk': how many values and letters a reading holds, each counted each time it is reached (what is shared counts as often as it is met; a slice's spare places count too). A statement '..UptoSaid' is the law's where the arguments, and the package variables that the reading takes, are together of bulk at most 1048576: NARROWER than '..Said'. Prove '..Said' where nothing that the law and all that it calls make is longer than what came in: it says more and counts as full. Else prove '..UptoSaid'. A law counts once. -/
mutual
def uptoBulk {H : Type} : DataW H → Nat
  | .lit (.string bytes) => bytes.length + 1
  | .lit _ => 1
  | .nil => 1
  | .ptr d => uptoBulk d + 1
  | .slice elems spare => uptoBulkAll elems + uptoBulkAll spare + 1
  | .agg parts => uptoBulkAll parts + 1
  | .iface _ d => uptoBulk d + 1
  | .map entries => uptoBulkEntries entries + 1
  | .held _ => 1
def uptoBulkAll {H : Type} : List (DataW H) → Nat
  | [] => 0
  | d :: r => uptoBulk d + uptoBulkAll r
def uptoBulkEntries {H : Type} : List (Lit × DataW H) → Nat
  | [] => 0
  | x :: r => uptoBulkEntry x + uptoBulkEntries r
def uptoBulkEntry {H : Type} : Lit × DataW H → Nat
  | (.string bytes, d) => bytes.length + uptoBulk d + 1
  | (_, d) => uptoBulk d + 1
 end
def uptoSmall : (H : Type) → List (DataW H) → Bool := fun _ ds => decide (uptoBulkAll ds ≤ 1048576)
def OpenSpec.upto (s : _root_.Go.ChangeSpec) : _root_.Go.OpenSpec := { _root_.Go.OpenSpec.ofChange s with cond := some uptoSmall }

/-- 'blindstamplaw06.PolicyNames', WHERE WHAT IT READS IS OF BULK AT MOST 1048576: true; the input reads as it did. -/
def policyNamesUptoRow : OpenClaim := { program := "ytgooemdlilfkmaa", sum := "6b4770addba8a4e229a67f3497ee314a7f0abb5cd658af9982cccd2d1b3805a6", func := "blindstamp/blindstamplaw06.PolicyNames", spec := "policyNames", unfollowed := true, recurses := true, apart := false, narrowed := true }
def PolicyNamesUptoSaid : Prop := policyNamesUptoRow.holds Try.pinned (OpenSpec.upto policyNamesSpec)

/-- 'blindstamplaw06.PolicyDown', WHERE WHAT IT READS IS OF BULK AT MOST 1048576: true; the input reads as it did. -/
def policyDownUptoRow : OpenClaim := { program := "ytgooemdlilfkmaa", sum := "6b4770addba8a4e229a67f3497ee314a7f0abb5cd658af9982cccd2d1b3805a6", func := "blindstamp/blindstamplaw06.PolicyDown", spec := "policyDown", unfollowed := true, recurses := true, apart := false, narrowed := true }
def PolicyDownUptoSaid : Prop := policyDownUptoRow.holds Try.pinned (OpenSpec.upto policyDownSpec)

/-- 'blindstamplaw06.PolicyApart', WHERE WHAT IT READS IS OF BULK AT MOST 1048576: true; the input reads as it did. -/
def policyApartUptoRow : OpenClaim := { program := "ytgooemdlilfkmaa", sum := "6b4770addba8a4e229a67f3497ee314a7f0abb5cd658af9982cccd2d1b3805a6", func := "blindstamp/blindstamplaw06.PolicyApart", spec := "policyApart", unfollowed := true, recurses := true, apart := false, narrowed := true }
def PolicyApartUptoSaid : Prop := policyApartUptoRow.holds Try.pinned (OpenSpec.upto policyApartSpec)

/-- 'blindstamplaw06.PolicyTells', WHERE WHAT IT READS IS OF BULK AT MOST 1048576: true; the input reads as it did. -/
def policyTellsUptoRow : OpenClaim := { program := "ytgooemdlilfkmaa", sum := "6b4770addba8a4e229a67f3497ee314a7f0abb5cd658af9982cccd2d1b3805a6", func := "blindstamp/blindstamplaw06.PolicyTells", spec := "policyTells", unfollowed := true, recurses := true, apart := false, narrowed := true }
def PolicyTellsUptoSaid : Prop := policyTellsUptoRow.holds Try.pinned (OpenSpec.upto policyTellsSpec)

/-- 'blindstamplaw07.GrantWrites', WHERE WHAT IT READS IS OF BULK AT MOST 1048576: true; the input reads as it did. -/
def grantWritesUptoRow : OpenClaim := { program := "ytgooemdlilfkmaa", sum := "6b4770addba8a4e229a67f3497ee314a7f0abb5cd658af9982cccd2d1b3805a6", func := "blindstamp/blindstamplaw07.GrantWrites", spec := "grantWrites", apart := false, narrowed := true }
def GrantWritesUptoSaid : Prop := grantWritesUptoRow.holds Try.pinned (OpenSpec.upto grantWritesSpec)

/-- 'blindstamplaw07.GrantTells', WHERE WHAT IT READS IS OF BULK AT MOST 1048576: true; the input reads as it did. -/
def grantTellsUptoRow : OpenClaim := { program := "ytgooemdlilfkmaa", sum := "6b4770addba8a4e229a67f3497ee314a7f0abb5cd658af9982cccd2d1b3805a6", func := "blindstamp/blindstamplaw07.GrantTells", spec := "grantTells", apart := false, narrowed := true }
def GrantTellsUptoSaid : Prop := grantTellsUptoRow.holds Try.pinned (OpenSpec.upto grantTellsSpec)

/-- 'blindstamplaw07.GrantLast', WHERE WHAT IT READS IS OF BULK AT MOST 1048576: true; the input reads as it did. -/
def grantLastUptoRow : OpenClaim := { program := "ytgooemdlilfkmaa", sum := "6b4770addba8a4e229a67f3497ee314a7f0abb5cd658af9982cccd2d1b3805a6", func := "blindstamp/blindstamplaw07.GrantLast", spec := "grantLast", apart := false, narrowed := true }
def GrantLastUptoSaid : Prop := grantLastUptoRow.holds Try.pinned (OpenSpec.upto grantLastSpec)

/-- 'blindstamplaw07.GrantBack', WHERE WHAT IT READS IS OF BULK AT MOST 1048576: true; the input reads as it did. -/
def grantBackUptoRow : OpenClaim := { program := "ytgooemdlilfkmaa", sum := "6b4770addba8a4e229a67f3497ee314a7f0abb5cd658af9982cccd2d1b3805a6", func := "blindstamp/blindstamplaw07.GrantBack", spec := "grantBack", apart := false, narrowed := true }
def GrantBackUptoSaid : Prop := grantBackUptoRow.holds Try.pinned (OpenSpec.upto grantBackSpec)

/-- 'blindstamplaw07.GrantNames', WHERE WHAT IT READS IS OF BULK AT MOST 1048576: true; the input reads as it did. -/
def grantNamesUptoRow : OpenClaim := { program := "ytgooemdlilfkmaa", sum := "6b4770addba8a4e229a67f3497ee314a7f0abb5cd658af9982cccd2d1b3805a6", func := "blindstamp/blindstamplaw07.GrantNames", spec := "grantNames", apart := false, narrowed := true }
def GrantNamesUptoSaid : Prop := grantNamesUptoRow.holds Try.pinned (OpenSpec.upto grantNamesSpec)

end Rows
end Go.Proofs.Ytgooemdlilfkmaa
