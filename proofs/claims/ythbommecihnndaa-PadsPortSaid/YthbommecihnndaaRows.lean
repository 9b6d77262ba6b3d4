/-
  No cell of these rows narrows 'for every input' (looked for: loops, veiled, ifaces, maps, wideKeys, modest, calm, conditions, laid).
  DERIVED. THE GIVEN ROWS OF THIS SEAT. 3 by the template 'for every input the law returns true; each argument reads behind the call as it read before'; 0 by the template 'total and deterministic' (their statements: YthbommecihnndaaTotals.lean).
  GIVEN WITH THE SEED: the statements are not yours to turn. If you find one false, say at which input.
  Laid BY PROGRAM, IN A SANDBOX (cutbox-rows.mjs): the forced cells as the released guide's own fill.sh prints them over the translation a1ea8b0093f62873… (all of the seat's roots in one cut). By AI agents, Wed Nov 11 2026. No macro, syntax, notation, axiom, sorry.
-/
import Derived.Test.YthbommecihnndaaChecked
import GoSem.Claim
import GoSem.ClaimJoined
import GoSem.ClaimMapViews
import Derived.JoinedTies
import Derived.KernelRfl
namespace Go.Proofs.Ythbommecihnndaa
/- THE CELL 'sum', in the pinned program and in every row, IS THE sha256 OF THE DUMP (.gsa) THAT YthbommecihnndaaProg.lean LOADS. Nothing in Lean hashes anything: it is a label: what it is worth is what the hold of that sum in a sandbox is worth. -/
noncomputable def Try.pinned : Pinned := { name := "ythbommecihnndaa", sum := "a1ea8b0093f6287343ed2f5d99cf1aa81fae59023d798c38664907690702642b", checked := Try.checked }
namespace Rows
def none {H : Type} : Left H := { results := [], args := [] }

/-- 'tandemlaw9.PadsPort': WHATEVER THE INPUT: true; the input reads as it did. -/
def padsPortSpec : ChangeSpec := { name := "padsPort", fn := fun _ => fun
  | [d1, d2] => { results := [.lit (.bool true)], args := [d1, d2] }
  | _ => none }
def padsPortRow : OpenClaim := { program := "ythbommecihnndaa", sum := "a1ea8b0093f6287343ed2f5d99cf1aa81fae59023d798c38664907690702642b", func := "tandem/tandemlaw9.PadsPort", spec := "padsPort", apart := false }
def PadsPortSaid : Prop := padsPortRow.holds Try.pinned (OpenSpec.ofChange padsPortSpec)

/-- ITS FALSE NEIGHBOUR: 'it returns false'. Refute it at one input. -/
def padsPortWrong : ChangeSpec := { name := "padsPort", fn := fun _ => fun
  | [d1, d2] => { results := [.lit (.bool false)], args := [d1, d2] }
  | _ => none }
def PadsPortWrongFalsely : Prop := padsPortRow.holds Try.pinned (OpenSpec.ofChange padsPortWrong)

/-- 'tandemlaw9.PadsEight': WHATEVER THE INPUT: true; the input reads as it did. -/
def padsEightSpec : ChangeSpec := { name := "padsEight", fn := fun _ => fun
  | [d1, d2, d3, d4, d5, d6] => { results := [.lit (.bool true)], args := [d1, d2, d3, d4, d5, d6] }
  | _ => none }
def padsEightRow : OpenClaim := { program := "ythbommecihnndaa", sum := "a1ea8b0093f6287343ed2f5d99cf1aa81fae59023d798c38664907690702642b", func := "tandem/tandemlaw9.PadsEight", spec := "padsEight", apart := false }
def PadsEightSaid : Prop := padsEightRow.holds Try.pinned (OpenSpec.ofChange padsEightSpec)

/-- ITS FALSE NEIGHBOUR: 'it returns false'. Refute it at one input. -/
def padsEightWrong : ChangeSpec := { name := "padsEight", fn := fun _ => fun
  | [d1, d2, d3, d4, d5, d6] => { results := [.lit (.bool false)], args := [d1, d2, d3, d4, d5, d6] }
  | _ => none }
def PadsEightWrongFalsely : Prop := padsEightRow.holds Try.pinned (OpenSpec.ofChange padsEightWrong)

/-- 'tandemlaw9.PadsHigh': WHATEVER THE INPUT: true; the input reads as it did. -/
def padsHighSpec : ChangeSpec := { name := "padsHigh", fn := fun _ => fun
  | [d1, d2] => { results := [.lit (.bool true)], args := [d1, d2] }
  | _ => none }
def padsHighRow : OpenClaim := { program := "ythbommecihnndaa", sum := "a1ea8b0093f6287343ed2f5d99cf1aa81fae59023d798c38664907690702642b", func := "tandem/tandemlaw9.PadsHigh", spec := "padsHigh", apart := false }
def PadsHighSaid : Prop := padsHighRow.holds Try.pinned (OpenSpec.ofChange padsHighSpec)

/-- ITS FALSE NEIGHBOUR: 'it returns false'. Refute it at one input. -/
def padsHighWrong : ChangeSpec := { name := "padsHigh", fn := fun _ => fun
  | [d1, d2] => { results := [.lit (.bool false)], args := [d1, d2] }
  | _ => none }
def PadsHighWrongFalsely : Prop := padsHighRow.holds Try.pinned (OpenSpec.ofChange padsHighWrong)

/- THE SECOND FORM. 'bulk': how many values and letters a reading holds, each counted each time it is reached (what is shared counts as often as it is met; a slice's spare places count too). A statement '..UptoSaid' is the law's where the arguments, and the package variables that the reading takes, are together of bulk at most 1048576: NARROWER than '..Said'. Prove '..Said' where nothing that the law and all that it calls make is longer than what came in: it says more and counts as full. Else prove '..UptoSaid'. A law counts once. -/
mutual
def uptoBulk {H : Type} : DataW H → Nat
  | .lit (.string bytes) => bytes.length + 1
  | .lit _ => 1
  | .nil => 1
  | .ptr d => uptoBulk d + 1
  | .slice elems spare => uptoBulkAll elems + uptoBulkAll spare + 1
  | .agg parts => uptoBulkAll parts + 1
  | .iface _ d => uptoBulk d + 1
  | .map entries => uptoBulkEntries entries + 1
  | .held _ => 1
def uptoBulkAll {H : Type} : List (DataW H) → Nat
  | [] => 0
  | d :: r => uptoBulk d + uptoBulkAll r
def uptoBulkEntries {H : Type} : List (Lit × DataW H) → Nat
  | [] => 0
  | x :: r => uptoBulkEntry x + uptoBulkEntries r
def uptoBulkEntry {H : Type} : Lit × DataW H → Nat
  | (.string bytes, d) => bytes.length + uptoBulk d + 1
  | (_, d) => uptoBulk d + 1
 end
def uptoSmall : (H : Type) → List (DataW H) → Bool := fun _ ds => decide (uptoBulkAll ds ≤ 1048576)
def OpenSpec.upto (s : _root_.Go.ChangeSpec) : _root_.Go.OpenSpec := { _root_.Go.OpenSpec.ofChange s with cond := some uptoSmall }

/-- 'tandemlaw9.PadsPort', WHERE WHAT IT READS IS OF BULK AT MOST 1048576: true; the input reads as it did. -/
def padsPortUptoRow : OpenClaim := { program := "ythbommecihnndaa", sum := "a1ea8b0093f6287343ed2f5d99cf1aa81fae59023d798c38664907690702642b", func := "tandem/tandemlaw9.PadsPort", spec := "padsPort", apart := false, narrowed := true }
def PadsPortUptoSaid : Prop := padsPortUptoRow.holds Try.pinned (OpenSpec.upto padsPortSpec)

/-- 'tandemlaw9.PadsEight', WHERE WHAT IT READS IS OF BULK AT MOST 1048576: true; the input reads as it did. -/
def padsEightUptoRow : OpenClaim := { program := "ythbommecihnndaa", sum := "a1ea8b0093f6287343ed2f5d99cf1aa81fae59023d798c38664907690702642b", func := "tandem/tandemlaw9.PadsEight", spec := "padsEight", apart := false, narrowed := true }
def PadsEightUptoSaid : Prop := padsEightUptoRow.holds Try.pinned (OpenSpec.upto padsEightSpec)

/-- 'tandemlaw9.PadsHigh', WHERE WHAT IT READS IS OF BULK AT MOST 1048576: true; the input reads as it did. -/
def padsHighUptoRow : OpenClaim := { program := "ythbommecihnndaa", sum := "a1ea8b0093f6287343ed2f5d99cf1aa81fae59023d798c38664907690702642b", func := "tandem/tandemlaw9.PadsHigh", spec := "padsHigh", apart := false, narrowed := true }
def PadsHighUptoSaid : Prop := padsHighUptoRow.holds Try.pinned (OpenSpec.upto padsHighSpec)

end Rows
end Go.Proofs.Ythbommecihnndaa
