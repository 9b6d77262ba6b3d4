/-
  No cell of these rows narrows 'for every input' (looked for: loops, veiled, ifaces, maps, wideKeys, modest, calm, conditions, laid).
  DERIVED. THE GIVEN ROWS OF THIS SEAT. 3 by the template 'for every input the law returns true; each argument reads behind the call as it read before'; 0 by the template 'total and deterministic' (their statements: YtlhbolejnjbfdaaTotals.lean).
  GIVEN WITH THE SEED: the statements are not yours to turn. If you find one false, say at which input.
  Laid BY PROGRAM, IN A SANDBOX (cutbox-rows.mjs): the forced cells as the released guide's own fill.sh prints them over the translation bbd4c4695d24a4af… (all of the seat's roots in one cut). By AI agents, Wed Nov 11 2026. No macro, syntax, notation, axiom, sorry.
-/
import Derived.Test.YtlhbolejnjbfdaaChecked
import GoSem.Claim
import GoSem.ClaimJoined
import GoSem.ClaimMapViews
import Derived.JoinedTies
import Derived.KernelRfl
namespace Go.Proofs.Ytlhbolejnjbfdaa
/- THE CELL 'sum', in the pinned program and in every row, IS THE sha256 OF THE DUMP (.gsa) THAT YtlhbolejnjbfdaaProg.lean LOADS. Nothing in Lean hashes anything: it is a label: what it is worth is what the hold of that sum in a sandbox is worth. -/
noncomputable def Try.pinned : Pinned := { name := "ytlhbolejnjbfdaa", sum := "bbd4c4695d24a4afa3bc6ba4434393a0aebefb00d22348f0a95a8289feb10464", checked := Try.checked }
namespace Rows
def none {H : Type} : Left H := { results := [], args := [] }

/-- 'tandemlaw1.CartCrc': WHATEVER THE INPUT: true; the input reads as it did. -/
def cartCrcSpec : ChangeSpec := { name := "cartCrc", fn := fun _ => fun
  | [d1, d2, d3, d4] => { results := [.lit (.bool true)], args := [d1, d2, d3, d4] }
  | _ => none }
def cartCrcRow : OpenClaim := { program := "ytlhbolejnjbfdaa", sum := "bbd4c4695d24a4afa3bc6ba4434393a0aebefb00d22348f0a95a8289feb10464", func := "tandem/tandemlaw1.CartCrc", spec := "cartCrc", apart := false }
def CartCrcSaid : Prop := cartCrcRow.holds Try.pinned (OpenSpec.ofChange cartCrcSpec)

/-- ITS FALSE NEIGHBOUR: 'it returns false'. Refute it at one input. -/
def cartCrcWrong : ChangeSpec := { name := "cartCrc", fn := fun _ => fun
  | [d1, d2, d3, d4] => { results := [.lit (.bool false)], args := [d1, d2, d3, d4] }
  | _ => none }
def CartCrcWrongFalsely : Prop := cartCrcRow.holds Try.pinned (OpenSpec.ofChange cartCrcWrong)

/-- 'tandemlaw1.CartSums': WHATEVER THE INPUT: true; the input reads as it did. -/
def cartSumsSpec : ChangeSpec := { name := "cartSums", fn := fun _ => fun
  | [d1, d2] => { results := [.lit (.bool true)], args := [d1, d2] }
  | _ => none }
def cartSumsRow : OpenClaim := { program := "ytlhbolejnjbfdaa", sum := "bbd4c4695d24a4afa3bc6ba4434393a0aebefb00d22348f0a95a8289feb10464", func := "tandem/tandemlaw1.CartSums", spec := "cartSums", apart := false }
def CartSumsSaid : Prop := cartSumsRow.holds Try.pinned (OpenSpec.ofChange cartSumsSpec)

/-- ITS FALSE NEIGHBOUR: 'it returns false'. Refute it at one input. -/
def cartSumsWrong : ChangeSpec := { name := "cartSums", fn := fun _ => fun
  | [d1, d2] => { results := [.lit (.bool false)], args := [d1, d2] }
  | _ => none }
def CartSumsWrongFalsely : Prop := cartSumsRow.holds Try.pinned (OpenSpec.ofChange cartSumsWrong)

/-- 'tandemlaw1.CartSame': WHATEVER THE INPUT: true; the input reads as it did. -/
def cartSameSpec : ChangeSpec := { name := "cartSame", fn := fun _ => fun
  | [d1, d2, d3, d4] => { results := [.lit (.bool true)], args := [d1, d2, d3, d4] }
  | _ => none }
def cartSameRow : OpenClaim := { program := "ytlhbolejnjbfdaa", sum := "bbd4c4695d24a4afa3bc6ba4434393a0aebefb00d22348f0a95a8289feb10464", func := "tandem/tandemlaw1.CartSame", spec := "cartSame", apart := false }
def CartSameSaid : Prop := cartSameRow.holds Try.pinned (OpenSpec.ofChange cartSameSpec)

/-- ITS FALSE NEIGHBOUR: 'it returns false'. Refute it at one input. -/
def cartSameWrong : ChangeSpec := { name := "cartSame", fn := fun _ => fun
  | [d1, d2, d3, d4] => { results := [.lit (.bool false)], args := [d1, d2, d3, d4] }
  | _ => none }
def CartSameWrongFalsely : Prop := cartSameRow.holds Try.pinned (OpenSpec.ofChange cartSameWrong)

/- THE SECOND FORM. 'bulk': how many values and letters a reading holds, each counted each time it is reached (what is shared counts as often as it is met; a slice's spare places count too). A statement '..UptoSaid' is the law's where the arguments, and the package variables that the reading takes, are together of bulk at most 1048576: NARROWER than '..Said'. Prove '..Said' where nothing that the law and all that it calls make is longer than what came in: it says more and counts as full. Else prove '..UptoSaid'. A law counts once. -/
mutual
def uptoBulk {H : Type} : DataW H → Nat
  | .lit (.string bytes) => bytes.length + 1
  | .lit _ => 1
  | .nil => 1
  | .ptr d => uptoBulk d + 1
  | .slice elems spare => uptoBulkAll elems + uptoBulkAll spare + 1
  | .agg parts => uptoBulkAll parts + 1
  | .iface _ d => uptoBulk d + 1
  | .map entries => uptoBulkEntries entries + 1
  | .held _ => 1
def uptoBulkAll {H : Type} : List (DataW H) → Nat
  | [] => 0
  | d :: r => uptoBulk d + uptoBulkAll r
def uptoBulkEntries {H : Type} : List (Lit × DataW H) → Nat
  | [] => 0
  | x :: r => uptoBulkEntry x + uptoBulkEntries r
def uptoBulkEntry {H : Type} : Lit × DataW H → Nat
  | (.string bytes, d) => bytes.length + uptoBulk d + 1
  | (_, d) => uptoBulk d + 1
 end
def uptoSmall : (H : Type) → List (DataW H) → Bool := fun _ ds => decide (uptoBulkAll ds ≤ 1048576)
def OpenSpec.upto (s : _root_.Go.ChangeSpec) : _root_.Go.OpenSpec := { _root_.Go.OpenSpec.ofChange s with cond := some uptoSmall }

/-- 'tandemlaw1.CartCrc', WHERE WHAT IT READS IS OF BULK AT MOST 1048576: true; the input reads as it did. -/
def cartCrcUptoRow : OpenClaim := { program := "ytlhbolejnjbfdaa", sum := "bbd4c4695d24a4afa3bc6ba4434393a0aebefb00d22348f0a95a8289feb10464", func := "tandem/tandemlaw1.CartCrc", spec := "cartCrc", apart := false, narrowed := true }
def CartCrcUptoSaid : Prop := cartCrcUptoRow.holds Try.pinned (OpenSpec.upto cartCrcSpec)

/-- 'tandemlaw1.CartSums', WHERE WHAT IT READS IS OF BULK AT MOST 1048576: true; the input reads as it did. -/
def cartSumsUptoRow : OpenClaim := { program := "ytlhbolejnjbfdaa", sum := "bbd4c4695d24a4afa3bc6ba4434393a0aebefb00d22348f0a95a8289feb10464", func := "tandem/tandemlaw1.CartSums", spec := "cartSums", apart := false, narrowed := true }
def CartSumsUptoSaid : Prop := cartSumsUptoRow.holds Try.pinned (OpenSpec.upto cartSumsSpec)

/-- 'tandemlaw1.CartSame', WHERE WHAT IT READS IS OF BULK AT MOST 1048576: true; the input reads as it did. -/
def cartSameUptoRow : OpenClaim := { program := "ytlhbolejnjbfdaa", sum := "bbd4c4695d24a4afa3bc6ba4434393a0aebefb00d22348f0a95a8289feb10464", func := "tandem/tandemlaw1.CartSame", spec := "cartSame", apart := false, narrowed := true }
def CartSameUptoSaid : Prop := cartSameUptoRow.holds Try.pinned (OpenSpec.upto cartSameSpec)

end Rows
end Go.Proofs.Ytlhbolejnjbfdaa
