/-
  No cell of these rows narrows 'for every input' (looked for: loops, veiled, ifaces, maps, wideKeys, modest, calm, conditions, laid).
  DERIVED. THE GIVEN ROWS OF THIS SEAT. 6 by the template 'for every input the law returns true; each argument reads behind the call as it read before'; 0 by the template 'total and deterministic' (their statements: YtbgnnpbcifgckaaTotals.lean).
  GIVEN WITH THE SEED: the statements are not yours to turn. If you find one false, say at which input.
  Laid BY PROGRAM, IN A SANDBOX (cutbox-rows.mjs): the forced cells as the released guide's own fill.sh prints them over the translation dd0ccaca2c9a4fc4… (all of the seat's roots in one cut). By AI agents, Wed Nov 11 2026. No macro, syntax, notation, axiom, sorry.
-/
import Derived.Test.YtbgnnpbcifgckaaChecked
import GoSem.Claim
import GoSem.ClaimJoined
import GoSem.ClaimMapViews
import Derived.JoinedTies
import Derived.KernelRfl
namespace Go.Proofs.Ytbgnnpbcifgckaa
/- THE CELL 'sum', in the pinned program and in every row, IS THE sha256 OF THE DUMP (.gsa) THAT YtbgnnpbcifgckaaProg.lean LOADS. Nothing in Lean hashes anything: it is a label: what it is worth is what the hold of that sum in a sandbox is worth. -/
noncomputable def Try.pinned : Pinned := { name := "ytbgnnpbcifgckaa", sum := "dd0ccaca2c9a4fc439c2288f073b07b849dd5506246626e9833325ae58ab54c5", checked := Try.checked }
namespace Rows
def none {H : Type} : Left H := { results := [], args := [] }

/-- 'haruspexlaw15.CircuitChecks': WHATEVER THE INPUT: true; the input reads as it did. -/
def circuitChecksSpec : ChangeSpec := { name := "circuitChecks", fn := fun _ => fun
  | [d1, d2, d3] => { results := [.lit (.bool true)], args := [d1, d2, d3] }
  | _ => none }
def circuitChecksRow : OpenClaim := { program := "ytbgnnpbcifgckaa", sum := "dd0ccaca2c9a4fc439c2288f073b07b849dd5506246626e9833325ae58ab54c5", func := "haruspex/haruspexlaw15.CircuitChecks", spec := "circuitChecks", unfollowed := true, recurses := true, apart := false }
def CircuitChecksSaid : Prop := circuitChecksRow.holds Try.pinned (OpenSpec.ofChange circuitChecksSpec)

/-- ITS FALSE NEIGHBOUR: 'it returns false'. Refute it at one input. -/
def circuitChecksWrong : ChangeSpec := { name := "circuitChecks", fn := fun _ => fun
  | [d1, d2, d3] => { results := [.lit (.bool false)], args := [d1, d2, d3] }
  | _ => none }
def CircuitChecksWrongFalsely : Prop := circuitChecksRow.holds Try.pinned (OpenSpec.ofChange circuitChecksWrong)

/-- 'haruspexlaw15.CircuitEvals': WHATEVER THE INPUT: true; the input reads as it did. -/
def circuitEvalsSpec : ChangeSpec := { name := "circuitEvals", fn := fun _ => fun
  | [d1, d2, d3, d4, d5] => { results := [.lit (.bool true)], args := [d1, d2, d3, d4, d5] }
  | _ => none }
def circuitEvalsRow : OpenClaim := { program := "ytbgnnpbcifgckaa", sum := "dd0ccaca2c9a4fc439c2288f073b07b849dd5506246626e9833325ae58ab54c5", func := "haruspex/haruspexlaw15.CircuitEvals", spec := "circuitEvals", unfollowed := true, recurses := true, apart := false }
def CircuitEvalsSaid : Prop := circuitEvalsRow.holds Try.pinned (OpenSpec.ofChange circuitEvalsSpec)

/-- ITS FALSE NEIGHBOUR: 'it returns false'. Refute it at one input. -/
def circuitEvalsWrong : ChangeSpec := { name := "circuitEvals", fn := fun _ => fun
  | [d1, d2, d3, d4, d5] => { results := [.lit (.bool false)], args := [d1, d2, d3, d4, d5] }
  | _ => none }
def CircuitEvalsWrongFalsely : Prop := circuitEvalsRow.holds Try.pinned (OpenSpec.ofChange circuitEvalsWrong)

/-- 'haruspexlaw15.CircuitDerives': WHATEVER THE INPUT: true; the input reads as it did. -/
def circuitDerivesSpec : ChangeSpec := { name := "circuitDerives", fn := fun _ => fun
  | [d1, d2, d3, d4, d5] => { results := [.lit (.bool true)], args := [d1, d2, d3, d4, d5] }
  | _ => none }
def circuitDerivesRow : OpenClaim := { program := "ytbgnnpbcifgckaa", sum := "dd0ccaca2c9a4fc439c2288f073b07b849dd5506246626e9833325ae58ab54c5", func := "haruspex/haruspexlaw15.CircuitDerives", spec := "circuitDerives", unfollowed := true, recurses := true, apart := false }
def CircuitDerivesSaid : Prop := circuitDerivesRow.holds Try.pinned (OpenSpec.ofChange circuitDerivesSpec)

/-- ITS FALSE NEIGHBOUR: 'it returns false'. Refute it at one input. -/
def circuitDerivesWrong : ChangeSpec := { name := "circuitDerives", fn := fun _ => fun
  | [d1, d2, d3, d4, d5] => { results := [.lit (.bool false)], args := [d1, d2, d3, d4, d5] }
  | _ => none }
def CircuitDerivesWrongFalsely : Prop := circuitDerivesRow.holds Try.pinned (OpenSpec.ofChange circuitDerivesWrong)

/-- 'haruspexlaw15.CircuitAdds': WHATEVER THE INPUT: true; the input reads as it did. -/
def circuitAddsSpec : ChangeSpec := { name := "circuitAdds", fn := fun _ => fun
  | [d1, d2, d3] => { results := [.lit (.bool true)], args := [d1, d2, d3] }
  | _ => none }
def circuitAddsRow : OpenClaim := { program := "ytbgnnpbcifgckaa", sum := "dd0ccaca2c9a4fc439c2288f073b07b849dd5506246626e9833325ae58ab54c5", func := "haruspex/haruspexlaw15.CircuitAdds", spec := "circuitAdds", unfollowed := true, recurses := true, apart := false }
def CircuitAddsSaid : Prop := circuitAddsRow.holds Try.pinned (OpenSpec.ofChange circuitAddsSpec)

/-- ITS FALSE NEIGHBOUR: 'it returns false'. Refute it at one input. -/
def circuitAddsWrong : ChangeSpec := { name := "circuitAdds", fn := fun _ => fun
  | [d1, d2, d3] => { results := [.lit (.bool false)], args := [d1, d2, d3] }
  | _ => none }
def CircuitAddsWrongFalsely : Prop := circuitAddsRow.holds Try.pinned (OpenSpec.ofChange circuitAddsWrong)

/-- 'haruspexlaw15.CircuitGrows': WHATEVER THE INPUT: true; the input reads as it did. -/
def circuitGrowsSpec : ChangeSpec := { name := "circuitGrows", fn := fun _ => fun
  | [d1, d2, d3] => { results := [.lit (.bool true)], args := [d1, d2, d3] }
  | _ => none }
def circuitGrowsRow : OpenClaim := { program := "ytbgnnpbcifgckaa", sum := "dd0ccaca2c9a4fc439c2288f073b07b849dd5506246626e9833325ae58ab54c5", func := "haruspex/haruspexlaw15.CircuitGrows", spec := "circuitGrows", unfollowed := true, recurses := true, apart := false }
def CircuitGrowsSaid : Prop := circuitGrowsRow.holds Try.pinned (OpenSpec.ofChange circuitGrowsSpec)

/-- ITS FALSE NEIGHBOUR: 'it returns false'. Refute it at one input. -/
def circuitGrowsWrong : ChangeSpec := { name := "circuitGrows", fn := fun _ => fun
  | [d1, d2, d3] => { results := [.lit (.bool false)], args := [d1, d2, d3] }
  | _ => none }
def CircuitGrowsWrongFalsely : Prop := circuitGrowsRow.holds Try.pinned (OpenSpec.ofChange circuitGrowsWrong)

/-- 'haruspexlaw15.CircuitKnown': WHATEVER THE INPUT: true; the input reads as it did. -/
def circuitKnownSpec : ChangeSpec := { name := "circuitKnown", fn := fun _ => fun
  | [] => { results := [.lit (.bool true)], args := [] }
  | _ => none }
def circuitKnownRow : OpenClaim := { program := "ytbgnnpbcifgckaa", sum := "dd0ccaca2c9a4fc439c2288f073b07b849dd5506246626e9833325ae58ab54c5", func := "haruspex/haruspexlaw15.CircuitKnown", spec := "circuitKnown", unfollowed := true, recurses := true, apart := false }
def CircuitKnownSaid : Prop := circuitKnownRow.holds Try.pinned (OpenSpec.ofChange circuitKnownSpec)

/-- ITS FALSE NEIGHBOUR: 'it returns false'. Refute it at one input. -/
def circuitKnownWrong : ChangeSpec := { name := "circuitKnown", fn := fun _ => fun
  | [] => { results := [.lit (.bool false)], args := [] }
  | _ => none }
def CircuitKnownWrongFalsely : Prop := circuitKnownRow.holds Try.pinned (OpenSpec.ofChange circuitKnownWrong)

/- THE SECOND FORM. 'bulk': how many values and letters a reading holds, each counted each time it is reached (what is shared counts as often as it is met; a slice's spare places count too). A statement '..UptoSaid' is the law's where the arguments, and the package variables that the reading takes, are together of bulk at most 1048576: NARROWER than '..Said'. Prove '..Said' where nothing that the law and all that it calls make is longer than what came in: it says more and counts as full. Else prove '..UptoSaid'. A law counts once. -/
mutual
def uptoBulk {H : Type} : DataW H → Nat
  | .lit (.string bytes) => bytes.length + 1
  | .lit _ => 1
  | .nil => 1
  | .ptr d => uptoBulk d + 1
  | .slice elems spare => uptoBulkAll elems + uptoBulkAll spare + 1
  | .agg parts => uptoBulkAll parts + 1
  | .iface _ d => uptoBulk d + 1
  | .map entries => uptoBulkEntries entries + 1
  | .held _ => 1
def uptoBulkAll {H : Type} : List (DataW H) → Nat
  | [] => 0
  | d :: r => uptoBulk d + uptoBulkAll r
def uptoBulkEntries {H : Type} : List (Lit × DataW H) → Nat
  | [] => 0
  | x :: r => uptoBulkEntry x + uptoBulkEntries r
def uptoBulkEntry {H : Type} : Lit × DataW H → Nat
  | (.string bytes, d) => bytes.length + uptoBulk d + 1
  | (_, d) => uptoBulk d + 1
 end
def uptoSmall : (H : Type) → List (DataW H) → Bool := fun _ ds => decide (uptoBulkAll ds ≤ 1048576)
def OpenSpec.upto (s : _root_.Go.ChangeSpec) : _root_.Go.OpenSpec := { _root_.Go.OpenSpec.ofChange s with cond := some uptoSmall }

/-- 'haruspexlaw15.CircuitChecks', WHERE WHAT IT READS IS OF BULK AT MOST 1048576: true; the input reads as it did. -/
def circuitChecksUptoRow : OpenClaim := { program := "ytbgnnpbcifgckaa", sum := "dd0ccaca2c9a4fc439c2288f073b07b849dd5506246626e9833325ae58ab54c5", func := "haruspex/haruspexlaw15.CircuitChecks", spec := "circuitChecks", unfollowed := true, recurses := true, apart := false, narrowed := true }
def CircuitChecksUptoSaid : Prop := circuitChecksUptoRow.holds Try.pinned (OpenSpec.upto circuitChecksSpec)

/-- 'haruspexlaw15.CircuitEvals', WHERE WHAT IT READS IS OF BULK AT MOST 1048576: true; the input reads as it did. -/
def circuitEvalsUptoRow : OpenClaim := { program := "ytbgnnpbcifgckaa", sum := "dd0ccaca2c9a4fc439c2288f073b07b849dd5506246626e9833325ae58ab54c5", func := "haruspex/haruspexlaw15.CircuitEvals", spec := "circuitEvals", unfollowed := true, recurses := true, apart := false, narrowed := true }
def CircuitEvalsUptoSaid : Prop := circuitEvalsUptoRow.holds Try.pinned (OpenSpec.upto circuitEvalsSpec)

/-- 'haruspexlaw15.CircuitDerives', WHERE WHAT IT READS IS OF BULK AT MOST 1048576: true; the input reads as it did. -/
def circuitDerivesUptoRow : OpenClaim := { program := "ytbgnnpbcifgckaa", sum := "dd0ccaca2c9a4fc439c2288f073b07b849dd5506246626e9833325ae58ab54c5", func := "haruspex/haruspexlaw15.CircuitDerives", spec := "circuitDerives", unfollowed := true, recurses := true, apart := false, narrowed := true }
def CircuitDerivesUptoSaid : Prop := circuitDerivesUptoRow.holds Try.pinned (OpenSpec.upto circuitDerivesSpec)

/-- 'haruspexlaw15.CircuitAdds', WHERE WHAT IT READS IS OF BULK AT MOST 1048576: true; the input reads as it did. -/
def circuitAddsUptoRow : OpenClaim := { program := "ytbgnnpbcifgckaa", sum := "dd0ccaca2c9a4fc439c2288f073b07b849dd5506246626e9833325ae58ab54c5", func := "haruspex/haruspexlaw15.CircuitAdds", spec := "circuitAdds", unfollowed := true, recurses := true, apart := false, narrowed := true }
def CircuitAddsUptoSaid : Prop := circuitAddsUptoRow.holds Try.pinned (OpenSpec.upto circuitAddsSpec)

/-- 'haruspexlaw15.CircuitGrows', WHERE WHAT IT READS IS OF BULK AT MOST 1048576: true; the input reads as it did. -/
def circuitGrowsUptoRow : OpenClaim := { program := "ytbgnnpbcifgckaa", sum := "dd0ccaca2c9a4fc439c2288f073b07b849dd5506246626e9833325ae58ab54c5", func := "haruspex/haruspexlaw15.CircuitGrows", spec := "circuitGrows", unfollowed := true, recurses := true, apart := false, narrowed := true }
def CircuitGrowsUptoSaid : Prop := circuitGrowsUptoRow.holds Try.pinned (OpenSpec.upto circuitGrowsSpec)

/-- 'haruspexlaw15.CircuitKnown', WHERE WHAT IT READS IS OF BULK AT MOST 1048576: true; the input reads as it did. -/
def circuitKnownUptoRow : OpenClaim := { program := "ytbgnnpbcifgckaa", sum := "dd0ccaca2c9a4fc439c2288f073b07b849dd5506246626e9833325ae58ab54c5", func := "haruspex/haruspexlaw15.CircuitKnown", spec := "circuitKnown", unfollowed := true, recurses := true, apart := false, narrowed := true }
def CircuitKnownUptoSaid : Prop := circuitKnownUptoRow.holds Try.pinned (OpenSpec.upto circuitKnownSpec)

end Rows
end Go.Proofs.Ytbgnnpbcifgckaa
