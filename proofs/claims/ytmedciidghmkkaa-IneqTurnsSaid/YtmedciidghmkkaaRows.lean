/-
  No cell of these rows narrows 'for every input' (looked for: loops, veiled, ifaces, maps, wideKeys, modest, calm, conditions, laid).
  DERIVED. THE GIVEN ROWS OF THIS SEAT. 6 by the template 'for every input the law returns true; each argument reads behind the call as it read before'; 0 by the template 'total and deterministic' (their statements: YtmedciidghmkkaaTotals.lean).
  GIVEN WITH THE SEED: the statements are not yours to turn. If you find one false, say at which input.
  Laid BY PROGRAM, IN A SANDBOX (cutbox-rows.mjs): the forced cells as the released guide's own fill.sh prints them over the translation 35865e0ae0cab959… (all of the seat's roots in one cut). By AI agents, Wed Nov 11 2026. No macro, syntax, notation, axiom, sorry.
-/
import Derived.Test.YtmedciidghmkkaaChecked
import GoSem.Claim
import GoSem.ClaimJoined
import GoSem.ClaimMapViews
import Derived.JoinedTies
import Derived.KernelRfl
namespace Go.Proofs.Ytmedciidghmkkaa
/- THE CELL 'sum', in the pinned program and in every row, IS THE sha256 OF THE DUMP (.gsa) THAT YtmedciidghmkkaaProg.lean LOADS. Nothing in Lean hashes anything: it is a label: what it is worth is what the hold of that sum in a sandbox is worth. -/
noncomputable def Try.pinned : Pinned := { name := "ytmedciidghmkkaa", sum := "35865e0ae0cab9597af2902f80ddb9f9f8dc6c8f6b8c0067e2b2ec19dde1b372", checked := Try.checked }
namespace Rows
def none {H : Type} : Left H := { results := [], args := [] }

/-- 'sequiturlaw28.IneqSums': WHATEVER THE INPUT: true; the input reads as it did. -/
def ineqSumsSpec : ChangeSpec := { name := "ineqSums", fn := fun _ => fun
  | [d1, d2, d3] => { results := [.lit (.bool true)], args := [d1, d2, d3] }
  | _ => none }
def ineqSumsRow : OpenClaim := { program := "ytmedciidghmkkaa", sum := "35865e0ae0cab9597af2902f80ddb9f9f8dc6c8f6b8c0067e2b2ec19dde1b372", func := "sequitur/sequiturlaw28.IneqSums", spec := "ineqSums", inPlace := ["math/bits.Add64"], unfollowed := true, recurses := true, apart := false }
def IneqSumsSaid : Prop := ineqSumsRow.holds Try.pinned (OpenSpec.ofChange ineqSumsSpec)

/-- ITS FALSE NEIGHBOUR: 'it returns false'. Refute it at one input. -/
def ineqSumsWrong : ChangeSpec := { name := "ineqSums", fn := fun _ => fun
  | [d1, d2, d3] => { results := [.lit (.bool false)], args := [d1, d2, d3] }
  | _ => none }
def IneqSumsWrongFalsely : Prop := ineqSumsRow.holds Try.pinned (OpenSpec.ofChange ineqSumsWrong)

/-- 'sequiturlaw28.IneqTight': WHATEVER THE INPUT: true; the input reads as it did. -/
def ineqTightSpec : ChangeSpec := { name := "ineqTight", fn := fun _ => fun
  | [d1, d2] => { results := [.lit (.bool true)], args := [d1, d2] }
  | _ => none }
def ineqTightRow : OpenClaim := { program := "ytmedciidghmkkaa", sum := "35865e0ae0cab9597af2902f80ddb9f9f8dc6c8f6b8c0067e2b2ec19dde1b372", func := "sequitur/sequiturlaw28.IneqTight", spec := "ineqTight", inPlace := ["math/bits.Add64"], unfollowed := true, recurses := true, apart := false }
def IneqTightSaid : Prop := ineqTightRow.holds Try.pinned (OpenSpec.ofChange ineqTightSpec)

/-- ITS FALSE NEIGHBOUR: 'it returns false'. Refute it at one input. -/
def ineqTightWrong : ChangeSpec := { name := "ineqTight", fn := fun _ => fun
  | [d1, d2] => { results := [.lit (.bool false)], args := [d1, d2] }
  | _ => none }
def IneqTightWrongFalsely : Prop := ineqTightRow.holds Try.pinned (OpenSpec.ofChange ineqTightWrong)

/-- 'sequiturlaw28.IneqHolds': WHATEVER THE INPUT: true; the input reads as it did. -/
def ineqHoldsSpec : ChangeSpec := { name := "ineqHolds", fn := fun _ => fun
  | [d1, d2] => { results := [.lit (.bool true)], args := [d1, d2] }
  | _ => none }
def ineqHoldsRow : OpenClaim := { program := "ytmedciidghmkkaa", sum := "35865e0ae0cab9597af2902f80ddb9f9f8dc6c8f6b8c0067e2b2ec19dde1b372", func := "sequitur/sequiturlaw28.IneqHolds", spec := "ineqHolds", inPlace := ["math/bits.Add64"], unfollowed := true, recurses := true, apart := false }
def IneqHoldsSaid : Prop := ineqHoldsRow.holds Try.pinned (OpenSpec.ofChange ineqHoldsSpec)

/-- ITS FALSE NEIGHBOUR: 'it returns false'. Refute it at one input. -/
def ineqHoldsWrong : ChangeSpec := { name := "ineqHolds", fn := fun _ => fun
  | [d1, d2] => { results := [.lit (.bool false)], args := [d1, d2] }
  | _ => none }
def IneqHoldsWrongFalsely : Prop := ineqHoldsRow.holds Try.pinned (OpenSpec.ofChange ineqHoldsWrong)

/-- 'sequiturlaw28.IneqTurns': WHATEVER THE INPUT: true; the input reads as it did. -/
def ineqTurnsSpec : ChangeSpec := { name := "ineqTurns", fn := fun _ => fun
  | [d1, d2] => { results := [.lit (.bool true)], args := [d1, d2] }
  | _ => none }
def ineqTurnsRow : OpenClaim := { program := "ytmedciidghmkkaa", sum := "35865e0ae0cab9597af2902f80ddb9f9f8dc6c8f6b8c0067e2b2ec19dde1b372", func := "sequitur/sequiturlaw28.IneqTurns", spec := "ineqTurns", inPlace := ["math/bits.Add64"], unfollowed := true, recurses := true, apart := false }
def IneqTurnsSaid : Prop := ineqTurnsRow.holds Try.pinned (OpenSpec.ofChange ineqTurnsSpec)

/-- ITS FALSE NEIGHBOUR: 'it returns false'. Refute it at one input. -/
def ineqTurnsWrong : ChangeSpec := { name := "ineqTurns", fn := fun _ => fun
  | [d1, d2] => { results := [.lit (.bool false)], args := [d1, d2] }
  | _ => none }
def IneqTurnsWrongFalsely : Prop := ineqTurnsRow.holds Try.pinned (OpenSpec.ofChange ineqTurnsWrong)

/-- 'sequiturlaw28.IneqSound': WHATEVER THE INPUT: true; the input reads as it did. -/
def ineqSoundSpec : ChangeSpec := { name := "ineqSound", fn := fun _ => fun
  | [d1, d2, d3, d4] => { results := [.lit (.bool true)], args := [d1, d2, d3, d4] }
  | _ => none }
def ineqSoundRow : OpenClaim := { program := "ytmedciidghmkkaa", sum := "35865e0ae0cab9597af2902f80ddb9f9f8dc6c8f6b8c0067e2b2ec19dde1b372", func := "sequitur/sequiturlaw28.IneqSound", spec := "ineqSound", inPlace := ["math/bits.Add64"], unfollowed := true, recurses := true, apart := false }
def IneqSoundSaid : Prop := ineqSoundRow.holds Try.pinned (OpenSpec.ofChange ineqSoundSpec)

/-- ITS FALSE NEIGHBOUR: 'it returns false'. Refute it at one input. -/
def ineqSoundWrong : ChangeSpec := { name := "ineqSound", fn := fun _ => fun
  | [d1, d2, d3, d4] => { results := [.lit (.bool false)], args := [d1, d2, d3, d4] }
  | _ => none }
def IneqSoundWrongFalsely : Prop := ineqSoundRow.holds Try.pinned (OpenSpec.ofChange ineqSoundWrong)

/-- 'sequiturlaw28.IneqEither': WHATEVER THE INPUT: true; the input reads as it did. -/
def ineqEitherSpec : ChangeSpec := { name := "ineqEither", fn := fun _ => fun
  | [d1, d2] => { results := [.lit (.bool true)], args := [d1, d2] }
  | _ => none }
def ineqEitherRow : OpenClaim := { program := "ytmedciidghmkkaa", sum := "35865e0ae0cab9597af2902f80ddb9f9f8dc6c8f6b8c0067e2b2ec19dde1b372", func := "sequitur/sequiturlaw28.IneqEither", spec := "ineqEither", inPlace := ["math/bits.Add64"], unfollowed := true, recurses := true, apart := false }
def IneqEitherSaid : Prop := ineqEitherRow.holds Try.pinned (OpenSpec.ofChange ineqEitherSpec)

/-- ITS FALSE NEIGHBOUR: 'it returns false'. Refute it at one input. -/
def ineqEitherWrong : ChangeSpec := { name := "ineqEither", fn := fun _ => fun
  | [d1, d2] => { results := [.lit (.bool false)], args := [d1, d2] }
  | _ => none }
def IneqEitherWrongFalsely : Prop := ineqEitherRow.holds Try.pinned (OpenSpec.ofChange ineqEitherWrong)

/- THE SECOND FORM. 'bulk': how many values and letters a reading holds, each counted each time it is reached (what is shared counts as often as it is met; a slice's spare places count too). A statement '..UptoSaid' is the law's where the arguments, and the package variables that the reading takes, are together of bulk at most 1048576: NARROWER than '..Said'. Prove '..Said' where nothing that the law and all that it calls make is longer than what came in: it says more and counts as full. Else prove '..UptoSaid'. A law counts once. -/
mutual
def uptoBulk {H : Type} : DataW H → Nat
  | .lit (.string bytes) => bytes.length + 1
  | .lit _ => 1
  | .nil => 1
  | .ptr d => uptoBulk d + 1
  | .slice elems spare => uptoBulkAll elems + uptoBulkAll spare + 1
  | .agg parts => uptoBulkAll parts + 1
  | .iface _ d => uptoBulk d + 1
  | .map entries => uptoBulkEntries entries + 1
  | .held _ => 1
def uptoBulkAll {H : Type} : List (DataW H) → Nat
  | [] => 0
  | d :: r => uptoBulk d + uptoBulkAll r
def uptoBulkEntries {H : Type} : List (Lit × DataW H) → Nat
  | [] => 0
  | x :: r => uptoBulkEntry x + uptoBulkEntries r
def uptoBulkEntry {H : Type} : Lit × DataW H → Nat
  | (.string bytes, d) => bytes.length + uptoBulk d + 1
  | (_, d) => uptoBulk d + 1
 end
def uptoSmall : (H : Type) → List (DataW H) → Bool := fun _ ds => decide (uptoBulkAll ds ≤ 1048576)
def OpenSpec.upto (s : _root_.Go.ChangeSpec) : _root_.Go.OpenSpec := { _root_.Go.OpenSpec.ofChange s with cond := some uptoSmall }

/-- 'sequiturlaw28.IneqSums', WHERE WHAT IT READS IS OF BULK AT MOST 1048576: true; the input reads as it did. -/
def ineqSumsUptoRow : OpenClaim := { program := "ytmedciidghmkkaa", sum := "35865e0ae0cab9597af2902f80ddb9f9f8dc6c8f6b8c0067e2b2ec19dde1b372", func := "sequitur/sequiturlaw28.IneqSums", spec := "ineqSums", inPlace := ["math/bits.Add64"], unfollowed := true, recurses := true, apart := false, narrowed := true }
def IneqSumsUptoSaid : Prop := ineqSumsUptoRow.holds Try.pinned (OpenSpec.upto ineqSumsSpec)

/-- 'sequiturlaw28.IneqTight', WHERE WHAT IT READS IS OF BULK AT MOST 1048576: true; the input reads as it did. -/
def ineqTightUptoRow : OpenClaim := { program := "ytmedciidghmkkaa", sum := "35865e0ae0cab9597af2902f80ddb9f9f8dc6c8f6b8c0067e2b2ec19dde1b372", func := "sequitur/sequiturlaw28.IneqTight", spec := "ineqTight", inPlace := ["math/bits.Add64"], unfollowed := true, recurses := true, apart := false, narrowed := true }
def IneqTightUptoSaid : Prop := ineqTightUptoRow.holds Try.pinned (OpenSpec.upto ineqTightSpec)

/-- 'sequiturlaw28.IneqHolds', WHERE WHAT IT READS IS OF BULK AT MOST 1048576: true; the input reads as it did. -/
def ineqHoldsUptoRow : OpenClaim := { program := "ytmedciidghmkkaa", sum := "35865e0ae0cab9597af2902f80ddb9f9f8dc6c8f6b8c0067e2b2ec19dde1b372", func := "sequitur/sequiturlaw28.IneqHolds", spec := "ineqHolds", inPlace := ["math/bits.Add64"], unfollowed := true, recurses := true, apart := false, narrowed := true }
def IneqHoldsUptoSaid : Prop := ineqHoldsUptoRow.holds Try.pinned (OpenSpec.upto ineqHoldsSpec)

/-- 'sequiturlaw28.IneqTurns', WHERE WHAT IT READS IS OF BULK AT MOST 1048576: true; the input reads as it did. -/
def ineqTurnsUptoRow : OpenClaim := { program := "ytmedciidghmkkaa", sum := "35865e0ae0cab9597af2902f80ddb9f9f8dc6c8f6b8c0067e2b2ec19dde1b372", func := "sequitur/sequiturlaw28.IneqTurns", spec := "ineqTurns", inPlace := ["math/bits.Add64"], unfollowed := true, recurses := true, apart := false, narrowed := true }
def IneqTurnsUptoSaid : Prop := ineqTurnsUptoRow.holds Try.pinned (OpenSpec.upto ineqTurnsSpec)

/-- 'sequiturlaw28.IneqSound', WHERE WHAT IT READS IS OF BULK AT MOST 1048576: true; the input reads as it did. -/
def ineqSoundUptoRow : OpenClaim := { program := "ytmedciidghmkkaa", sum := "35865e0ae0cab9597af2902f80ddb9f9f8dc6c8f6b8c0067e2b2ec19dde1b372", func := "sequitur/sequiturlaw28.IneqSound", spec := "ineqSound", inPlace := ["math/bits.Add64"], unfollowed := true, recurses := true, apart := false, narrowed := true }
def IneqSoundUptoSaid : Prop := ineqSoundUptoRow.holds Try.pinned (OpenSpec.upto ineqSoundSpec)

/-- 'sequiturlaw28.IneqEither', WHERE WHAT IT READS IS OF BULK AT MOST 1048576: true; the input reads as it did. -/
def ineqEitherUptoRow : OpenClaim := { program := "ytmedciidghmkkaa", sum := "35865e0ae0cab9597af2902f80ddb9f9f8dc6c8f6b8c0067e2b2ec19dde1b372", func := "sequitur/sequiturlaw28.IneqEither", spec := "ineqEither", inPlace := ["math/bits.Add64"], unfollowed := true, recurses := true, apart := false, narrowed := true }
def IneqEitherUptoSaid : Prop := ineqEitherUptoRow.holds Try.pinned (OpenSpec.upto ineqEitherSpec)

end Rows
end Go.Proofs.Ytmedciidghmkkaa
