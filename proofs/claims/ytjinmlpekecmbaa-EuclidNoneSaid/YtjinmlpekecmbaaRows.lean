/-
  No cell of these rows narrows 'for every input' (looked for: loops, veiled, ifaces, maps, wideKeys, modest, calm, conditions, laid).
  DERIVED. THE GIVEN ROWS OF THIS SEAT. 6 by the template 'for every input the law returns true; each argument reads behind the call as it read before'; 0 by the template 'total and deterministic' (their statements: YtjinmlpekecmbaaTotals.lean).
  GIVEN WITH THE SEED: the statements are not yours to turn. If you find one false, say at which input.
  Laid BY PROGRAM, IN A SANDBOX (cutbox-rows.mjs): the forced cells as the released guide's own fill.sh prints them over the translation a9a2fde24eb7ff8b… (all of the seat's roots in one cut). By AI agents, Wed Nov 11 2026. No macro, syntax, notation, axiom, sorry.
-/
import Derived.Test.YtjinmlpekecmbaaChecked
import GoSem.Claim
import GoSem.ClaimJoined
import GoSem.ClaimMapViews
import Derived.JoinedTies
import Derived.KernelRfl
namespace Go.Proofs.Ytjinmlpekecmbaa
/- THE CELL 'sum', in the pinned program and in every row, IS THE sha256 OF THE DUMP (.gsa) THAT YtjinmlpekecmbaaProg.lean LOADS. Nothing in Lean hashes anything: it is a label: what it is worth is what the hold of that sum in a sandbox is worth. -/
noncomputable def Try.pinned : Pinned := { name := "ytjinmlpekecmbaa", sum := "a9a2fde24eb7ff8bf59d18cca26a8694fd642737dd62aea118ae68378229e22a", checked := Try.checked }
namespace Rows
def none {H : Type} : Left H := { results := [], args := [] }

/-- 'sequiturlaw29.EuclidChecks': WHATEVER THE INPUT: true; the input reads as it did. -/
def euclidChecksSpec : ChangeSpec := { name := "euclidChecks", fn := fun _ => fun
  | [d1, d2, d3] => { results := [.lit (.bool true)], args := [d1, d2, d3] }
  | _ => none }
def euclidChecksRow : OpenClaim := { program := "ytjinmlpekecmbaa", sum := "a9a2fde24eb7ff8bf59d18cca26a8694fd642737dd62aea118ae68378229e22a", func := "sequitur/sequiturlaw29.EuclidChecks", spec := "euclidChecks", inPlace := ["math/bits.Add64"], unfollowed := true, recurses := true, apart := false }
def EuclidChecksSaid : Prop := euclidChecksRow.holds Try.pinned (OpenSpec.ofChange euclidChecksSpec)

/-- ITS FALSE NEIGHBOUR: 'it returns false'. Refute it at one input. -/
def euclidChecksWrong : ChangeSpec := { name := "euclidChecks", fn := fun _ => fun
  | [d1, d2, d3] => { results := [.lit (.bool false)], args := [d1, d2, d3] }
  | _ => none }
def EuclidChecksWrongFalsely : Prop := euclidChecksRow.holds Try.pinned (OpenSpec.ofChange euclidChecksWrong)

/-- 'sequiturlaw29.EuclidAll': WHATEVER THE INPUT: true; the input reads as it did. -/
def euclidAllSpec : ChangeSpec := { name := "euclidAll", fn := fun _ => fun
  | [d1, d2] => { results := [.lit (.bool true)], args := [d1, d2] }
  | _ => none }
def euclidAllRow : OpenClaim := { program := "ytjinmlpekecmbaa", sum := "a9a2fde24eb7ff8bf59d18cca26a8694fd642737dd62aea118ae68378229e22a", func := "sequitur/sequiturlaw29.EuclidAll", spec := "euclidAll", inPlace := ["math/bits.Add64"], unfollowed := true, recurses := true, apart := false }
def EuclidAllSaid : Prop := euclidAllRow.holds Try.pinned (OpenSpec.ofChange euclidAllSpec)

/-- ITS FALSE NEIGHBOUR: 'it returns false'. Refute it at one input. -/
def euclidAllWrong : ChangeSpec := { name := "euclidAll", fn := fun _ => fun
  | [d1, d2] => { results := [.lit (.bool false)], args := [d1, d2] }
  | _ => none }
def EuclidAllWrongFalsely : Prop := euclidAllRow.holds Try.pinned (OpenSpec.ofChange euclidAllWrong)

/-- 'sequiturlaw29.EuclidErrors': WHATEVER THE INPUT: true; the input reads as it did. -/
def euclidErrorsSpec : ChangeSpec := { name := "euclidErrors", fn := fun _ => fun
  | [d1, d2] => { results := [.lit (.bool true)], args := [d1, d2] }
  | _ => none }
def euclidErrorsRow : OpenClaim := { program := "ytjinmlpekecmbaa", sum := "a9a2fde24eb7ff8bf59d18cca26a8694fd642737dd62aea118ae68378229e22a", func := "sequitur/sequiturlaw29.EuclidErrors", spec := "euclidErrors", inPlace := ["math/bits.Add64"], unfollowed := true, recurses := true, apart := false }
def EuclidErrorsSaid : Prop := euclidErrorsRow.holds Try.pinned (OpenSpec.ofChange euclidErrorsSpec)

/-- ITS FALSE NEIGHBOUR: 'it returns false'. Refute it at one input. -/
def euclidErrorsWrong : ChangeSpec := { name := "euclidErrors", fn := fun _ => fun
  | [d1, d2] => { results := [.lit (.bool false)], args := [d1, d2] }
  | _ => none }
def EuclidErrorsWrongFalsely : Prop := euclidErrorsRow.holds Try.pinned (OpenSpec.ofChange euclidErrorsWrong)

/-- 'sequiturlaw29.EuclidNone': WHATEVER THE INPUT: true; the input reads as it did. -/
def euclidNoneSpec : ChangeSpec := { name := "euclidNone", fn := fun _ => fun
  | [d1, d2, d3, d4] => { results := [.lit (.bool true)], args := [d1, d2, d3, d4] }
  | _ => none }
def euclidNoneRow : OpenClaim := { program := "ytjinmlpekecmbaa", sum := "a9a2fde24eb7ff8bf59d18cca26a8694fd642737dd62aea118ae68378229e22a", func := "sequitur/sequiturlaw29.EuclidNone", spec := "euclidNone", inPlace := ["math/bits.Add64"], unfollowed := true, recurses := true, apart := false }
def EuclidNoneSaid : Prop := euclidNoneRow.holds Try.pinned (OpenSpec.ofChange euclidNoneSpec)

/-- ITS FALSE NEIGHBOUR: 'it returns false'. Refute it at one input. -/
def euclidNoneWrong : ChangeSpec := { name := "euclidNone", fn := fun _ => fun
  | [d1, d2, d3, d4] => { results := [.lit (.bool false)], args := [d1, d2, d3, d4] }
  | _ => none }
def EuclidNoneWrongFalsely : Prop := euclidNoneRow.holds Try.pinned (OpenSpec.ofChange euclidNoneWrong)

/-- 'sequiturlaw29.EuclidPoints': WHATEVER THE INPUT: true; the input reads as it did. -/
def euclidPointsSpec : ChangeSpec := { name := "euclidPoints", fn := fun _ => fun
  | [d1, d2] => { results := [.lit (.bool true)], args := [d1, d2] }
  | _ => none }
def euclidPointsRow : OpenClaim := { program := "ytjinmlpekecmbaa", sum := "a9a2fde24eb7ff8bf59d18cca26a8694fd642737dd62aea118ae68378229e22a", func := "sequitur/sequiturlaw29.EuclidPoints", spec := "euclidPoints", inPlace := ["math/bits.Add64"], unfollowed := true, recurses := true, apart := false }
def EuclidPointsSaid : Prop := euclidPointsRow.holds Try.pinned (OpenSpec.ofChange euclidPointsSpec)

/-- ITS FALSE NEIGHBOUR: 'it returns false'. Refute it at one input. -/
def euclidPointsWrong : ChangeSpec := { name := "euclidPoints", fn := fun _ => fun
  | [d1, d2] => { results := [.lit (.bool false)], args := [d1, d2] }
  | _ => none }
def EuclidPointsWrongFalsely : Prop := euclidPointsRow.holds Try.pinned (OpenSpec.ofChange euclidPointsWrong)

/-- 'sequiturlaw29.EuclidSolves': WHATEVER THE INPUT: true; the input reads as it did. -/
def euclidSolvesSpec : ChangeSpec := { name := "euclidSolves", fn := fun _ => fun
  | [d1, d2, d3] => { results := [.lit (.bool true)], args := [d1, d2, d3] }
  | _ => none }
def euclidSolvesRow : OpenClaim := { program := "ytjinmlpekecmbaa", sum := "a9a2fde24eb7ff8bf59d18cca26a8694fd642737dd62aea118ae68378229e22a", func := "sequitur/sequiturlaw29.EuclidSolves", spec := "euclidSolves", inPlace := ["math/bits.Add64"], unfollowed := true, recurses := true, apart := false }
def EuclidSolvesSaid : Prop := euclidSolvesRow.holds Try.pinned (OpenSpec.ofChange euclidSolvesSpec)

/-- ITS FALSE NEIGHBOUR: 'it returns false'. Refute it at one input. -/
def euclidSolvesWrong : ChangeSpec := { name := "euclidSolves", fn := fun _ => fun
  | [d1, d2, d3] => { results := [.lit (.bool false)], args := [d1, d2, d3] }
  | _ => none }
def EuclidSolvesWrongFalsely : Prop := euclidSolvesRow.holds Try.pinned (OpenSpec.ofChange euclidSolvesWrong)

/- THE SECOND FORM. 'bulk': how many values and letters a reading holds, each counted each time it is reached (what is shared counts as often as it is met; a slice's spare places count too). A statement '..UptoSaid' is the law's where the arguments, and the package variables that the reading takes, are together of bulk at most 1048576: NARROWER than '..Said'. Prove '..Said' where nothing that the law and all that it calls make is longer than what came in: it says more and counts as full. Else prove '..UptoSaid'. A law counts once. -/
mutual
def uptoBulk {H : Type} : DataW H → Nat
  | .lit (.string bytes) => bytes.length + 1
  | .lit _ => 1
  | .nil => 1
  | .ptr d => uptoBulk d + 1
  | .slice elems spare => uptoBulkAll elems + uptoBulkAll spare + 1
  | .agg parts => uptoBulkAll parts + 1
  | .iface _ d => uptoBulk d + 1
  | .map entries => uptoBulkEntries entries + 1
  | .held _ => 1
def uptoBulkAll {H : Type} : List (DataW H) → Nat
  | [] => 0
  | d :: r => uptoBulk d + uptoBulkAll r
def uptoBulkEntries {H : Type} : List (Lit × DataW H) → Nat
  | [] => 0
  | x :: r => uptoBulkEntry x + uptoBulkEntries r
def uptoBulkEntry {H : Type} : Lit × DataW H → Nat
  | (.string bytes, d) => bytes.length + uptoBulk d + 1
  | (_, d) => uptoBulk d + 1
 end
def uptoSmall : (H : Type) → List (DataW H) → Bool := fun _ ds => decide (uptoBulkAll ds ≤ 1048576)
def OpenSpec.upto (s : _root_.Go.ChangeSpec) : _root_.Go.OpenSpec := { _root_.Go.OpenSpec.ofChange s with cond := some uptoSmall }

/-- 'sequiturlaw29.EuclidChecks', WHERE WHAT IT READS IS OF BULK AT MOST 1048576: true; the input reads as it did. -/
def euclidChecksUptoRow : OpenClaim := { program := "ytjinmlpekecmbaa", sum := "a9a2fde24eb7ff8bf59d18cca26a8694fd642737dd62aea118ae68378229e22a", func := "sequitur/sequiturlaw29.EuclidChecks", spec := "euclidChecks", inPlace := ["math/bits.Add64"], unfollowed := true, recurses := true, apart := false, narrowed := true }
def EuclidChecksUptoSaid : Prop := euclidChecksUptoRow.holds Try.pinned (OpenSpec.upto euclidChecksSpec)

/-- 'sequiturlaw29.EuclidAll', WHERE WHAT IT READS IS OF BULK AT MOST 1048576: true; the input reads as it did. -/
def euclidAllUptoRow : OpenClaim := { program := "ytjinmlpekecmbaa", sum := "a9a2fde24eb7ff8bf59d18cca26a8694fd642737dd62aea118ae68378229e22a", func := "sequitur/sequiturlaw29.EuclidAll", spec := "euclidAll", inPlace := ["math/bits.Add64"], unfollowed := true, recurses := true, apart := false, narrowed := true }
def EuclidAllUptoSaid : Prop := euclidAllUptoRow.holds Try.pinned (OpenSpec.upto euclidAllSpec)

/-- 'sequiturlaw29.EuclidErrors', WHERE WHAT IT READS IS OF BULK AT MOST 1048576: true; the input reads as it did. -/
def euclidErrorsUptoRow : OpenClaim := { program := "ytjinmlpekecmbaa", sum := "a9a2fde24eb7ff8bf59d18cca26a8694fd642737dd62aea118ae68378229e22a", func := "sequitur/sequiturlaw29.EuclidErrors", spec := "euclidErrors", inPlace := ["math/bits.Add64"], unfollowed := true, recurses := true, apart := false, narrowed := true }
def EuclidErrorsUptoSaid : Prop := euclidErrorsUptoRow.holds Try.pinned (OpenSpec.upto euclidErrorsSpec)

/-- 'sequiturlaw29.EuclidNone', WHERE WHAT IT READS IS OF BULK AT MOST 1048576: true; the input reads as it did. -/
def euclidNoneUptoRow : OpenClaim := { program := "ytjinmlpekecmbaa", sum := "a9a2fde24eb7ff8bf59d18cca26a8694fd642737dd62aea118ae68378229e22a", func := "sequitur/sequiturlaw29.EuclidNone", spec := "euclidNone", inPlace := ["math/bits.Add64"], unfollowed := true, recurses := true, apart := false, narrowed := true }
def EuclidNoneUptoSaid : Prop := euclidNoneUptoRow.holds Try.pinned (OpenSpec.upto euclidNoneSpec)

/-- 'sequiturlaw29.EuclidPoints', WHERE WHAT IT READS IS OF BULK AT MOST 1048576: true; the input reads as it did. -/
def euclidPointsUptoRow : OpenClaim := { program := "ytjinmlpekecmbaa", sum := "a9a2fde24eb7ff8bf59d18cca26a8694fd642737dd62aea118ae68378229e22a", func := "sequitur/sequiturlaw29.EuclidPoints", spec := "euclidPoints", inPlace := ["math/bits.Add64"], unfollowed := true, recurses := true, apart := false, narrowed := true }
def EuclidPointsUptoSaid : Prop := euclidPointsUptoRow.holds Try.pinned (OpenSpec.upto euclidPointsSpec)

/-- 'sequiturlaw29.EuclidSolves', WHERE WHAT IT READS IS OF BULK AT MOST 1048576: true; the input reads as it did. -/
def euclidSolvesUptoRow : OpenClaim := { program := "ytjinmlpekecmbaa", sum := "a9a2fde24eb7ff8bf59d18cca26a8694fd642737dd62aea118ae68378229e22a", func := "sequitur/sequiturlaw29.EuclidSolves", spec := "euclidSolves", inPlace := ["math/bits.Add64"], unfollowed := true, recurses := true, apart := false, narrowed := true }
def EuclidSolvesUptoSaid : Prop := euclidSolvesUptoRow.holds Try.pinned (OpenSpec.upto euclidSolvesSpec)

end Rows
end Go.Proofs.Ytjinmlpekecmbaa
