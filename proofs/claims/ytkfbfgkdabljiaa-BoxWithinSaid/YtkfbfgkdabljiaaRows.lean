/-
  No cell of these rows narrows 'for every input' (looked for: loops, veiled, ifaces, maps, wideKeys, modest, calm, conditions, laid).
  DERIVED. THE GIVEN ROWS OF THIS SEAT. 9 by the template 'for every input the law returns true; each argument reads behind the call as it read before'; 0 by the template 'total and deterministic' (their statements: YtkfbfgkdabljiaaTotals.lean).
  GIVEN WITH THE SEED: the statements are not yours to turn. If you find one false, say at which input.
  Laid BY PROGRAM, IN A SANDBOX (cutbox-rows.mjs): the forced cells as the released guide's own fill.sh prints them over the translation 210d46cfccfc256d… (all of the seat's roots in one cut). By AI agents, Wed Nov 11 2026. No macro, syntax, notation, axiom, sorry.
-/
import Derived.Test.YtkfbfgkdabljiaaChecked
import GoSem.Claim
import GoSem.ClaimJoined
import GoSem.ClaimMapViews
import Derived.JoinedTies
import Derived.KernelRfl
namespace Go.Proofs.Ytkfbfgkdabljiaa
/- THE CELL 'sum', in the pinned program and in every row, IS THE sha256 OF THE DUMP (.gsa) THAT YtkfbfgkdabljiaaProg.lean LOADS. Nothing in Lean hashes anything: it is a label: what it is worth is what the hold of that sum in a sandbox is worth. -/
noncomputable def Try.pinned : Pinned := { name := "ytkfbfgkdabljiaa", sum := "210d46cfccfc256ddbceea17cd5b66b9e94d8315aa97076d4776ecb257727295", checked := Try.checked }
namespace Rows
def none {H : Type} : Left H := { results := [], args := [] }

/-- 'sequiturlaw30.ShadowCasts': WHATEVER THE INPUT: true; the input reads as it did. -/
def shadowCastsSpec : ChangeSpec := { name := "shadowCasts", fn := fun _ => fun
  | [d1, d2] => { results := [.lit (.bool true)], args := [d1, d2] }
  | _ => none }
def shadowCastsRow : OpenClaim := { program := "ytkfbfgkdabljiaa", sum := "210d46cfccfc256ddbceea17cd5b66b9e94d8315aa97076d4776ecb257727295", func := "sequitur/sequiturlaw30.ShadowCasts", spec := "shadowCasts", inPlace := ["math/bits.Add64", "math/bits.Sub64"], unfollowed := true, recurses := true, apart := false }
def ShadowCastsSaid : Prop := shadowCastsRow.holds Try.pinned (OpenSpec.ofChange shadowCastsSpec)

/-- ITS FALSE NEIGHBOUR: 'it returns false'. Refute it at one input. -/
def shadowCastsWrong : ChangeSpec := { name := "shadowCasts", fn := fun _ => fun
  | [d1, d2] => { results := [.lit (.bool false)], args := [d1, d2] }
  | _ => none }
def ShadowCastsWrongFalsely : Prop := shadowCastsRow.holds Try.pinned (OpenSpec.ofChange shadowCastsWrong)

/-- 'sequiturlaw32.BoxFinds': WHATEVER THE INPUT: true; the input reads as it did. -/
def boxFindsSpec : ChangeSpec := { name := "boxFinds", fn := fun _ => fun
  | [d1, d2, d3] => { results := [.lit (.bool true)], args := [d1, d2, d3] }
  | _ => none }
def boxFindsRow : OpenClaim := { program := "ytkfbfgkdabljiaa", sum := "210d46cfccfc256ddbceea17cd5b66b9e94d8315aa97076d4776ecb257727295", func := "sequitur/sequiturlaw32.BoxFinds", spec := "boxFinds", inPlace := ["math/bits.Add64"], unfollowed := true, recurses := true, apart := false }
def BoxFindsSaid : Prop := boxFindsRow.holds Try.pinned (OpenSpec.ofChange boxFindsSpec)

/-- ITS FALSE NEIGHBOUR: 'it returns false'. Refute it at one input. -/
def boxFindsWrong : ChangeSpec := { name := "boxFinds", fn := fun _ => fun
  | [d1, d2, d3] => { results := [.lit (.bool false)], args := [d1, d2, d3] }
  | _ => none }
def BoxFindsWrongFalsely : Prop := boxFindsRow.holds Try.pinned (OpenSpec.ofChange boxFindsWrong)

/-- 'sequiturlaw32.BoxPoints': WHATEVER THE INPUT: true; the input reads as it did. -/
def boxPointsSpec : ChangeSpec := { name := "boxPoints", fn := fun _ => fun
  | [d1, d2, d3] => { results := [.lit (.bool true)], args := [d1, d2, d3] }
  | _ => none }
def boxPointsRow : OpenClaim := { program := "ytkfbfgkdabljiaa", sum := "210d46cfccfc256ddbceea17cd5b66b9e94d8315aa97076d4776ecb257727295", func := "sequitur/sequiturlaw32.BoxPoints", spec := "boxPoints", inPlace := ["math/bits.Add64"], unfollowed := true, recurses := true, apart := false }
def BoxPointsSaid : Prop := boxPointsRow.holds Try.pinned (OpenSpec.ofChange boxPointsSpec)

/-- ITS FALSE NEIGHBOUR: 'it returns false'. Refute it at one input. -/
def boxPointsWrong : ChangeSpec := { name := "boxPoints", fn := fun _ => fun
  | [d1, d2, d3] => { results := [.lit (.bool false)], args := [d1, d2, d3] }
  | _ => none }
def BoxPointsWrongFalsely : Prop := boxPointsRow.holds Try.pinned (OpenSpec.ofChange boxPointsWrong)

/-- 'sequiturlaw32.BoxFirst': WHATEVER THE INPUT: true; the input reads as it did. -/
def boxFirstSpec : ChangeSpec := { name := "boxFirst", fn := fun _ => fun
  | [d1, d2, d3] => { results := [.lit (.bool true)], args := [d1, d2, d3] }
  | _ => none }
def boxFirstRow : OpenClaim := { program := "ytkfbfgkdabljiaa", sum := "210d46cfccfc256ddbceea17cd5b66b9e94d8315aa97076d4776ecb257727295", func := "sequitur/sequiturlaw32.BoxFirst", spec := "boxFirst", inPlace := ["math/bits.Add64"], unfollowed := true, recurses := true, apart := false }
def BoxFirstSaid : Prop := boxFirstRow.holds Try.pinned (OpenSpec.ofChange boxFirstSpec)

/-- ITS FALSE NEIGHBOUR: 'it returns false'. Refute it at one input. -/
def boxFirstWrong : ChangeSpec := { name := "boxFirst", fn := fun _ => fun
  | [d1, d2, d3] => { results := [.lit (.bool false)], args := [d1, d2, d3] }
  | _ => none }
def BoxFirstWrongFalsely : Prop := boxFirstRow.holds Try.pinned (OpenSpec.ofChange boxFirstWrong)

/-- 'sequiturlaw30.ShadowBetween': WHATEVER THE INPUT: true; the input reads as it did. -/
def shadowBetweenSpec : ChangeSpec := { name := "shadowBetween", fn := fun _ => fun
  | [d1, d2, d3] => { results := [.lit (.bool true)], args := [d1, d2, d3] }
  | _ => none }
def shadowBetweenRow : OpenClaim := { program := "ytkfbfgkdabljiaa", sum := "210d46cfccfc256ddbceea17cd5b66b9e94d8315aa97076d4776ecb257727295", func := "sequitur/sequiturlaw30.ShadowBetween", spec := "shadowBetween", inPlace := ["math/bits.Add64", "math/bits.Sub64"], unfollowed := true, recurses := true, apart := false }
def ShadowBetweenSaid : Prop := shadowBetweenRow.holds Try.pinned (OpenSpec.ofChange shadowBetweenSpec)

/-- ITS FALSE NEIGHBOUR: 'it returns false'. Refute it at one input. -/
def shadowBetweenWrong : ChangeSpec := { name := "shadowBetween", fn := fun _ => fun
  | [d1, d2, d3] => { results := [.lit (.bool false)], args := [d1, d2, d3] }
  | _ => none }
def ShadowBetweenWrongFalsely : Prop := shadowBetweenRow.holds Try.pinned (OpenSpec.ofChange shadowBetweenWrong)

/-- 'sequiturlaw30.ShadowSplits': WHATEVER THE INPUT: true; the input reads as it did. -/
def shadowSplitsSpec : ChangeSpec := { name := "shadowSplits", fn := fun _ => fun
  | [d1, d2] => { results := [.lit (.bool true)], args := [d1, d2] }
  | _ => none }
def shadowSplitsRow : OpenClaim := { program := "ytkfbfgkdabljiaa", sum := "210d46cfccfc256ddbceea17cd5b66b9e94d8315aa97076d4776ecb257727295", func := "sequitur/sequiturlaw30.ShadowSplits", spec := "shadowSplits", inPlace := ["math/bits.Add64", "math/bits.Sub64"], unfollowed := true, recurses := true, apart := false }
def ShadowSplitsSaid : Prop := shadowSplitsRow.holds Try.pinned (OpenSpec.ofChange shadowSplitsSpec)

/-- ITS FALSE NEIGHBOUR: 'it returns false'. Refute it at one input. -/
def shadowSplitsWrong : ChangeSpec := { name := "shadowSplits", fn := fun _ => fun
  | [d1, d2] => { results := [.lit (.bool false)], args := [d1, d2] }
  | _ => none }
def ShadowSplitsWrongFalsely : Prop := shadowSplitsRow.holds Try.pinned (OpenSpec.ofChange shadowSplitsWrong)

/-- 'sequiturlaw30.ShadowHolds': WHATEVER THE INPUT: true; the input reads as it did. -/
def shadowHoldsSpec : ChangeSpec := { name := "shadowHolds", fn := fun _ => fun
  | [d1, d2] => { results := [.lit (.bool true)], args := [d1, d2] }
  | _ => none }
def shadowHoldsRow : OpenClaim := { program := "ytkfbfgkdabljiaa", sum := "210d46cfccfc256ddbceea17cd5b66b9e94d8315aa97076d4776ecb257727295", func := "sequitur/sequiturlaw30.ShadowHolds", spec := "shadowHolds", inPlace := ["math/bits.Add64", "math/bits.Sub64"], unfollowed := true, recurses := true, apart := false }
def ShadowHoldsSaid : Prop := shadowHoldsRow.holds Try.pinned (OpenSpec.ofChange shadowHoldsSpec)

/-- ITS FALSE NEIGHBOUR: 'it returns false'. Refute it at one input. -/
def shadowHoldsWrong : ChangeSpec := { name := "shadowHolds", fn := fun _ => fun
  | [d1, d2] => { results := [.lit (.bool false)], args := [d1, d2] }
  | _ => none }
def ShadowHoldsWrongFalsely : Prop := shadowHoldsRow.holds Try.pinned (OpenSpec.ofChange shadowHoldsWrong)

/-- 'sequiturlaw30.ShadowDark': WHATEVER THE INPUT: true; the input reads as it did. -/
def shadowDarkSpec : ChangeSpec := { name := "shadowDark", fn := fun _ => fun
  | [d1, d2] => { results := [.lit (.bool true)], args := [d1, d2] }
  | _ => none }
def shadowDarkRow : OpenClaim := { program := "ytkfbfgkdabljiaa", sum := "210d46cfccfc256ddbceea17cd5b66b9e94d8315aa97076d4776ecb257727295", func := "sequitur/sequiturlaw30.ShadowDark", spec := "shadowDark", inPlace := ["math/bits.Add64", "math/bits.Sub64"], unfollowed := true, recurses := true, apart := false }
def ShadowDarkSaid : Prop := shadowDarkRow.holds Try.pinned (OpenSpec.ofChange shadowDarkSpec)

/-- ITS FALSE NEIGHBOUR: 'it returns false'. Refute it at one input. -/
def shadowDarkWrong : ChangeSpec := { name := "shadowDark", fn := fun _ => fun
  | [d1, d2] => { results := [.lit (.bool false)], args := [d1, d2] }
  | _ => none }
def ShadowDarkWrongFalsely : Prop := shadowDarkRow.holds Try.pinned (OpenSpec.ofChange shadowDarkWrong)

/-- 'sequiturlaw32.BoxWithin': WHATEVER THE INPUT: true; the input reads as it did. -/
def boxWithinSpec : ChangeSpec := { name := "boxWithin", fn := fun _ => fun
  | [d1, d2, d3] => { results := [.lit (.bool true)], args := [d1, d2, d3] }
  | _ => none }
def boxWithinRow : OpenClaim := { program := "ytkfbfgkdabljiaa", sum := "210d46cfccfc256ddbceea17cd5b66b9e94d8315aa97076d4776ecb257727295", func := "sequitur/sequiturlaw32.BoxWithin", spec := "boxWithin", inPlace := ["math/bits.Add64"], unfollowed := true, recurses := true, apart := false }
def BoxWithinSaid : Prop := boxWithinRow.holds Try.pinned (OpenSpec.ofChange boxWithinSpec)

/-- ITS FALSE NEIGHBOUR: 'it returns false'. Refute it at one input. -/
def boxWithinWrong : ChangeSpec := { name := "boxWithin", fn := fun _ => fun
  | [d1, d2, d3] => { results := [.lit (.bool false)], args := [d1, d2, d3] }
  | _ => none }
def BoxWithinWrongFalsely : Prop := boxWithinRow.holds Try.pinned (OpenSpec.ofChange boxWithinWrong)

/- THE SECOND FORM. 'bulk': how many values and letters a reading holds, each counted each time it is reached (what is shared counts as often as it is met; a slice's spare places count too). A statement '..UptoSaid' is the law's where the arguments, and the package variables that the reading takes, are together of bulk at most 1048576: NARROWER than '..Said'. Prove '..Said' where nothing that the law and all that it calls make is longer than what came in: it says more and counts as full. Else prove '..UptoSaid'. A law counts once. -/
mutual
def uptoBulk {H : Type} : DataW H → Nat
  | .lit (.string bytes) => bytes.length + 1
  | .lit _ => 1
  | .nil => 1
  | .ptr d => uptoBulk d + 1
  | .slice elems spare => uptoBulkAll elems + uptoBulkAll spare + 1
  | .agg parts => uptoBulkAll parts + 1
  | .iface _ d => uptoBulk d + 1
  | .map entries => uptoBulkEntries entries + 1
  | .held _ => 1
def uptoBulkAll {H : Type} : List (DataW H) → Nat
  | [] => 0
  | d :: r => uptoBulk d + uptoBulkAll r
def uptoBulkEntries {H : Type} : List (Lit × DataW H) → Nat
  | [] => 0
  | x :: r => uptoBulkEntry x + uptoBulkEntries r
def uptoBulkEntry {H : Type} : Lit × DataW H → Nat
  | (.string bytes, d) => bytes.length + uptoBulk d + 1
  | (_, d) => uptoBulk d + 1
 end
def uptoSmall : (H : Type) → List (DataW H) → Bool := fun _ ds => decide (uptoBulkAll ds ≤ 1048576)
def OpenSpec.upto (s : _root_.Go.ChangeSpec) : _root_.Go.OpenSpec := { _root_.Go.OpenSpec.ofChange s with cond := some uptoSmall }

/-- 'sequiturlaw30.ShadowCasts', WHERE WHAT IT READS IS OF BULK AT MOST 1048576: true; the input reads as it did. -/
def shadowCastsUptoRow : OpenClaim := { program := "ytkfbfgkdabljiaa", sum := "210d46cfccfc256ddbceea17cd5b66b9e94d8315aa97076d4776ecb257727295", func := "sequitur/sequiturlaw30.ShadowCasts", spec := "shadowCasts", inPlace := ["math/bits.Add64", "math/bits.Sub64"], unfollowed := true, recurses := true, apart := false, narrowed := true }
def ShadowCastsUptoSaid : Prop := shadowCastsUptoRow.holds Try.pinned (OpenSpec.upto shadowCastsSpec)

/-- 'sequiturlaw32.BoxFinds', WHERE WHAT IT READS IS OF BULK AT MOST 1048576: true; the input reads as it did. -/
def boxFindsUptoRow : OpenClaim := { program := "ytkfbfgkdabljiaa", sum := "210d46cfccfc256ddbceea17cd5b66b9e94d8315aa97076d4776ecb257727295", func := "sequitur/sequiturlaw32.BoxFinds", spec := "boxFinds", inPlace := ["math/bits.Add64"], unfollowed := true, recurses := true, apart := false, narrowed := true }
def BoxFindsUptoSaid : Prop := boxFindsUptoRow.holds Try.pinned (OpenSpec.upto boxFindsSpec)

/-- 'sequiturlaw32.BoxPoints', WHERE WHAT IT READS IS OF BULK AT MOST 1048576: true; the input reads as it did. -/
def boxPointsUptoRow : OpenClaim := { program := "ytkfbfgkdabljiaa", sum := "210d46cfccfc256ddbceea17cd5b66b9e94d8315aa97076d4776ecb257727295", func := "sequitur/sequiturlaw32.BoxPoints", spec := "boxPoints", inPlace := ["math/bits.Add64"], unfollowed := true, recurses := true, apart := false, narrowed := true }
def BoxPointsUptoSaid : Prop := boxPointsUptoRow.holds Try.pinned (OpenSpec.upto boxPointsSpec)

/-- 'sequiturlaw32.BoxFirst', WHERE WHAT IT READS IS OF BULK AT MOST 1048576: true; the input reads as it did. -/
def boxFirstUptoRow : OpenClaim := { program := "ytkfbfgkdabljiaa", sum := "210d46cfccfc256ddbceea17cd5b66b9e94d8315aa97076d4776ecb257727295", func := "sequitur/sequiturlaw32.BoxFirst", spec := "boxFirst", inPlace := ["math/bits.Add64"], unfollowed := true, recurses := true, apart := false, narrowed := true }
def BoxFirstUptoSaid : Prop := boxFirstUptoRow.holds Try.pinned (OpenSpec.upto boxFirstSpec)

/-- 'sequiturlaw30.ShadowBetween', WHERE WHAT IT READS IS OF BULK AT MOST 1048576: true; the input reads as it did. -/
def shadowBetweenUptoRow : OpenClaim := { program := "ytkfbfgkdabljiaa", sum := "210d46cfccfc256ddbceea17cd5b66b9e94d8315aa97076d4776ecb257727295", func := "sequitur/sequiturlaw30.ShadowBetween", spec := "shadowBetween", inPlace := ["math/bits.Add64", "math/bits.Sub64"], unfollowed := true, recurses := true, apart := false, narrowed := true }
def ShadowBetweenUptoSaid : Prop := shadowBetweenUptoRow.holds Try.pinned (OpenSpec.upto shadowBetweenSpec)

/-- 'sequiturlaw30.ShadowSplits', WHERE WHAT IT READS IS OF BULK AT MOST 1048576: true; the input reads as it did. -/
def shadowSplitsUptoRow : OpenClaim := { program := "ytkfbfgkdabljiaa", sum := "210d46cfccfc256ddbceea17cd5b66b9e94d8315aa97076d4776ecb257727295", func := "sequitur/sequiturlaw30.ShadowSplits", spec := "shadowSplits", inPlace := ["math/bits.Add64", "math/bits.Sub64"], unfollowed := true, recurses := true, apart := false, narrowed := true }
def ShadowSplitsUptoSaid : Prop := shadowSplitsUptoRow.holds Try.pinned (OpenSpec.upto shadowSplitsSpec)

/-- 'sequiturlaw30.ShadowHolds', WHERE WHAT IT READS IS OF BULK AT MOST 1048576: true; the input reads as it did. -/
def shadowHoldsUptoRow : OpenClaim := { program := "ytkfbfgkdabljiaa", sum := "210d46cfccfc256ddbceea17cd5b66b9e94d8315aa97076d4776ecb257727295", func := "sequitur/sequiturlaw30.ShadowHolds", spec := "shadowHolds", inPlace := ["math/bits.Add64", "math/bits.Sub64"], unfollowed := true, recurses := true, apart := false, narrowed := true }
def ShadowHoldsUptoSaid : Prop := shadowHoldsUptoRow.holds Try.pinned (OpenSpec.upto shadowHoldsSpec)

/-- 'sequiturlaw30.ShadowDark', WHERE WHAT IT READS IS OF BULK AT MOST 1048576: true; the input reads as it did. -/
def shadowDarkUptoRow : OpenClaim := { program := "ytkfbfgkdabljiaa", sum := "210d46cfccfc256ddbceea17cd5b66b9e94d8315aa97076d4776ecb257727295", func := "sequitur/sequiturlaw30.ShadowDark", spec := "shadowDark", inPlace := ["math/bits.Add64", "math/bits.Sub64"], unfollowed := true, recurses := true, apart := false, narrowed := true }
def ShadowDarkUptoSaid : Prop := shadowDarkUptoRow.holds Try.pinned (OpenSpec.upto shadowDarkSpec)

/-- 'sequiturlaw32.BoxWithin', WHERE WHAT IT READS IS OF BULK AT MOST 1048576: true; the input reads as it did. -/
def boxWithinUptoRow : OpenClaim := { program := "ytkfbfgkdabljiaa", sum := "210d46cfccfc256ddbceea17cd5b66b9e94d8315aa97076d4776ecb257727295", func := "sequitur/sequiturlaw32.BoxWithin", spec := "boxWithin", inPlace := ["math/bits.Add64"], unfollowed := true, recurses := true, apart := false, narrowed := true }
def BoxWithinUptoSaid : Prop := boxWithinUptoRow.holds Try.pinned (OpenSpec.upto boxWithinSpec)

end Rows
end Go.Proofs.Ytkfbfgkdabljiaa
