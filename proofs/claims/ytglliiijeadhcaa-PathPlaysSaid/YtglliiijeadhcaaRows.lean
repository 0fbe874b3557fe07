/-
  No cell of these rows narrows 'for every input' (looked for: loops, veiled, ifaces, maps, wideKeys, modest, calm, conditions, laid).
  DERIVED. THE GIVEN ROWS OF THIS SEAT. 6 by the template 'for every input the law returns true; each argument reads behind the call as it read before'; 0 by the template 'total and deterministic' (their statements: YtglliiijeadhcaaTotals.lean).
  GIVEN WITH THE SEED: the statements are not yours to turn. If you find one false, say at which input.
  Laid BY PROGRAM, IN A SANDBOX (cutbox-rows.mjs): the forced cells as the released guide's own fill.sh prints them over the translation 6835e33a8d8b268e… (all of the seat's roots in one cut). By AI agents, Wed Nov 11 2026. No macro, syntax, notation, axiom, sorry.
-/
import Derived.Test.YtglliiijeadhcaaChecked
import GoSem.Claim
import GoSem.ClaimJoined
import GoSem.ClaimMapViews
import Derived.JoinedTies
import Derived.KernelRfl
namespace Go.Proofs.Ytglliiijeadhcaa
/- THE CELL 'sum', in the pinned program and in every row, IS THE sha256 OF THE DUMP (.gsa) THAT YtglliiijeadhcaaProg.lean LOADS. Nothing in Lean hashes anything: it is a label: what it is worth is what the hold of that sum in a sandbox is worth. -/
noncomputable def Try.pinned : Pinned := { name := "ytglliiijeadhcaa", sum := "6835e33a8d8b268e628012f7d3a33ffb95f93e09242c25cbd5eaffac23e23850", checked := Try.checked }
namespace Rows
def none {H : Type} : Left H := { results := [], args := [] }

/-- 'scuttlebuttlaw18.PathPlays': WHATEVER THE INPUT: true; the input reads as it did. -/
def pathPlaysSpec : ChangeSpec := { name := "pathPlays", fn := fun _ => fun
  | [d1, d2, d3, d4, d5, d6] => { results := [.lit (.bool true)], args := [d1, d2, d3, d4, d5, d6] }
  | _ => none }
def pathPlaysRow : OpenClaim := { program := "ytglliiijeadhcaa", sum := "6835e33a8d8b268e628012f7d3a33ffb95f93e09242c25cbd5eaffac23e23850", func := "scuttlebutt/scuttlebuttlaw18.PathPlays", spec := "pathPlays", apart := false }
def PathPlaysSaid : Prop := pathPlaysRow.holds Try.pinned (OpenSpec.ofChange pathPlaysSpec)

/-- ITS FALSE NEIGHBOUR: 'it returns false'. Refute it at one input. -/
def pathPlaysWrong : ChangeSpec := { name := "pathPlays", fn := fun _ => fun
  | [d1, d2, d3, d4, d5, d6] => { results := [.lit (.bool false)], args := [d1, d2, d3, d4, d5, d6] }
  | _ => none }
def PathPlaysWrongFalsely : Prop := pathPlaysRow.holds Try.pinned (OpenSpec.ofChange pathPlaysWrong)

/-- 'scuttlebuttlaw18.PathTries': WHATEVER THE INPUT: true; the input reads as it did. -/
def pathTriesSpec : ChangeSpec := { name := "pathTries", fn := fun _ => fun
  | [d1, d2, d3] => { results := [.lit (.bool true)], args := [d1, d2, d3] }
  | _ => none }
def pathTriesRow : OpenClaim := { program := "ytglliiijeadhcaa", sum := "6835e33a8d8b268e628012f7d3a33ffb95f93e09242c25cbd5eaffac23e23850", func := "scuttlebutt/scuttlebuttlaw18.PathTries", spec := "pathTries", apart := false }
def PathTriesSaid : Prop := pathTriesRow.holds Try.pinned (OpenSpec.ofChange pathTriesSpec)

/-- ITS FALSE NEIGHBOUR: 'it returns false'. Refute it at one input. -/
def pathTriesWrong : ChangeSpec := { name := "pathTries", fn := fun _ => fun
  | [d1, d2, d3] => { results := [.lit (.bool false)], args := [d1, d2, d3] }
  | _ => none }
def PathTriesWrongFalsely : Prop := pathTriesRow.holds Try.pinned (OpenSpec.ofChange pathTriesWrong)

/-- 'scuttlebuttlaw18.PathKept': WHATEVER THE INPUT: true; the input reads as it did. -/
def pathKeptSpec : ChangeSpec := { name := "pathKept", fn := fun _ => fun
  | [d1, d2, d3] => { results := [.lit (.bool true)], args := [d1, d2, d3] }
  | _ => none }
def pathKeptRow : OpenClaim := { program := "ytglliiijeadhcaa", sum := "6835e33a8d8b268e628012f7d3a33ffb95f93e09242c25cbd5eaffac23e23850", func := "scuttlebutt/scuttlebuttlaw18.PathKept", spec := "pathKept", apart := false }
def PathKeptSaid : Prop := pathKeptRow.holds Try.pinned (OpenSpec.ofChange pathKeptSpec)

/-- ITS FALSE NEIGHBOUR: 'it returns false'. Refute it at one input. -/
def pathKeptWrong : ChangeSpec := { name := "pathKept", fn := fun _ => fun
  | [d1, d2, d3] => { results := [.lit (.bool false)], args := [d1, d2, d3] }
  | _ => none }
def PathKeptWrongFalsely : Prop := pathKeptRow.holds Try.pinned (OpenSpec.ofChange pathKeptWrong)

/-- 'scuttlebuttlaw18.PathOpens': WHATEVER THE INPUT: true; the input reads as it did. -/
def pathOpensSpec : ChangeSpec := { name := "pathOpens", fn := fun _ => fun
  | [d1, d2, d3] => { results := [.lit (.bool true)], args := [d1, d2, d3] }
  | _ => none }
def pathOpensRow : OpenClaim := { program := "ytglliiijeadhcaa", sum := "6835e33a8d8b268e628012f7d3a33ffb95f93e09242c25cbd5eaffac23e23850", func := "scuttlebutt/scuttlebuttlaw18.PathOpens", spec := "pathOpens", apart := false }
def PathOpensSaid : Prop := pathOpensRow.holds Try.pinned (OpenSpec.ofChange pathOpensSpec)

/-- ITS FALSE NEIGHBOUR: 'it returns false'. Refute it at one input. -/
def pathOpensWrong : ChangeSpec := { name := "pathOpens", fn := fun _ => fun
  | [d1, d2, d3] => { results := [.lit (.bool false)], args := [d1, d2, d3] }
  | _ => none }
def PathOpensWrongFalsely : Prop := pathOpensRow.holds Try.pinned (OpenSpec.ofChange pathOpensWrong)

/-- 'scuttlebuttlaw18.PathMany': WHATEVER THE INPUT: true; the input reads as it did. -/
def pathManySpec : ChangeSpec := { name := "pathMany", fn := fun _ => fun
  | [d1, d2, d3] => { results := [.lit (.bool true)], args := [d1, d2, d3] }
  | _ => none }
def pathManyRow : OpenClaim := { program := "ytglliiijeadhcaa", sum := "6835e33a8d8b268e628012f7d3a33ffb95f93e09242c25cbd5eaffac23e23850", func := "scuttlebutt/scuttlebuttlaw18.PathMany", spec := "pathMany", apart := false }
def PathManySaid : Prop := pathManyRow.holds Try.pinned (OpenSpec.ofChange pathManySpec)

/-- ITS FALSE NEIGHBOUR: 'it returns false'. Refute it at one input. -/
def pathManyWrong : ChangeSpec := { name := "pathMany", fn := fun _ => fun
  | [d1, d2, d3] => { results := [.lit (.bool false)], args := [d1, d2, d3] }
  | _ => none }
def PathManyWrongFalsely : Prop := pathManyRow.holds Try.pinned (OpenSpec.ofChange pathManyWrong)

/-- 'scuttlebuttlaw18.PathWrong': WHATEVER THE INPUT: true; the input reads as it did. -/
def pathWrongSpec : ChangeSpec := { name := "pathWrong", fn := fun _ => fun
  | [d1, d2, d3, d4, d5, d6] => { results := [.lit (.bool true)], args := [d1, d2, d3, d4, d5, d6] }
  | _ => none }
def pathWrongRow : OpenClaim := { program := "ytglliiijeadhcaa", sum := "6835e33a8d8b268e628012f7d3a33ffb95f93e09242c25cbd5eaffac23e23850", func := "scuttlebutt/scuttlebuttlaw18.PathWrong", spec := "pathWrong", apart := false }
def PathWrongSaid : Prop := pathWrongRow.holds Try.pinned (OpenSpec.ofChange pathWrongSpec)

/-- ITS FALSE NEIGHBOUR: 'it returns false'. Refute it at one input. -/
def pathWrongWrong : ChangeSpec := { name := "pathWrong", fn := fun _ => fun
  | [d1, d2, d3, d4, d5, d6] => { results := [.lit (.bool false)], args := [d1, d2, d3, d4, d5, d6] }
  | _ => none }
def PathWrongWrongFalsely : Prop := pathWrongRow.holds Try.pinned (OpenSpec.ofChange pathWrongWrong)

/- THE SECOND FORM. 'bulk': how many values and letters a reading holds, each counted each time it is reached (what is shared counts as often as it is met; a slice's spare places count too). A statement '..UptoSaid' is the law's where the arguments, and the package variables that the reading takes, are together of bulk at most 1048576: NARROWER than '..Said'. Prove '..Said' where nothing that the law and all that it calls make is longer than what came in: it says more and counts as full. Else prove '..UptoSaid'. A law counts once. -/
mutual
def uptoBulk {H : Type} : DataW H → Nat
  | .lit (.string bytes) => bytes.length + 1
  | .lit _ => 1
  | .nil => 1
  | .ptr d => uptoBulk d + 1
  | .slice elems spare => uptoBulkAll elems + uptoBulkAll spare + 1
  | .agg parts => uptoBulkAll parts + 1
  | .iface _ d => uptoBulk d + 1
  | .map entries => uptoBulkEntries entries + 1
  | .held _ => 1
def uptoBulkAll {H : Type} : List (DataW H) → Nat
  | [] => 0
  | d :: r => uptoBulk d + uptoBulkAll r
def uptoBulkEntries {H : Type} : List (Lit × DataW H) → Nat
  | [] => 0
  | x :: r => uptoBulkEntry x + uptoBulkEntries r
def uptoBulkEntry {H : Type} : Lit × DataW H → Nat
  | (.string bytes, d) => bytes.length + uptoBulk d + 1
  | (_, d) => uptoBulk d + 1
 end
def uptoSmall : (H : Type) → List (DataW H) → Bool := fun _ ds => decide (uptoBulkAll ds ≤ 1048576)
def OpenSpec.upto (s : _root_.Go.ChangeSpec) : _root_.Go.OpenSpec := { _root_.Go.OpenSpec.ofChange s with cond := some uptoSmall }

/-- 'scuttlebuttlaw18.PathPlays', WHERE WHAT IT READS IS OF BULK AT MOST 1048576: true; the input reads as it did. -/
def pathPlaysUptoRow : OpenClaim := { program := "ytglliiijeadhcaa", sum := "6835e33a8d8b268e628012f7d3a33ffb95f93e09242c25cbd5eaffac23e23850", func := "scuttlebutt/scuttlebuttlaw18.PathPlays", spec := "pathPlays", apart := false, narrowed := true }
def PathPlaysUptoSaid : Prop := pathPlaysUptoRow.holds Try.pinned (OpenSpec.upto pathPlaysSpec)

/-- 'scuttlebuttlaw18.PathTries', WHERE WHAT IT READS IS OF BULK AT MOST 1048576: true; the input reads as it did. -/
def pathTriesUptoRow : OpenClaim := { program := "ytglliiijeadhcaa", sum := "6835e33a8d8b268e628012f7d3a33ffb95f93e09242c25cbd5eaffac23e23850", func := "scuttlebutt/scuttlebuttlaw18.PathTries", spec := "pathTries", apart := false, narrowed := true }
def PathTriesUptoSaid : Prop := pathTriesUptoRow.holds Try.pinned (OpenSpec.upto pathTriesSpec)

/-- 'scuttlebuttlaw18.PathKept', WHERE WHAT IT READS IS OF BULK AT MOST 1048576: true; the input reads as it did. -/
def pathKeptUptoRow : OpenClaim := { program := "ytglliiijeadhcaa", sum := "6835e33a8d8b268e628012f7d3a33ffb95f93e09242c25cbd5eaffac23e23850", func := "scuttlebutt/scuttlebuttlaw18.PathKept", spec := "pathKept", apart := false, narrowed := true }
def PathKeptUptoSaid : Prop := pathKeptUptoRow.holds Try.pinned (OpenSpec.upto pathKeptSpec)

/-- 'scuttlebuttlaw18.PathOpens', WHERE WHAT IT READS IS OF BULK AT MOST 1048576: true; the input reads as it did. -/
def pathOpensUptoRow : OpenClaim := { program := "ytglliiijeadhcaa", sum := "6835e33a8d8b268e628012f7d3a33ffb95f93e09242c25cbd5eaffac23e23850", func := "scuttlebutt/scuttlebuttlaw18.PathOpens", spec := "pathOpens", apart := false, narrowed := true }
def PathOpensUptoSaid : Prop := pathOpensUptoRow.holds Try.pinned (OpenSpec.upto pathOpensSpec)

/-- 'scuttlebuttlaw18.PathMany', WHERE WHAT IT READS IS OF BULK AT MOST 1048576: true; the input reads as it did. -/
def pathManyUptoRow : OpenClaim := { program := "ytglliiijeadhcaa", sum := "6835e33a8d8b268e628012f7d3a33ffb95f93e09242c25cbd5eaffac23e23850", func := "scuttlebutt/scuttlebuttlaw18.PathMany", spec := "pathMany", apart := false, narrowed := true }
def PathManyUptoSaid : Prop := pathManyUptoRow.holds Try.pinned (OpenSpec.upto pathManySpec)

/-- 'scuttlebuttlaw18.PathWrong', WHERE WHAT IT READS IS OF BULK AT MOST 1048576: true; the input reads as it did. -/
def pathWrongUptoRow : OpenClaim := { program := "ytglliiijeadhcaa", sum := "6835e33a8d8b268e628012f7d3a33ffb95f93e09242c25cbd5eaffac23e23850", func := "scuttlebutt/scuttlebuttlaw18.PathWrong", spec := "pathWrong", apart := false, narrowed := true }
def PathWrongUptoSaid : Prop := pathWrongUptoRow.holds Try.pinned (OpenSpec.upto pathWrongSpec)

end Rows
end Go.Proofs.Ytglliiijeadhcaa
