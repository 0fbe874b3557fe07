/-
  No cell of these rows narrows 'for every input' (looked for: loops, veiled, ifaces, maps, wideKeys, modest, calm, conditions, laid).
  DERIVED. THE GIVEN ROWS OF THIS SEAT. 4 by the template 'for every input the law returns true; each argument reads behind the call as it read before'; 0 by the template 'total and deterministic' (their statements: YtkognfcoafmcmaaTotals.lean).
  GIVEN WITH THE SEED: the statements are not yours to turn. If you find one false, say at which input.
  Laid BY PROGRAM, IN A SANDBOX (cutbox-rows.mjs): the forced cells as the released guide's own fill.sh prints them over the translation 9c9d134b91e37568… (all of the seat's roots in one cut). By AI agents, Wed Nov 11 2026. No macro, syntax, notation, axiom, sorry.
-/
import Derived.Test.YtkognfcoafmcmaaChecked
import GoSem.Claim
import GoSem.ClaimJoined
import GoSem.ClaimMapViews
import Derived.JoinedTies
import Derived.KernelRfl
namespace Go.Proofs.Ytkognfcoafmcmaa
/- THE CELL 'sum', in the pinned program and in every row, IS THE sha256 OF THE DUMP (.gsa) THAT YtkognfcoafmcmaaProg.lean LOADS. Nothing in Lean hashes anything: it is a label: what it is worth is what the hold of that sum in a sandbox is worth. -/
noncomputable def Try.pinned : Pinned := { name := "ytkognfcoafmcmaa", sum := "9c9d134b91e37568bdd7c7fbfaa2fb1df9e07cd02989729d5c54cb0971c8535c", checked := Try.checked }
namespace Rows
def none {H : Type} : Left H := { results := [], args := [] }

/-- 'scuttlebuttlaw14.ProbeFails': WHATEVER THE INPUT: true; the input reads as it did. -/
def probeFailsSpec : ChangeSpec := { name := "probeFails", fn := fun _ => fun
  | [d1, d2, d3, d4] => { results := [.lit (.bool true)], args := [d1, d2, d3, d4] }
  | _ => none }
def probeFailsRow : OpenClaim := { program := "ytkognfcoafmcmaa", sum := "9c9d134b91e37568bdd7c7fbfaa2fb1df9e07cd02989729d5c54cb0971c8535c", func := "scuttlebutt/scuttlebuttlaw14.ProbeFails", spec := "probeFails", apart := false }
def ProbeFailsSaid : Prop := probeFailsRow.holds Try.pinned (OpenSpec.ofChange probeFailsSpec)

/-- ITS FALSE NEIGHBOUR: 'it returns false'. Refute it at one input. -/
def probeFailsWrong : ChangeSpec := { name := "probeFails", fn := fun _ => fun
  | [d1, d2, d3, d4] => { results := [.lit (.bool false)], args := [d1, d2, d3, d4] }
  | _ => none }
def ProbeFailsWrongFalsely : Prop := probeFailsRow.holds Try.pinned (OpenSpec.ofChange probeFailsWrong)

/-- 'scuttlebuttlaw14.ProbeOne': WHATEVER THE INPUT: true; the input reads as it did. -/
def probeOneSpec : ChangeSpec := { name := "probeOne", fn := fun _ => fun
  | [d1, d2, d3] => { results := [.lit (.bool true)], args := [d1, d2, d3] }
  | _ => none }
def probeOneRow : OpenClaim := { program := "ytkognfcoafmcmaa", sum := "9c9d134b91e37568bdd7c7fbfaa2fb1df9e07cd02989729d5c54cb0971c8535c", func := "scuttlebutt/scuttlebuttlaw14.ProbeOne", spec := "probeOne", apart := false }
def ProbeOneSaid : Prop := probeOneRow.holds Try.pinned (OpenSpec.ofChange probeOneSpec)

/-- ITS FALSE NEIGHBOUR: 'it returns false'. Refute it at one input. -/
def probeOneWrong : ChangeSpec := { name := "probeOne", fn := fun _ => fun
  | [d1, d2, d3] => { results := [.lit (.bool false)], args := [d1, d2, d3] }
  | _ => none }
def ProbeOneWrongFalsely : Prop := probeOneRow.holds Try.pinned (OpenSpec.ofChange probeOneWrong)

/-- 'scuttlebuttlaw14.ProbeWrong': WHATEVER THE INPUT: true; the input reads as it did. -/
def probeWrongSpec : ChangeSpec := { name := "probeWrong", fn := fun _ => fun
  | [d1, d2, d3, d4, d5] => { results := [.lit (.bool true)], args := [d1, d2, d3, d4, d5] }
  | _ => none }
def probeWrongRow : OpenClaim := { program := "ytkognfcoafmcmaa", sum := "9c9d134b91e37568bdd7c7fbfaa2fb1df9e07cd02989729d5c54cb0971c8535c", func := "scuttlebutt/scuttlebuttlaw14.ProbeWrong", spec := "probeWrong", apart := false }
def ProbeWrongSaid : Prop := probeWrongRow.holds Try.pinned (OpenSpec.ofChange probeWrongSpec)

/-- ITS FALSE NEIGHBOUR: 'it returns false'. Refute it at one input. -/
def probeWrongWrong : ChangeSpec := { name := "probeWrong", fn := fun _ => fun
  | [d1, d2, d3, d4, d5] => { results := [.lit (.bool false)], args := [d1, d2, d3, d4, d5] }
  | _ => none }
def ProbeWrongWrongFalsely : Prop := probeWrongRow.holds Try.pinned (OpenSpec.ofChange probeWrongWrong)

/-- 'scuttlebuttlaw14.ProbeStages': WHATEVER THE INPUT: true; the input reads as it did. -/
def probeStagesSpec : ChangeSpec := { name := "probeStages", fn := fun _ => fun
  | [d1, d2, d3, d4] => { results := [.lit (.bool true)], args := [d1, d2, d3, d4] }
  | _ => none }
def probeStagesRow : OpenClaim := { program := "ytkognfcoafmcmaa", sum := "9c9d134b91e37568bdd7c7fbfaa2fb1df9e07cd02989729d5c54cb0971c8535c", func := "scuttlebutt/scuttlebuttlaw14.ProbeStages", spec := "probeStages", apart := false }
def ProbeStagesSaid : Prop := probeStagesRow.holds Try.pinned (OpenSpec.ofChange probeStagesSpec)

/-- ITS FALSE NEIGHBOUR: 'it returns false'. Refute it at one input. -/
def probeStagesWrong : ChangeSpec := { name := "probeStages", fn := fun _ => fun
  | [d1, d2, d3, d4] => { results := [.lit (.bool false)], args := [d1, d2, d3, d4] }
  | _ => none }
def ProbeStagesWrongFalsely : Prop := probeStagesRow.holds Try.pinned (OpenSpec.ofChange probeStagesWrong)

/- THE SECOND FORM. 'bulk': how many values and letters a reading holds, each counted each time it is reached (what is shared counts as often as it is met; a slice's spare places count too). A statement '..UptoSaid' is the law's where the arguments, and the package variables that the reading takes, are together of bulk at most 1048576: NARROWER than '..Said'. Prove '..Said' where nothing that the law and all that it calls make is longer than what came in: it says more and counts as full. Else prove '..UptoSaid'. A law counts once. -/
mutual
def uptoBulk {H : Type} : DataW H → Nat
  | .lit (.string bytes) => bytes.length + 1
  | .lit _ => 1
  | .nil => 1
  | .ptr d => uptoBulk d + 1
  | .slice elems spare => uptoBulkAll elems + uptoBulkAll spare + 1
  | .agg parts => uptoBulkAll parts + 1
  | .iface _ d => uptoBulk d + 1
  | .map entries => uptoBulkEntries entries + 1
  | .held _ => 1
def uptoBulkAll {H : Type} : List (DataW H) → Nat
  | [] => 0
  | d :: r => uptoBulk d + uptoBulkAll r
def uptoBulkEntries {H : Type} : List (Lit × DataW H) → Nat
  | [] => 0
  | x :: r => uptoBulkEntry x + uptoBulkEntries r
def uptoBulkEntry {H : Type} : Lit × DataW H → Nat
  | (.string bytes, d) => bytes.length + uptoBulk d + 1
  | (_, d) => uptoBulk d + 1
 end
def uptoSmall : (H : Type) → List (DataW H) → Bool := fun _ ds => decide (uptoBulkAll ds ≤ 1048576)
def OpenSpec.upto (s : _root_.Go.ChangeSpec) : _root_.Go.OpenSpec := { _root_.Go.OpenSpec.ofChange s with cond := some uptoSmall }

/-- 'scuttlebuttlaw14.ProbeFails', WHERE WHAT IT READS IS OF BULK AT MOST 1048576: true; the input reads as it did. -/
def probeFailsUptoRow : OpenClaim := { program := "ytkognfcoafmcmaa", sum := "9c9d134b91e37568bdd7c7fbfaa2fb1df9e07cd02989729d5c54cb0971c8535c", func := "scuttlebutt/scuttlebuttlaw14.ProbeFails", spec := "probeFails", apart := false, narrowed := true }
def ProbeFailsUptoSaid : Prop := probeFailsUptoRow.holds Try.pinned (OpenSpec.upto probeFailsSpec)

/-- 'scuttlebuttlaw14.ProbeOne', WHERE WHAT IT READS IS OF BULK AT MOST 1048576: true; the input reads as it did. -/
def probeOneUptoRow : OpenClaim := { program := "ytkognfcoafmcmaa", sum := "9c9d134b91e37568bdd7c7fbfaa2fb1df9e07cd02989729d5c54cb0971c8535c", func := "scuttlebutt/scuttlebuttlaw14.ProbeOne", spec := "probeOne", apart := false, narrowed := true }
def ProbeOneUptoSaid : Prop := probeOneUptoRow.holds Try.pinned (OpenSpec.upto probeOneSpec)

/-- 'scuttlebuttlaw14.ProbeWrong', WHERE WHAT IT READS IS OF BULK AT MOST 1048576: true; the input reads as it did. -/
def probeWrongUptoRow : OpenClaim := { program := "ytkognfcoafmcmaa", sum := "9c9d134b91e37568bdd7c7fbfaa2fb1df9e07cd02989729d5c54cb0971c8535c", func := "scuttlebutt/scuttlebuttlaw14.ProbeWrong", spec := "probeWrong", apart := false, narrowed := true }
def ProbeWrongUptoSaid : Prop := probeWrongUptoRow.holds Try.pinned (OpenSpec.upto probeWrongSpec)

/-- 'scuttlebuttlaw14.ProbeStages', WHERE WHAT IT READS IS OF BULK AT MOST 1048576: true; the input reads as it did. -/
def probeStagesUptoRow : OpenClaim := { program := "ytkognfcoafmcmaa", sum := "9c9d134b91e37568bdd7c7fbfaa2fb1df9e07cd02989729d5c54cb0971c8535c", func := "scuttlebutt/scuttlebuttlaw14.ProbeStages", spec := "probeStages", apart := false, narrowed := true }
def ProbeStagesUptoSaid : Prop := probeStagesUptoRow.holds Try.pinned (OpenSpec.upto probeStagesSpec)

end Rows
end Go.Proofs.Ytkognfcoafmcmaa
