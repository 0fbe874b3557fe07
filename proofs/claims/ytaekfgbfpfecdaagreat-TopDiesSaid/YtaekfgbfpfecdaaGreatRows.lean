/-
  No cell of these rows narrows 'for every input' (looked for: loops, veiled, ifaces, maps, wideKeys, modest, calm, conditions, laid).
  DERIVED. THE GIVEN ROWS OF THIS SEAT. 3 by the template 'for every input the law returns true; each argument reads behind the call as it read before'; 0 by the template 'total and deterministic' (their statements: YtaekfgbfpfecdaaGreatTotals.lean).
  GIVEN WITH THE SEED: the statements are not yours to turn. If you find one false, say at which input.
  Laid BY PROGRAM, IN A SANDBOX (cutbox-rows.mjs): the forced cells as the released guide's own fill.sh prints them over the translation 549f8c0408d04b08… (all of the seat's roots in one cut). By AI agents, Wed Nov 11 2026. No macro, syntax, notation, axiom, sorry.
-/
import Derived.Test.YtaekfgbfpfecdaaGreatChecked
import GoSem.Claim
import GoSem.ClaimJoined
import GoSem.ClaimMapViews
import Derived.JoinedTies
import Derived.KernelRfl
namespace Go.Proofs.YtaekfgbfpfecdaaGreat
/- THE CELL 'sum', in the pinned program and in every row, IS THE sha256 OF THE DUMP (.gsa) THAT YtaekfgbfpfecdaaGreatProg.lean LOADS. Nothing in Lean hashes anything: it is a label: what it is worth is what the hold of that sum in a sandbox is worth. -/
noncomputable def Tryz.pinned : Pinned := { name := "ytaekfgbfpfecdaagreat", sum := "549f8c0408d04b082a8164f686a078ae664cdeee2283646565b5cedf2dc6597a", checked := Tryz.checked }
namespace Rows
def none {H : Type} : Left H := { results := [], args := [] }

/-- 'scuttlebutttop.TopDies': WHATEVER THE INPUT: true; the input reads as it did. -/
def topDiesSpec : ChangeSpec := { name := "topDies", fn := fun _ => fun
  | [d1, d2, d3, d4] => { results := [.lit (.bool true)], args := [d1, d2, d3, d4] }
  | _ => none }
def topDiesRow : OpenClaim := { program := "ytaekfgbfpfecdaagreat", sum := "549f8c0408d04b082a8164f686a078ae664cdeee2283646565b5cedf2dc6597a", func := "scuttlebutt/scuttlebutttop.TopDies", spec := "topDies", inPlace := ["math.archFloor", "math.Float64bits", "math.Float64frombits", "math.archTrunc", "slices.overlaps[int]", "internal/bytealg.IndexByteString", "internal/bytealg.IndexString"], unfollowed := true, recurses := true, named := ["internal/bytealg.MaxLen"], apart := false }
def TopDiesSaid : Prop := topDiesRow.holds Tryz.pinned (OpenSpec.ofChange topDiesSpec)

/-- ITS FALSE NEIGHBOUR: 'it returns false'. Refute it at one input. -/
def topDiesWrong : ChangeSpec := { name := "topDies", fn := fun _ => fun
  | [d1, d2, d3, d4] => { results := [.lit (.bool false)], args := [d1, d2, d3, d4] }
  | _ => none }
def TopDiesWrongFalsely : Prop := topDiesRow.holds Tryz.pinned (OpenSpec.ofChange topDiesWrong)

/-- 'scuttlebutttop.TopLeaves': WHATEVER THE INPUT: true; the input reads as it did. -/
def topLeavesSpec : ChangeSpec := { name := "topLeaves", fn := fun _ => fun
  | [d1, d2, d3] => { results := [.lit (.bool true)], args := [d1, d2, d3] }
  | _ => none }
def topLeavesRow : OpenClaim := { program := "ytaekfgbfpfecdaagreat", sum := "549f8c0408d04b082a8164f686a078ae664cdeee2283646565b5cedf2dc6597a", func := "scuttlebutt/scuttlebutttop.TopLeaves", spec := "topLeaves", inPlace := ["math.archFloor", "math.Float64bits", "math.Float64frombits", "math.archTrunc", "slices.overlaps[int]", "internal/bytealg.IndexByteString", "internal/bytealg.IndexString"], unfollowed := true, recurses := true, named := ["internal/bytealg.MaxLen"], apart := false }
def TopLeavesSaid : Prop := topLeavesRow.holds Tryz.pinned (OpenSpec.ofChange topLeavesSpec)

/-- ITS FALSE NEIGHBOUR: 'it returns false'. Refute it at one input. -/
def topLeavesWrong : ChangeSpec := { name := "topLeaves", fn := fun _ => fun
  | [d1, d2, d3] => { results := [.lit (.bool false)], args := [d1, d2, d3] }
  | _ => none }
def TopLeavesWrongFalsely : Prop := topLeavesRow.holds Tryz.pinned (OpenSpec.ofChange topLeavesWrong)

/-- 'scuttlebutttop.TopComesAgain': WHATEVER THE INPUT: true; the input reads as it did. -/
def topComesAgainSpec : ChangeSpec := { name := "topComesAgain", fn := fun _ => fun
  | [d1, d2, d3] => { results := [.lit (.bool true)], args := [d1, d2, d3] }
  | _ => none }
def topComesAgainRow : OpenClaim := { program := "ytaekfgbfpfecdaagreat", sum := "549f8c0408d04b082a8164f686a078ae664cdeee2283646565b5cedf2dc6597a", func := "scuttlebutt/scuttlebutttop.TopComesAgain", spec := "topComesAgain", inPlace := ["math.archFloor", "math.Float64bits", "math.Float64frombits", "math.archTrunc", "slices.overlaps[int]", "internal/bytealg.IndexByteString", "internal/bytealg.IndexString"], unfollowed := true, recurses := true, named := ["internal/bytealg.MaxLen"], apart := false }
def TopComesAgainSaid : Prop := topComesAgainRow.holds Tryz.pinned (OpenSpec.ofChange topComesAgainSpec)

/-- ITS FALSE NEIGHBOUR: 'it returns false'. Refute it at one input. -/
def topComesAgainWrong : ChangeSpec := { name := "topComesAgain", fn := fun _ => fun
  | [d1, d2, d3] => { results := [.lit (.bool false)], args := [d1, d2, d3] }
  | _ => none }
def TopComesAgainWrongFalsely : Prop := topComesAgainRow.holds Tryz.pinned (OpenSpec.ofChange topComesAgainWrong)

/- THE SECOND FORM. 'bulk': how many values and letters a reading holds, each counted each time it is reached (what is shared counts as often as it is met; a slice's spare places count too). A statement '..UptoSaid' is the law's where the arguments, and the package variables that the reading takes, are together of bulk at most 1048576: NARROWER than '..Said'. Prove '..Said' where nothing that the law and all that it calls make is longer than what came in: it says more and counts as full. Else prove '..UptoSaid'. A law counts once. -/
mutual
def uptoBulk {H : Type} : DataW H → Nat
  | .lit (.string bytes) => bytes.length + 1
  | .lit _ => 1
  | .nil => 1
  | .ptr d => uptoBulk d + 1
  | .slice elems spare => uptoBulkAll elems + uptoBulkAll spare + 1
  | .agg parts => uptoBulkAll parts + 1
  | .iface _ d => uptoBulk d + 1
  | .map entries => uptoBulkEntries entries + 1
  | .held _ => 1
def uptoBulkAll {H : Type} : List (DataW H) → Nat
  | [] => 0
  | d :: r => uptoBulk d + uptoBulkAll r
def uptoBulkEntries {H : Type} : List (Lit × DataW H) → Nat
  | [] => 0
  | x :: r => uptoBulkEntry x + uptoBulkEntries r
def uptoBulkEntry {H : Type} : Lit × DataW H → Nat
  | (.string bytes, d) => bytes.length + uptoBulk d + 1
  | (_, d) => uptoBulk d + 1
 end
def uptoSmall : (H : Type) → List (DataW H) → Bool := fun _ ds => decide (uptoBulkAll ds ≤ 1048576)
def OpenSpec.upto (s : _root_.Go.ChangeSpec) : _root_.Go.OpenSpec := { _root_.Go.OpenSpec.ofChange s with cond := some uptoSmall }

/-- 'scuttlebutttop.TopDies', WHERE WHAT IT READS IS OF BULK AT MOST 1048576: true; the input reads as it did. -/
def topDiesUptoRow : OpenClaim := { program := "ytaekfgbfpfecdaagreat", sum := "549f8c0408d04b082a8164f686a078ae664cdeee2283646565b5cedf2dc6597a", func := "scuttlebutt/scuttlebutttop.TopDies", spec := "topDies", inPlace := ["math.archFloor", "math.Float64bits", "math.Float64frombits", "math.archTrunc", "slices.overlaps[int]", "internal/bytealg.IndexByteString", "internal/bytealg.IndexString"], unfollowed := true, recurses := true, named := ["internal/bytealg.MaxLen"], apart := false, narrowed := true }
def TopDiesUptoSaid : Prop := topDiesUptoRow.holds Tryz.pinned (OpenSpec.upto topDiesSpec)

/-- 'scuttlebutttop.TopLeaves', WHERE WHAT IT READS IS OF BULK AT MOST 1048576: true; the input reads as it did. -/
def topLeavesUptoRow : OpenClaim := { program := "ytaekfgbfpfecdaagreat", sum := "549f8c0408d04b082a8164f686a078ae664cdeee2283646565b5cedf2dc6597a", func := "scuttlebutt/scuttlebutttop.TopLeaves", spec := "topLeaves", inPlace := ["math.archFloor", "math.Float64bits", "math.Float64frombits", "math.archTrunc", "slices.overlaps[int]", "internal/bytealg.IndexByteString", "internal/bytealg.IndexString"], unfollowed := true, recurses := true, named := ["internal/bytealg.MaxLen"], apart := false, narrowed := true }
def TopLeavesUptoSaid : Prop := topLeavesUptoRow.holds Tryz.pinned (OpenSpec.upto topLeavesSpec)

/-- 'scuttlebutttop.TopComesAgain', WHERE WHAT IT READS IS OF BULK AT MOST 1048576: true; the input reads as it did. -/
def topComesAgainUptoRow : OpenClaim := { program := "ytaekfgbfpfecdaagreat", sum := "549f8c0408d04b082a8164f686a078ae664cdeee2283646565b5cedf2dc6597a", func := "scuttlebutt/scuttlebutttop.TopComesAgain", spec := "topComesAgain", inPlace := ["math.archFloor", "math.Float64bits", "math.Float64frombits", "math.archTrunc", "slices.overlaps[int]", "internal/bytealg.IndexByteString", "internal/bytealg.IndexString"], unfollowed := true, recurses := true, named := ["internal/bytealg.MaxLen"], apart := false, narrowed := true }
def TopComesAgainUptoSaid : Prop := topComesAgainUptoRow.holds Tryz.pinned (OpenSpec.upto topComesAgainSpec)

end Rows
end Go.Proofs.YtaekfgbfpfecdaaGreat
