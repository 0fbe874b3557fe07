/- A machine that goes and comes again is known again to all: TopComesAgain answers true at all arguments; no conditions. -/
import Derived.Test.YtaekfgbfpfecdaaGreatRows
import Derived.Test.YtaekfgbfpfecdaaGreatCc
import Derived.WalkKit
import Derived.ProofKit
import Derived.OpenShut
namespace Go.Proofs.YtaekfgbfpfecdaaGreat.topComesAgain
open Go.ChangeShapes Go.WideShapes Go.ChangeAt Go.RowKit
set_option linter.unusedVariables false

theorem own : ownKnob Tryz.prog.godebug = none := by kernel_rfl

theorem walk (a0 : Int) (a1 : Int) (a2 : Int) (w0 : (Lit.int .u64 a0).wf = true) (w1 : (Lit.int .u8 a1).wf = true) (w2 : (Lit.int .u8 a2).wf = true) (w : World) :
    Calls Tryz.prog 5 #[.int .u64 a0, .int .u8 a1, .int .u8 a2] w fun e w' => e = .returned (.bool true) ∧ VM.Kept w w' :=
  VM.comes_again a0 a1 a2 (bounds_u64 w0) (bounds_u8 w1) (bounds_u8 w2) w

set_option maxRecDepth 100000 in
theorem lifted (os : Os) (started : os.Started) (H : Type) (enc : TypeId × Value → H) :
    ReturnsInHanded {} Tryz.checked os 5 .any (Rows.topComesAgainSpec.pre6 enc Tryz.prog Tryz.f5 Rows.topComesAgainRow.domain false) (Rows.topComesAgainSpec.post enc Tryz.prog Tryz.f5 false true false false) := by
  refine returnsInHanded_of_change (C := Tryz.checked) own started (by kernel_rfl) Tryz.func5
    (ChangeSpec.witness6 (enc := enc) (C := Tryz.checked) false ⟨#[], #[.int .u64 0, .int .u8 0, .int .u8 0], []⟩ 8 (by kernel_rfl) (by kernel_rfl) (by kernel_rfl) (by kernel_rfl)) ?_
  intro W base args ds gs before hval0 hW hcnd _
  have hval : ∀ (j : Nat) t v, Tryz.f5.params[j]? = some t → args[j]? = some v → Value.okWide Tryz.prog W .any base t v := hval0
  have hW' := hW
  obtain ⟨p, q, hA0, hV, rfl, hfz, hnd⟩ := hW
  have hA : DataW.TrodAll enc Tryz.prog W 0 (fun _ => true) true Tryz.f5.params.toList args.toList ds p := hA0
  rw [Tryz.params5] at hA hval
  obtain ⟨v0, vs0, d0, ds0, p0, q0, hargs, rfl, rfl, h0, r0⟩ := trodAll_cons hA
  obtain ⟨v1, vs1, d1, ds1, p1, q1, rfl, rfl, rfl, h1, r1⟩ := trodAll_cons r0
  obtain ⟨v2, vs2, d2, ds2, p2, q2, rfl, rfl, rfl, h2, r2⟩ := trodAll_cons r1
  obtain ⟨rfl, rfl, rfl⟩ := trodAll_nil r2
  obtain rfl : args = #[v0, v1, v2] := by cases args; simp_all
  obtain ⟨rfl, rfl⟩ := trodVars_none hV
  obtain ⟨a0, rfl, rfl, rfl, w0⟩ := open_int Tryz.underlying22 (hval 0 22 v0 rfl rfl) h0
  obtain ⟨a1, rfl, rfl, rfl, w1⟩ := open_int Tryz.underlying5 (hval 1 5 v1 rfl rfl) h1
  obtain ⟨a2, rfl, rfl, rfl, w2⟩ := open_int Tryz.underlying5 (hval 2 5 v2 rfl rfl) h2
  clear hA0 hval0
  simp only [List.append_nil] at hW'
  refine (walk a0 a1 a2 w0 w1 w2 W).mono fun e W' ⟨he, hg⟩ => ?_
  subst he
  exact ⟨_, rfl, _, _, _, [], [], [], hW', (trodAll_cons_mk (shut_bool Tryz.underlying4 _) trodAll_mk0), (trodAll_cons_mk (shut_int Tryz.underlying22 w0) (trodAll_cons_mk (shut_int Tryz.underlying5 w1) (trodAll_cons_mk (shut_int Tryz.underlying5 w2) trodAll_mk0))), rfl, hg.frame _, fun h => by cases h⟩

theorem and_i {a b : Bool} (h : a = true) (h' : b = true) : (a && b) = true := by subst h; subst h'; rfl
theorem j0 : Nat.add (VM.bn (Rows.topComesAgainRow.wf (OpenSpec.ofChange Rows.topComesAgainSpec))) 1 = 2 := by kernel_rfl
theorem j1 : Nat.add (VM.bn (laidOutB Tryz.prog)) 1 = 2 := by kernel_rfl
theorem j2 : Nat.add (VM.bn (mapsRowed Tryz.prog)) 1 = 2 := by kernel_rfl
theorem j3 : Nat.add (VM.bn (Tryz.f5.params.all (Tryz.prog.readableRec ·))) 1 = 2 := by kernel_rfl
theorem j4 : Nat.add (VM.bn (namedTie Tryz.prog Rows.topComesAgainRow.named Rows.topComesAgainSpec.vars)) 1 = 2 := by kernel_rfl
theorem j5 : Nat.add (VM.bn (Rows.topComesAgainRow.stops == [])) 1 = 2 := by kernel_rfl
theorem j6 : Nat.add (VM.bn (Tryz.prog.stops == [])) 1 = 2 := by kernel_rfl
theorem j7 : Nat.add (VM.bn (Rows.topComesAgainRow.knobs == [])) 1 = 2 := by kernel_rfl
theorem j8 : Nat.add (VM.bn (Tryz.prog.stopKnobs == [])) 1 = 2 := by kernel_rfl
theorem j9 : Nat.add (VM.bn (Rows.topComesAgainRow.inPlace == Tryz.prog.inPlace 5)) 1 = 2 := by kernel_rfl
theorem j10 : Nat.add (VM.bn (Rows.topComesAgainRow.unfollowed == Tryz.prog.unfollowed 5)) 1 = 2 := by kernel_rfl
theorem j11 : Nat.add (VM.bn (Rows.topComesAgainRow.recurses == Tryz.prog.recurses 5)) 1 = 2 := by kernel_rfl
theorem j12 : Nat.add (VM.bn (Rows.topComesAgainRow.named == Tryz.prog.varsNamed 5)) 1 = 2 := by kernel_rfl
theorem j13 : Nat.add (VM.bn (Rows.topComesAgainRow.maps == (Tryz.f5.params.toList ++ Rows.topComesAgainSpec.plain.varTypes Tryz.prog).any (Tryz.prog.mapsRec ·))) 1 = 2 := by kernel_rfl
theorem j14 : Nat.add (VM.bn (Rows.topComesAgainRow.ifaces == (Tryz.f5.params.toList ++ Rows.topComesAgainSpec.plain.varTypes Tryz.prog).any (Tryz.prog.ifacesRec ·))) 1 = 2 := by kernel_rfl
theorem j15 : Nat.add (VM.bn (Rows.topComesAgainRow.mapsOut == Tryz.prog.mapsAmong Tryz.f5.resultTypes.toList)) 1 = 2 := by kernel_rfl
theorem j16 : Nat.add (VM.bn (Rows.topComesAgainRow.loops == (Tryz.f5.params.toList ++ Rows.topComesAgainSpec.plain.varTypes Tryz.prog).any (Tryz.prog.loopsFrom ·))) 1 = 2 := by kernel_rfl
theorem j17 : Nat.add (VM.bn (Rows.topComesAgainRow.wideKeys == (Tryz.f5.params.toList ++ Rows.topComesAgainSpec.plain.varTypes Tryz.prog ++ Tryz.f5.resultTypes.toList).any (Tryz.prog.wideKeysFrom ·))) 1 = 2 := by kernel_rfl
theorem j18 : Nat.add (VM.bn (Rows.topComesAgainSpec.vars.all (Tryz.prog.varReadable ·))) 1 = 2 := by kernel_rfl
theorem j19 : Nat.add (VM.bn (Tryz.f5.resultTypes.all (fun t => Tryz.prog.readableRec t && decide (t < Tryz.prog.types.size)))) 1 = 2 := by kernel_rfl
theorem j20 : Nat.add (VM.bn (Rows.topComesAgainRow.ifacesOut == Tryz.f5.resultTypes.toList.any (Tryz.prog.ifacesRec ·))) 1 = 2 := by kernel_rfl
theorem j21 : Nat.add (VM.bn (Rows.topComesAgainRow.loopsOut == Tryz.f5.resultTypes.toList.any (Tryz.prog.loopsFrom ·))) 1 = 2 := by kernel_rfl
theorem j22 : Nat.add (VM.bn (Rows.topComesAgainRow.plainKeys == Tryz.prog.plainKeys)) 1 = 2 := by kernel_rfl
theorem j23 : Nat.add (VM.bn (Rows.topComesAgainRow.shortTexts.isNone)) 1 = 2 := by kernel_rfl
theorem j24 : Nat.add (VM.bn (Tryz.prog.stopsHeard)) 1 = 2 := by kernel_rfl
theorem j25 : Nat.add (VM.bn (Tryz.prog.mayEnter)) 1 = 2 := by kernel_rfl
theorem j26 : Nat.add (VM.bn (Rows.topComesAgainRow.lifted == Tryz.prog.liftsFinal)) 1 = 2 := by kernel_rfl
theorem j27 : Nat.add (VM.bn (Tryz.prog.make == some Rows.topComesAgainRow.make)) 1 = 2 := by kernel_rfl
theorem j28 : Nat.add (VM.bn (Rows.topComesAgainRow.kinds == (if Rows.topComesAgainRow.domain.isEmpty then [] else Tryz.f5.params.toList.map fun t => match Tryz.prog.underlying t with | some (.int k) => some k | _ => none))) 1 = 2 := by kernel_rfl
theorem j29 : Nat.add (VM.bn (Rows.topComesAgainRow.pinned == Rows.topComesAgainRow.pinnedBy)) 1 = 2 := by kernel_rfl
theorem j30 : Nat.add (VM.bn (Rows.topComesAgainRow.veiled == (Tryz.f5.params.toList ++ Rows.topComesAgainSpec.plain.varTypes Tryz.prog ++ Tryz.f5.resultTypes.toList).any (Tryz.prog.veiledRec ·))) 1 = 2 := by kernel_rfl
theorem j31 : Nat.add (VM.bn (Rows.topComesAgainRow.veiledFits Tryz.prog Tryz.f5.params.toList (Tryz.f5.params.toList ++ Rows.topComesAgainSpec.plain.varTypes Tryz.prog ++ Tryz.f5.resultTypes.toList))) 1 = 2 := by kernel_rfl
theorem closed : joinedFacts Tryz.prog 5 Tryz.f5 Rows.topComesAgainSpec Rows.topComesAgainRow = true := by
  unfold joinedFacts
  exact (and_i (and_i (and_i (and_i (and_i (and_i (and_i (and_i (and_i (and_i (and_i (and_i (and_i (and_i (and_i (and_i (and_i (and_i (and_i (and_i (and_i (and_i (and_i (and_i (and_i (and_i (and_i (and_i (and_i (and_i (and_i (VM.of_bn j0) (VM.of_bn j1)) (VM.of_bn j2)) (VM.of_bn j3)) (VM.of_bn j4)) (VM.of_bn j5)) (VM.of_bn j6)) (VM.of_bn j7)) (VM.of_bn j8)) (VM.of_bn j9)) (VM.of_bn j10)) (VM.of_bn j11)) (VM.of_bn j12)) (VM.of_bn j13)) (VM.of_bn j14)) (VM.of_bn j15)) (VM.of_bn j16)) (VM.of_bn j17)) (VM.of_bn j18)) (VM.of_bn j19)) (VM.of_bn j20)) (VM.of_bn j21)) (VM.of_bn j22)) (VM.of_bn j23)) (VM.of_bn j24)) (VM.of_bn j25)) (VM.of_bn j26)) (VM.of_bn j27)) (VM.of_bn j28)) (VM.of_bn j29)) (VM.of_bn j30)) (VM.of_bn j31))
theorem named : Tryz.prog.funcNamed Rows.topComesAgainRow.func = some 5 := by kernel_rfl
theorem over : Rows.topComesAgainRow.holds Tryz.pinned (OpenSpec.ofChange Rows.topComesAgainSpec) :=
  OpenClaim.holds_of_wide 5 Tryz.f5 rfl rfl rfl rfl rfl rfl rfl ⟨rfl, rfl, rfl, rfl, rfl⟩ rfl rfl rfl rfl rfl named Tryz.func5 closed
    (of_decide_eq_true (by kernel_rfl)) (by unfold Func.isWrapper; first | (rw [if_pos (by decide +kernel)]; kernel_rfl) | (rw [if_neg (by decide +kernel)]; exact ⟨rfl, rfl⟩))
    (fun os started H enc _ => lifted os started H enc)

theorem proved : Rows.TopComesAgainSaid :=
  over
#print axioms proved
end Go.Proofs.YtaekfgbfpfecdaaGreat.topComesAgain
