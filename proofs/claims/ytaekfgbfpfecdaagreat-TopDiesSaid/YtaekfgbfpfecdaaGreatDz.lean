/- Who crashed is thought to be dead: TopDies answers true at all arguments; no conditions. -/
import Derived.Test.YtaekfgbfpfecdaaGreatRows
import Derived.Test.YtaekfgbfpfecdaaGreatDc
import Derived.WalkKit
import Derived.ProofKit
import Derived.OpenShut
namespace Go.Proofs.YtaekfgbfpfecdaaGreat.topDies
open Go.ChangeShapes Go.WideShapes Go.ChangeAt Go.RowKit
set_option linter.unusedVariables false

theorem own : ownKnob Tryz.prog.godebug = none := by kernel_rfl

theorem walk (a0 : Int) (a1 : Int) (a2 : Int) (a3 : Int) (w0 : (Lit.int .u64 a0).wf = true) (w1 : (Lit.int .u8 a1).wf = true) (w2 : (Lit.int .u8 a2).wf = true) (w3 : (Lit.int .u8 a3).wf = true) (w : World) :
    Calls Tryz.prog 3 #[.int .u64 a0, .int .u8 a1, .int .u8 a2, .int .u8 a3] w fun e w' => e = .returned (.bool true) ∧ VM.Kept w w' :=
  VM.dies a0 a1 a2 a3 (bounds_u64 w0) (bounds_u8 w1) (bounds_u8 w2) (bounds_u8 w3) w

set_option maxRecDepth 100000 in
theorem lifted (os : Os) (started : os.Started) (H : Type) (enc : TypeId × Value → H) :
    ReturnsInHanded {} Tryz.checked os 3 .any (Rows.topDiesSpec.pre6 enc Tryz.prog Tryz.f3 Rows.topDiesRow.domain false) (Rows.topDiesSpec.post enc Tryz.prog Tryz.f3 false true false false) := by
  refine returnsInHanded_of_change (C := Tryz.checked) own started (by kernel_rfl) Tryz.func3
    (ChangeSpec.witness6 (enc := enc) (C := Tryz.checked) false ⟨#[], #[.int .u64 0, .int .u8 0, .int .u8 0, .int .u8 0], []⟩ 8 (by kernel_rfl) (by kernel_rfl) (by kernel_rfl) (by kernel_rfl)) ?_
  intro W base args ds gs before hval0 hW hcnd _
  have hval : ∀ (j : Nat) t v, Tryz.f3.params[j]? = some t → args[j]? = some v → Value.okWide Tryz.prog W .any base t v := hval0
  have hW' := hW
  obtain ⟨p, q, hA0, hV, rfl, hfz, hnd⟩ := hW
  have hA : DataW.TrodAll enc Tryz.prog W 0 (fun _ => true) true Tryz.f3.params.toList args.toList ds p := hA0
  rw [Tryz.params3] at hA hval
  obtain ⟨v0, vs0, d0, ds0, p0, q0, hargs, rfl, rfl, h0, r0⟩ := trodAll_cons hA
  obtain ⟨v1, vs1, d1, ds1, p1, q1, rfl, rfl, rfl, h1, r1⟩ := trodAll_cons r0
  obtain ⟨v2, vs2, d2, ds2, p2, q2, rfl, rfl, rfl, h2, r2⟩ := trodAll_cons r1
  obtain ⟨v3, vs3, d3, ds3, p3, q3, rfl, rfl, rfl, h3, r3⟩ := trodAll_cons r2
  obtain ⟨rfl, rfl, rfl⟩ := trodAll_nil r3
  obtain rfl : args = #[v0, v1, v2, v3] := by cases args; simp_all
  obtain ⟨rfl, rfl⟩ := trodVars_none hV
  obtain ⟨a0, rfl, rfl, rfl, w0⟩ := open_int Tryz.underlying22 (hval 0 22 v0 rfl rfl) h0
  obtain ⟨a1, rfl, rfl, rfl, w1⟩ := open_int Tryz.underlying5 (hval 1 5 v1 rfl rfl) h1
  obtain ⟨a2, rfl, rfl, rfl, w2⟩ := open_int Tryz.underlying5 (hval 2 5 v2 rfl rfl) h2
  obtain ⟨a3, rfl, rfl, rfl, w3⟩ := open_int Tryz.underlying5 (hval 3 5 v3 rfl rfl) h3
  clear hA0 hval0
  simp only [List.append_nil] at hW'
  refine (walk a0 a1 a2 a3 w0 w1 w2 w3 W).mono fun e W' ⟨he, hg⟩ => ?_
  subst he
  exact ⟨_, rfl, _, _, _, [], [], [], hW', (trodAll_cons_mk (shut_bool Tryz.underlying4 _) trodAll_mk0), (trodAll_cons_mk (shut_int Tryz.underlying22 w0) (trodAll_cons_mk (shut_int Tryz.underlying5 w1) (trodAll_cons_mk (shut_int Tryz.underlying5 w2) (trodAll_cons_mk (shut_int Tryz.underlying5 w3) trodAll_mk0)))), rfl, hg.frame _, fun h => by cases h⟩

theorem and_i {a b : Bool} (h : a = true) (h' : b = true) : (a && b) = true := by subst h; subst h'; rfl
theorem j0 : Nat.add (VM.bn (Rows.topDiesRow.wf (OpenSpec.ofChange Rows.topDiesSpec))) 1 = 2 := by kernel_rfl
theorem j1 : Nat.add (VM.bn (laidOutB Tryz.prog)) 1 = 2 := by kernel_rfl
theorem j2 : Nat.add (VM.bn (mapsRowed Tryz.prog)) 1 = 2 := by kernel_rfl
theorem j3 : Nat.add (VM.bn (Tryz.f3.params.all (Tryz.prog.readableRec ·))) 1 = 2 := by kernel_rfl
theorem j4 : Nat.add (VM.bn (namedTie Tryz.prog Rows.topDiesRow.named Rows.topDiesSpec.vars)) 1 = 2 := by kernel_rfl
theorem j5 : Nat.add (VM.bn (Rows.topDiesRow.stops == [])) 1 = 2 := by kernel_rfl
theorem j6 : Nat.add (VM.bn (Tryz.prog.stops == [])) 1 = 2 := by kernel_rfl
theorem j7 : Nat.add (VM.bn (Rows.topDiesRow.knobs == [])) 1 = 2 := by kernel_rfl
theorem j8 : Nat.add (VM.bn (Tryz.prog.stopKnobs == [])) 1 = 2 := by kernel_rfl
theorem j9 : Nat.add (VM.bn (Rows.topDiesRow.inPlace == Tryz.prog.inPlace 3)) 1 = 2 := by kernel_rfl
theorem j10 : Nat.add (VM.bn (Rows.topDiesRow.unfollowed == Tryz.prog.unfollowed 3)) 1 = 2 := by kernel_rfl
theorem j11 : Nat.add (VM.bn (Rows.topDiesRow.recurses == Tryz.prog.recurses 3)) 1 = 2 := by kernel_rfl
theorem j12 : Nat.add (VM.bn (Rows.topDiesRow.named == Tryz.prog.varsNamed 3)) 1 = 2 := by kernel_rfl
theorem j13 : Nat.add (VM.bn (Rows.topDiesRow.maps == (Tryz.f3.params.toList ++ Rows.topDiesSpec.plain.varTypes Tryz.prog).any (Tryz.prog.mapsRec ·))) 1 = 2 := by kernel_rfl
theorem j14 : Nat.add (VM.bn (Rows.topDiesRow.ifaces == (Tryz.f3.params.toList ++ Rows.topDiesSpec.plain.varTypes Tryz.prog).any (Tryz.prog.ifacesRec ·))) 1 = 2 := by kernel_rfl
theorem j15 : Nat.add (VM.bn (Rows.topDiesRow.mapsOut == Tryz.prog.mapsAmong Tryz.f3.resultTypes.toList)) 1 = 2 := by kernel_rfl
theorem j16 : Nat.add (VM.bn (Rows.topDiesRow.loops == (Tryz.f3.params.toList ++ Rows.topDiesSpec.plain.varTypes Tryz.prog).any (Tryz.prog.loopsFrom ·))) 1 = 2 := by kernel_rfl
theorem j17 : Nat.add (VM.bn (Rows.topDiesRow.wideKeys == (Tryz.f3.params.toList ++ Rows.topDiesSpec.plain.varTypes Tryz.prog ++ Tryz.f3.resultTypes.toList).any (Tryz.prog.wideKeysFrom ·))) 1 = 2 := by kernel_rfl
theorem j18 : Nat.add (VM.bn (Rows.topDiesSpec.vars.all (Tryz.prog.varReadable ·))) 1 = 2 := by kernel_rfl
theorem j19 : Nat.add (VM.bn (Tryz.f3.resultTypes.all (fun t => Tryz.prog.readableRec t && decide (t < Tryz.prog.types.size)))) 1 = 2 := by kernel_rfl
theorem j20 : Nat.add (VM.bn (Rows.topDiesRow.ifacesOut == Tryz.f3.resultTypes.toList.any (Tryz.prog.ifacesRec ·))) 1 = 2 := by kernel_rfl
theorem j21 : Nat.add (VM.bn (Rows.topDiesRow.loopsOut == Tryz.f3.resultTypes.toList.any (Tryz.prog.loopsFrom ·))) 1 = 2 := by kernel_rfl
theorem j22 : Nat.add (VM.bn (Rows.topDiesRow.plainKeys == Tryz.prog.plainKeys)) 1 = 2 := by kernel_rfl
theorem j23 : Nat.add (VM.bn (Rows.topDiesRow.shortTexts.isNone)) 1 = 2 := by kernel_rfl
theorem j24 : Nat.add (VM.bn (Tryz.prog.stopsHeard)) 1 = 2 := by kernel_rfl
theorem j25 : Nat.add (VM.bn (Tryz.prog.mayEnter)) 1 = 2 := by kernel_rfl
theorem j26 : Nat.add (VM.bn (Rows.topDiesRow.lifted == Tryz.prog.liftsFinal)) 1 = 2 := by kernel_rfl
theorem j27 : Nat.add (VM.bn (Tryz.prog.make == some Rows.topDiesRow.make)) 1 = 2 := by kernel_rfl
theorem j28 : Nat.add (VM.bn (Rows.topDiesRow.kinds == (if Rows.topDiesRow.domain.isEmpty then [] else Tryz.f3.params.toList.map fun t => match Tryz.prog.underlying t with | some (.int k) => some k | _ => none))) 1 = 2 := by kernel_rfl
theorem j29 : Nat.add (VM.bn (Rows.topDiesRow.pinned == Rows.topDiesRow.pinnedBy)) 1 = 2 := by kernel_rfl
theorem j30 : Nat.add (VM.bn (Rows.topDiesRow.veiled == (Tryz.f3.params.toList ++ Rows.topDiesSpec.plain.varTypes Tryz.prog ++ Tryz.f3.resultTypes.toList).any (Tryz.prog.veiledRec ·))) 1 = 2 := by kernel_rfl
theorem j31 : Nat.add (VM.bn (Rows.topDiesRow.veiledFits Tryz.prog Tryz.f3.params.toList (Tryz.f3.params.toList ++ Rows.topDiesSpec.plain.varTypes Tryz.prog ++ Tryz.f3.resultTypes.toList))) 1 = 2 := by kernel_rfl
theorem closed : joinedFacts Tryz.prog 3 Tryz.f3 Rows.topDiesSpec Rows.topDiesRow = true := by
  unfold joinedFacts
  exact (and_i (and_i (and_i (and_i (and_i (and_i (and_i (and_i (and_i (and_i (and_i (and_i (and_i (and_i (and_i (and_i (and_i (and_i (and_i (and_i (and_i (and_i (and_i (and_i (and_i (and_i (and_i (and_i (and_i (and_i (and_i (VM.of_bn j0) (VM.of_bn j1)) (VM.of_bn j2)) (VM.of_bn j3)) (VM.of_bn j4)) (VM.of_bn j5)) (VM.of_bn j6)) (VM.of_bn j7)) (VM.of_bn j8)) (VM.of_bn j9)) (VM.of_bn j10)) (VM.of_bn j11)) (VM.of_bn j12)) (VM.of_bn j13)) (VM.of_bn j14)) (VM.of_bn j15)) (VM.of_bn j16)) (VM.of_bn j17)) (VM.of_bn j18)) (VM.of_bn j19)) (VM.of_bn j20)) (VM.of_bn j21)) (VM.of_bn j22)) (VM.of_bn j23)) (VM.of_bn j24)) (VM.of_bn j25)) (VM.of_bn j26)) (VM.of_bn j27)) (VM.of_bn j28)) (VM.of_bn j29)) (VM.of_bn j30)) (VM.of_bn j31))
theorem named : Tryz.prog.funcNamed Rows.topDiesRow.func = some 3 := by kernel_rfl
theorem over : Rows.topDiesRow.holds Tryz.pinned (OpenSpec.ofChange Rows.topDiesSpec) :=
  OpenClaim.holds_of_wide 3 Tryz.f3 rfl rfl rfl rfl rfl rfl rfl ⟨rfl, rfl, rfl, rfl, rfl⟩ rfl rfl rfl rfl rfl named Tryz.func3 closed
    (of_decide_eq_true (by kernel_rfl)) (by unfold Func.isWrapper; first | (rw [if_pos (by decide +kernel)]; kernel_rfl) | (rw [if_neg (by decide +kernel)]; exact ⟨rfl, rfl⟩))
    (fun os started H enc _ => lifted os started H enc)

theorem proved : Rows.TopDiesSaid :=
  over
#print axioms proved
end Go.Proofs.YtaekfgbfpfecdaaGreat.topDies
