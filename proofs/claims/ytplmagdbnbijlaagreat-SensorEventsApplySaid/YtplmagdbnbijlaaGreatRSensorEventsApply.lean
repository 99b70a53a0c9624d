/-
  Whatever the input, the law SensorEventsApply answers true, and the input reads as it did. Conditions: none.
-/
import Derived.Test.YtplmagdbnbijlaaGreatC123
import Derived.Test.YtplmagdbnbijlaaGreatMA
import Derived.Test.YtplmagdbnbijlaaGreatPF
set_option linter.all false
namespace Go.Proofs.YtplmagdbnbijlaaGreat.RSensorEventsApply
open Go.ChangeShapes Go.WideShapes Go.ChangeAt Go.RowKit Go.AL Go.Carom
def shapes : List (Bool × List Sh) := [(false, [.sl true [.int .i64, .int .i64, .int .i64, .int .i64]]), (false, [.sl true [.int .i64, .int .i64, .int .i64, .int .i64]])]
theorem shapes_are : shA Tryz.prog Tryz.f12.params.toList = some shapes := by kernel_rfl
theorem yes : Yes Rows.sensorEventsApplySpec Tryz.f12.params.toList.length := by
  rw [show Tryz.f12.params.toList.length = 2 by kernel_rfl]
  refine ⟨rfl, fun H ds h => ?_⟩
  match ds, h with
  | [a, b], _ => exact ⟨rfl, rfl, rfl⟩
theorem law (av : List AV) (h : InA shapes av) : PCall Tryz.prog 12 av (.b true) := by
  obtain ⟨cs0, av0, h0, rfl, g0⟩ := inA_cons.1 h
  obtain ⟨cs1, av1, h1, rfl, g1⟩ := inA_cons.1 g0
  obtain rfl := inA_nil.1 g1
  obtain ⟨c0, e0, h0⟩ := Go.Carom.in_one h0
  obtain ⟨l0, rfl, hl0, q0⟩ := in_k4s h0
  rw [e0]
  obtain ⟨c1, e1, h1⟩ := Go.Carom.in_one h1
  obtain ⟨l1, rfl, hl1, q1⟩ := in_k4s h1
  rw [e1]
  exact l_seva l0 l1
set_option maxRecDepth 100000 in
theorem lifted (os : Os) (started : os.Started) (H : Type) (enc : TypeId × Value → H) :
    ReturnsInHanded {} Tryz.checked os 12 .any (Rows.sensorEventsApplySpec.pre6 enc Tryz.prog Tryz.f12 Rows.sensorEventsApplyRow.domain false) (Rows.sensorEventsApplySpec.post enc Tryz.prog Tryz.f12 false true false false) :=
  row_lifted (C := Tryz.checked) (tb := 4) pfOwn started pfLaid (by kernel_rfl) Tryz.func12 (by kernel_rfl) (by kernel_rfl) shapes_are yes
    (ChangeSpec.witness6 (enc := enc) (C := Tryz.checked) false ⟨#[], #[.slice none 0 0, .slice none 0 0], []⟩ 8 (by kernel_rfl) (by kernel_rfl) (by kernel_rfl) (by kernel_rfl)) law
set_option maxRecDepth 100000
theorem am {a b : Bool} (h : a = true) (h' : b = true) : (a && b) = true := by rw [h, h']; rfl
theorem j0 : Rows.sensorEventsApplyRow.wf (OpenSpec.ofChange Rows.sensorEventsApplySpec) = true := by kernel_rfl
theorem j1 : laidOutB Tryz.prog = true := pfLaid
theorem j2 : mapsRowed Tryz.prog = true := pfMaps
theorem j3 : Tryz.f12.params.all (Tryz.prog.readableRec ·) = true := by kernel_rfl
theorem j4 : namedTie Tryz.prog Rows.sensorEventsApplyRow.named Rows.sensorEventsApplySpec.vars = true := by kernel_rfl
theorem j5 : (Rows.sensorEventsApplyRow.stops == []) = true := by kernel_rfl
theorem j6 : (Tryz.prog.stops == []) = true := pfStops
theorem j7 : (Rows.sensorEventsApplyRow.knobs == []) = true := by kernel_rfl
theorem j8 : (Tryz.prog.stopKnobs == []) = true := pfKnobs
theorem j9 : (Rows.sensorEventsApplyRow.inPlace == Tryz.prog.inPlace 12) = true := by kernel_rfl
theorem j10 : (Rows.sensorEventsApplyRow.unfollowed == Tryz.prog.unfollowed 12) = true := by kernel_rfl
theorem j11 : (Rows.sensorEventsApplyRow.recurses == Tryz.prog.recurses 12) = true := by kernel_rfl
theorem j12 : (Rows.sensorEventsApplyRow.named == Tryz.prog.varsNamed 12) = true := by kernel_rfl
theorem j13 : (Rows.sensorEventsApplyRow.maps == (Tryz.f12.params.toList ++ Rows.sensorEventsApplySpec.plain.varTypes Tryz.prog).any (Tryz.prog.mapsRec ·)) = true := by kernel_rfl
theorem j14 : (Rows.sensorEventsApplyRow.ifaces == (Tryz.f12.params.toList ++ Rows.sensorEventsApplySpec.plain.varTypes Tryz.prog).any (Tryz.prog.ifacesRec ·)) = true := by kernel_rfl
theorem j15 : (Rows.sensorEventsApplyRow.mapsOut == Tryz.prog.mapsAmong Tryz.f12.resultTypes.toList) = true := by kernel_rfl
theorem j16 : (Rows.sensorEventsApplyRow.loops == (Tryz.f12.params.toList ++ Rows.sensorEventsApplySpec.plain.varTypes Tryz.prog).any (Tryz.prog.loopsFrom ·)) = true := by kernel_rfl
theorem j17 : (Rows.sensorEventsApplyRow.wideKeys == (Tryz.f12.params.toList ++ Rows.sensorEventsApplySpec.plain.varTypes Tryz.prog ++ Tryz.f12.resultTypes.toList).any (Tryz.prog.wideKeysFrom ·)) = true := by kernel_rfl
theorem j18 : Rows.sensorEventsApplySpec.vars.all (Tryz.prog.varReadable ·) = true := by kernel_rfl
theorem j19 : Tryz.f12.resultTypes.all (fun t => Tryz.prog.readableRec t && decide (t < Tryz.prog.types.size)) = true := by kernel_rfl
theorem j20 : (Rows.sensorEventsApplyRow.ifacesOut == Tryz.f12.resultTypes.toList.any (Tryz.prog.ifacesRec ·)) = true := by kernel_rfl
theorem j21 : (Rows.sensorEventsApplyRow.loopsOut == Tryz.f12.resultTypes.toList.any (Tryz.prog.loopsFrom ·)) = true := by kernel_rfl
theorem j22 : (Rows.sensorEventsApplyRow.plainKeys == Tryz.prog.plainKeys) = true := by kernel_rfl
theorem j23 : Rows.sensorEventsApplyRow.shortTexts.isNone = true := by kernel_rfl
theorem j24 : Tryz.prog.stopsHeard = true := pfHeard
theorem j25 : Tryz.prog.mayEnter = true := pfMay
theorem j26 : (Rows.sensorEventsApplyRow.lifted == Tryz.prog.liftsFinal) = true := by rw [headIs.final]; kernel_rfl
theorem j27 : (Tryz.prog.make == some Rows.sensorEventsApplyRow.make) = true := by rw [pfMade]; kernel_rfl
theorem j28 : (Rows.sensorEventsApplyRow.kinds == (if Rows.sensorEventsApplyRow.domain.isEmpty then [] else Tryz.f12.params.toList.map fun t => match Tryz.prog.underlying t with | some (.int k) => some k | _ => none)) = true := by kernel_rfl
theorem j29 : (Rows.sensorEventsApplyRow.pinned == Rows.sensorEventsApplyRow.pinnedBy) = true := by kernel_rfl
theorem j30 : (Rows.sensorEventsApplyRow.veiled == (Tryz.f12.params.toList ++ Rows.sensorEventsApplySpec.plain.varTypes Tryz.prog ++ Tryz.f12.resultTypes.toList).any (Tryz.prog.veiledRec ·)) = true := by kernel_rfl
theorem j31 : Rows.sensorEventsApplyRow.veiledFits Tryz.prog Tryz.f12.params.toList (Tryz.f12.params.toList ++ Rows.sensorEventsApplySpec.plain.varTypes Tryz.prog ++ Tryz.f12.resultTypes.toList) = true := by kernel_rfl
theorem closed : joinedFacts Tryz.prog 12 Tryz.f12 Rows.sensorEventsApplySpec Rows.sensorEventsApplyRow = true := (am (am (am (am (am (am (am (am (am (am (am (am (am (am (am (am (am (am (am (am (am (am (am (am (am (am (am (am (am (am (am j0 j1) j2) j3) j4) j5) j6) j7) j8) j9) j10) j11) j12) j13) j14) j15) j16) j17) j18) j19) j20) j21) j22) j23) j24) j25) j26) j27) j28) j29) j30) j31)
theorem over : Rows.sensorEventsApplyRow.holds Tryz.pinned (OpenSpec.ofChange Rows.sensorEventsApplySpec) :=
  OpenClaim.holds_of_wide 12 Tryz.f12 rfl rfl rfl rfl rfl rfl rfl ⟨rfl, rfl, rfl, rfl, rfl⟩ rfl rfl rfl rfl rfl (by kernel_rfl) Tryz.func12 closed
    (of_decide_eq_true (by kernel_rfl)) (by unfold Func.isWrapper; first | (rw [if_pos (by decide +kernel)]; kernel_rfl) | (rw [if_neg (by decide +kernel)]; exact ⟨rfl, rfl⟩))
    (fun os started H enc _ => lifted os started H enc)
end Go.Proofs.YtplmagdbnbijlaaGreat.RSensorEventsApply
namespace Go.Proofs.YtplmagdbnbijlaaGreat
theorem sensorEventsApply_holds : Rows.SensorEventsApplySaid := RSensorEventsApply.over
end Go.Proofs.YtplmagdbnbijlaaGreat
