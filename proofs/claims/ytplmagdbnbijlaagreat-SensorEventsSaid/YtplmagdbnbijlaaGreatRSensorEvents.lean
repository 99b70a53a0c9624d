/-
  Whatever the input, the law SensorEvents answers true, and the input reads as it did. Conditions: none.
-/
import Derived.Test.YtplmagdbnbijlaaGreatC122
import Derived.Test.YtplmagdbnbijlaaGreatMA
import Derived.Test.YtplmagdbnbijlaaGreatPF
set_option linter.all false
namespace Go.Proofs.YtplmagdbnbijlaaGreat.RSensorEvents
open Go.ChangeShapes Go.WideShapes Go.ChangeAt Go.RowKit Go.AL Go.Carom
def shapes : List (Bool × List Sh) := [(false, [.sl true [.int .i64, .int .i64, .int .i64, .int .i64]]), (false, [.sl true [.int .i64, .int .i64, .int .i64, .int .i64]]), (false, [.int .i64])]
theorem shapes_are : shA Tryz.prog Tryz.f11.params.toList = some shapes := by kernel_rfl
theorem yes : Yes Rows.sensorEventsSpec Tryz.f11.params.toList.length := by
  rw [show Tryz.f11.params.toList.length = 3 by kernel_rfl]
  refine ⟨rfl, fun H ds h => ?_⟩
  match ds, h with
  | [a, b, c], _ => exact ⟨rfl, rfl, rfl⟩
theorem law (av : List AV) (h : InA shapes av) : PCall Tryz.prog 11 av (.b true) := by
  obtain ⟨cs0, av0, h0, rfl, g0⟩ := inA_cons.1 h
  obtain ⟨cs1, av1, h1, rfl, g1⟩ := inA_cons.1 g0
  obtain ⟨cs2, av2, h2, rfl, g2⟩ := inA_cons.1 g1
  obtain rfl := inA_nil.1 g2
  obtain ⟨c0, e0, h0⟩ := Go.Carom.in_one h0
  obtain ⟨l0, rfl, hl0, q0⟩ := in_k4s h0
  rw [e0]
  obtain ⟨c1, e1, h1⟩ := Go.Carom.in_one h1
  obtain ⟨l1, rfl, hl1, q1⟩ := in_k4s h1
  rw [e1]
  obtain ⟨n2, e2⟩ := in_int h2
  rw [e2]
  exact l_sevl l0 l1 n2
set_option maxRecDepth 100000 in
theorem lifted (os : Os) (started : os.Started) (H : Type) (enc : TypeId × Value → H) :
    ReturnsInHanded {} Tryz.checked os 11 .any (Rows.sensorEventsSpec.pre6 enc Tryz.prog Tryz.f11 Rows.sensorEventsRow.domain false) (Rows.sensorEventsSpec.post enc Tryz.prog Tryz.f11 false true false false) :=
  row_lifted (C := Tryz.checked) (tb := 4) pfOwn started pfLaid (by kernel_rfl) Tryz.func11 (by kernel_rfl) (by kernel_rfl) shapes_are yes
    (ChangeSpec.witness6 (enc := enc) (C := Tryz.checked) false ⟨#[], #[.slice none 0 0, .slice none 0 0, .int .i64 0], []⟩ 8 (by kernel_rfl) (by kernel_rfl) (by kernel_rfl) (by kernel_rfl)) law
set_option maxRecDepth 100000
theorem am {a b : Bool} (h : a = true) (h' : b = true) : (a && b) = true := by rw [h, h']; rfl
theorem j0 : Rows.sensorEventsRow.wf (OpenSpec.ofChange Rows.sensorEventsSpec) = true := by kernel_rfl
theorem j1 : laidOutB Tryz.prog = true := pfLaid
theorem j2 : mapsRowed Tryz.prog = true := pfMaps
theorem j3 : Tryz.f11.params.all (Tryz.prog.readableRec ·) = true := by kernel_rfl
theorem j4 : namedTie Tryz.prog Rows.sensorEventsRow.named Rows.sensorEventsSpec.vars = true := by kernel_rfl
theorem j5 : (Rows.sensorEventsRow.stops == []) = true := by kernel_rfl
theorem j6 : (Tryz.prog.stops == []) = true := pfStops
theorem j7 : (Rows.sensorEventsRow.knobs == []) = true := by kernel_rfl
theorem j8 : (Tryz.prog.stopKnobs == []) = true := pfKnobs
theorem j9 : (Rows.sensorEventsRow.inPlace == Tryz.prog.inPlace 11) = true := by kernel_rfl
theorem j10 : (Rows.sensorEventsRow.unfollowed == Tryz.prog.unfollowed 11) = true := by kernel_rfl
theorem j11 : (Rows.sensorEventsRow.recurses == Tryz.prog.recurses 11) = true := by kernel_rfl
theorem j12 : (Rows.sensorEventsRow.named == Tryz.prog.varsNamed 11) = true := by kernel_rfl
theorem j13 : (Rows.sensorEventsRow.maps == (Tryz.f11.params.toList ++ Rows.sensorEventsSpec.plain.varTypes Tryz.prog).any (Tryz.prog.mapsRec ·)) = true := by kernel_rfl
theorem j14 : (Rows.sensorEventsRow.ifaces == (Tryz.f11.params.toList ++ Rows.sensorEventsSpec.plain.varTypes Tryz.prog).any (Tryz.prog.ifacesRec ·)) = true := by kernel_rfl
theorem j15 : (Rows.sensorEventsRow.mapsOut == Tryz.prog.mapsAmong Tryz.f11.resultTypes.toList) = true := by kernel_rfl
theorem j16 : (Rows.sensorEventsRow.loops == (Tryz.f11.params.toList ++ Rows.sensorEventsSpec.plain.varTypes Tryz.prog).any (Tryz.prog.loopsFrom ·)) = true := by kernel_rfl
theorem j17 : (Rows.sensorEventsRow.wideKeys == (Tryz.f11.params.toList ++ Rows.sensorEventsSpec.plain.varTypes Tryz.prog ++ Tryz.f11.resultTypes.toList).any (Tryz.prog.wideKeysFrom ·)) = true := by kernel_rfl
theorem j18 : Rows.sensorEventsSpec.vars.all (Tryz.prog.varReadable ·) = true := by kernel_rfl
theorem j19 : Tryz.f11.resultTypes.all (fun t => Tryz.prog.readableRec t && decide (t < Tryz.prog.types.size)) = true := by kernel_rfl
theorem j20 : (Rows.sensorEventsRow.ifacesOut == Tryz.f11.resultTypes.toList.any (Tryz.prog.ifacesRec ·)) = true := by kernel_rfl
theorem j21 : (Rows.sensorEventsRow.loopsOut == Tryz.f11.resultTypes.toList.any (Tryz.prog.loopsFrom ·)) = true := by kernel_rfl
theorem j22 : (Rows.sensorEventsRow.plainKeys == Tryz.prog.plainKeys) = true := by kernel_rfl
theorem j23 : Rows.sensorEventsRow.shortTexts.isNone = true := by kernel_rfl
theorem j24 : Tryz.prog.stopsHeard = true := pfHeard
theorem j25 : Tryz.prog.mayEnter = true := pfMay
theorem j26 : (Rows.sensorEventsRow.lifted == Tryz.prog.liftsFinal) = true := by rw [headIs.final]; kernel_rfl
theorem j27 : (Tryz.prog.make == some Rows.sensorEventsRow.make) = true := by rw [pfMade]; kernel_rfl
theorem j28 : (Rows.sensorEventsRow.kinds == (if Rows.sensorEventsRow.domain.isEmpty then [] else Tryz.f11.params.toList.map fun t => match Tryz.prog.underlying t with | some (.int k) => some k | _ => none)) = true := by kernel_rfl
theorem j29 : (Rows.sensorEventsRow.pinned == Rows.sensorEventsRow.pinnedBy) = true := by kernel_rfl
theorem j30 : (Rows.sensorEventsRow.veiled == (Tryz.f11.params.toList ++ Rows.sensorEventsSpec.plain.varTypes Tryz.prog ++ Tryz.f11.resultTypes.toList).any (Tryz.prog.veiledRec ·)) = true := by kernel_rfl
theorem j31 : Rows.sensorEventsRow.veiledFits Tryz.prog Tryz.f11.params.toList (Tryz.f11.params.toList ++ Rows.sensorEventsSpec.plain.varTypes Tryz.prog ++ Tryz.f11.resultTypes.toList) = true := by kernel_rfl
theorem closed : joinedFacts Tryz.prog 11 Tryz.f11 Rows.sensorEventsSpec Rows.sensorEventsRow = true := (am (am (am (am (am (am (am (am (am (am (am (am (am (am (am (am (am (am (am (am (am (am (am (am (am (am (am (am (am (am (am j0 j1) j2) j3) j4) j5) j6) j7) j8) j9) j10) j11) j12) j13) j14) j15) j16) j17) j18) j19) j20) j21) j22) j23) j24) j25) j26) j27) j28) j29) j30) j31)
theorem over : Rows.sensorEventsRow.holds Tryz.pinned (OpenSpec.ofChange Rows.sensorEventsSpec) :=
  OpenClaim.holds_of_wide 11 Tryz.f11 rfl rfl rfl rfl rfl rfl rfl ⟨rfl, rfl, rfl, rfl, rfl⟩ rfl rfl rfl rfl rfl (by kernel_rfl) Tryz.func11 closed
    (of_decide_eq_true (by kernel_rfl)) (by unfold Func.isWrapper; first | (rw [if_pos (by decide +kernel)]; kernel_rfl) | (rw [if_neg (by decide +kernel)]; exact ⟨rfl, rfl⟩))
    (fun os started H enc _ => lifted os started H enc)
end Go.Proofs.YtplmagdbnbijlaaGreat.RSensorEvents
namespace Go.Proofs.YtplmagdbnbijlaaGreat
theorem sensorEvents_holds : Rows.SensorEventsSaid := RSensorEvents.over
end Go.Proofs.YtplmagdbnbijlaaGreat
