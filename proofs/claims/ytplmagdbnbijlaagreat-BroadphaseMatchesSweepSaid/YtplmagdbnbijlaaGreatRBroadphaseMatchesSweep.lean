/-
  Whatever the input, the law BroadphaseMatchesSweep answers true, and the input reads as it did. Conditions: none.
-/
import Derived.Test.YtplmagdbnbijlaaGreatC117
import Derived.Test.YtplmagdbnbijlaaGreatMA
import Derived.Test.YtplmagdbnbijlaaGreatPF
set_option linter.all false
namespace Go.Proofs.YtplmagdbnbijlaaGreat.RBroadphaseMatchesSweep
open Go.ChangeShapes Go.WideShapes Go.ChangeAt Go.RowKit Go.AL Go.Carom
def shapes : List (Bool × List Sh) := [(false, [.sl true [.int .i64, .int .i64, .int .i64, .int .i64, .int .i64, .int .i64, .int .i64, .int .i64, .int .i64, .int .i64, .int .i64, .int .i64, .int .i64, .int .i64, .bool, .bool, .bool, .bool, .int .i64, .sl true [.int .i64, .int .i64, .sl true [.int .i64, .int .i64], .int .i64, .int .i64, .int .i64, .bool, .int .i64, .int .i64, .int .i64]]]), (false, [.sl true [.int .i64, .int .i64, .int .i64, .int .i64, .int .i64, .int .i64, .int .i64, .int .i64, .int .i64, .int .i64, .int .i64, .bool, .int .i64, .int .i64, .bool, .int .i64, .int .i64, .int .i64, .int .i64, .bool, .int .i64, .int .i64, .int .i64, .int .i64]])]
theorem shapes_are : shA Tryz.prog Tryz.f7.params.toList = some shapes := by kernel_rfl
theorem yes : Yes Rows.broadphaseMatchesSweepSpec Tryz.f7.params.toList.length := by
  rw [show Tryz.f7.params.toList.length = 2 by kernel_rfl]
  refine ⟨rfl, fun H ds h => ?_⟩
  match ds, h with
  | [a, b], _ => exact ⟨rfl, rfl, rfl⟩
theorem law (av : List AV) (h : InA shapes av) : PCall Tryz.prog 7 av (.b true) := by
  obtain ⟨cs0, av0, h0, rfl, g0⟩ := inA_cons.1 h
  obtain ⟨cs1, av1, h1, rfl, g1⟩ := inA_cons.1 g0
  obtain rfl := inA_nil.1 g1
  obtain ⟨c0, e0, h0⟩ := in_one h0
  obtain ⟨l0, rfl, hl0, q0⟩ := in_bds h0
  rw [e0]
  obtain ⟨c1, e1, h1⟩ := in_one h1
  obtain ⟨l1, rfl, hl1, q1⟩ := in_jts h1
  rw [e1]
  exact l_bps l0 hl0 l1 hl1
set_option maxRecDepth 100000 in
theorem lifted (os : Os) (started : os.Started) (H : Type) (enc : TypeId × Value → H) :
    ReturnsInHanded {} Tryz.checked os 7 .any (Rows.broadphaseMatchesSweepSpec.pre6 enc Tryz.prog Tryz.f7 Rows.broadphaseMatchesSweepRow.domain false) (Rows.broadphaseMatchesSweepSpec.post enc Tryz.prog Tryz.f7 false true false false) :=
  row_lifted (C := Tryz.checked) (tb := 4) pfOwn started pfLaid (by kernel_rfl) Tryz.func7 (by kernel_rfl) (by kernel_rfl) shapes_are yes
    (ChangeSpec.witness6 (enc := enc) (C := Tryz.checked) false ⟨#[], #[.slice none 0 0, .slice none 0 0], []⟩ 8 (by kernel_rfl) (by kernel_rfl) (by kernel_rfl) (by kernel_rfl)) law
set_option maxRecDepth 100000
theorem am {a b : Bool} (h : a = true) (h' : b = true) : (a && b) = true := by rw [h, h']; rfl
theorem j0 : Rows.broadphaseMatchesSweepRow.wf (OpenSpec.ofChange Rows.broadphaseMatchesSweepSpec) = true := by kernel_rfl
theorem j1 : laidOutB Tryz.prog = true := pfLaid
theorem j2 : mapsRowed Tryz.prog = true := pfMaps
theorem j3 : Tryz.f7.params.all (Tryz.prog.readableRec ·) = true := by kernel_rfl
theorem j4 : namedTie Tryz.prog Rows.broadphaseMatchesSweepRow.named Rows.broadphaseMatchesSweepSpec.vars = true := by kernel_rfl
theorem j5 : (Rows.broadphaseMatchesSweepRow.stops == []) = true := by kernel_rfl
theorem j6 : (Tryz.prog.stops == []) = true := pfStops
theorem j7 : (Rows.broadphaseMatchesSweepRow.knobs == []) = true := by kernel_rfl
theorem j8 : (Tryz.prog.stopKnobs == []) = true := pfKnobs
theorem j9 : (Rows.broadphaseMatchesSweepRow.inPlace == Tryz.prog.inPlace 7) = true := by kernel_rfl
theorem j10 : (Rows.broadphaseMatchesSweepRow.unfollowed == Tryz.prog.unfollowed 7) = true := by kernel_rfl
theorem j11 : (Rows.broadphaseMatchesSweepRow.recurses == Tryz.prog.recurses 7) = true := by kernel_rfl
theorem j12 : (Rows.broadphaseMatchesSweepRow.named == Tryz.prog.varsNamed 7) = true := by kernel_rfl
theorem j13 : (Rows.broadphaseMatchesSweepRow.maps == (Tryz.f7.params.toList ++ Rows.broadphaseMatchesSweepSpec.plain.varTypes Tryz.prog).any (Tryz.prog.mapsRec ·)) = true := by kernel_rfl
theorem j14 : (Rows.broadphaseMatchesSweepRow.ifaces == (Tryz.f7.params.toList ++ Rows.broadphaseMatchesSweepSpec.plain.varTypes Tryz.prog).any (Tryz.prog.ifacesRec ·)) = true := by kernel_rfl
theorem j15 : (Rows.broadphaseMatchesSweepRow.mapsOut == Tryz.prog.mapsAmong Tryz.f7.resultTypes.toList) = true := by kernel_rfl
theorem j16 : (Rows.broadphaseMatchesSweepRow.loops == (Tryz.f7.params.toList ++ Rows.broadphaseMatchesSweepSpec.plain.varTypes Tryz.prog).any (Tryz.prog.loopsFrom ·)) = true := by kernel_rfl
theorem j17 : (Rows.broadphaseMatchesSweepRow.wideKeys == (Tryz.f7.params.toList ++ Rows.broadphaseMatchesSweepSpec.plain.varTypes Tryz.prog ++ Tryz.f7.resultTypes.toList).any (Tryz.prog.wideKeysFrom ·)) = true := by kernel_rfl
theorem j18 : Rows.broadphaseMatchesSweepSpec.vars.all (Tryz.prog.varReadable ·) = true := by kernel_rfl
theorem j19 : Tryz.f7.resultTypes.all (fun t => Tryz.prog.readableRec t && decide (t < Tryz.prog.types.size)) = true := by kernel_rfl
theorem j20 : (Rows.broadphaseMatchesSweepRow.ifacesOut == Tryz.f7.resultTypes.toList.any (Tryz.prog.ifacesRec ·)) = true := by kernel_rfl
theorem j21 : (Rows.broadphaseMatchesSweepRow.loopsOut == Tryz.f7.resultTypes.toList.any (Tryz.prog.loopsFrom ·)) = true := by kernel_rfl
theorem j22 : (Rows.broadphaseMatchesSweepRow.plainKeys == Tryz.prog.plainKeys) = true := by kernel_rfl
theorem j23 : Rows.broadphaseMatchesSweepRow.shortTexts.isNone = true := by kernel_rfl
theorem j24 : Tryz.prog.stopsHeard = true := pfHeard
theorem j25 : Tryz.prog.mayEnter = true := pfMay
theorem j26 : (Rows.broadphaseMatchesSweepRow.lifted == Tryz.prog.liftsFinal) = true := by rw [headIs.final]; kernel_rfl
theorem j27 : (Tryz.prog.make == some Rows.broadphaseMatchesSweepRow.make) = true := by rw [pfMade]; kernel_rfl
theorem j28 : (Rows.broadphaseMatchesSweepRow.kinds == (if Rows.broadphaseMatchesSweepRow.domain.isEmpty then [] else Tryz.f7.params.toList.map fun t => match Tryz.prog.underlying t with | some (.int k) => some k | _ => none)) = true := by kernel_rfl
theorem j29 : (Rows.broadphaseMatchesSweepRow.pinned == Rows.broadphaseMatchesSweepRow.pinnedBy) = true := by kernel_rfl
theorem j30 : (Rows.broadphaseMatchesSweepRow.veiled == (Tryz.f7.params.toList ++ Rows.broadphaseMatchesSweepSpec.plain.varTypes Tryz.prog ++ Tryz.f7.resultTypes.toList).any (Tryz.prog.veiledRec ·)) = true := by kernel_rfl
theorem j31 : Rows.broadphaseMatchesSweepRow.veiledFits Tryz.prog Tryz.f7.params.toList (Tryz.f7.params.toList ++ Rows.broadphaseMatchesSweepSpec.plain.varTypes Tryz.prog ++ Tryz.f7.resultTypes.toList) = true := by kernel_rfl
theorem closed : joinedFacts Tryz.prog 7 Tryz.f7 Rows.broadphaseMatchesSweepSpec Rows.broadphaseMatchesSweepRow = true := (am (am (am (am (am (am (am (am (am (am (am (am (am (am (am (am (am (am (am (am (am (am (am (am (am (am (am (am (am (am (am j0 j1) j2) j3) j4) j5) j6) j7) j8) j9) j10) j11) j12) j13) j14) j15) j16) j17) j18) j19) j20) j21) j22) j23) j24) j25) j26) j27) j28) j29) j30) j31)
theorem over : Rows.broadphaseMatchesSweepRow.holds Tryz.pinned (OpenSpec.ofChange Rows.broadphaseMatchesSweepSpec) :=
  OpenClaim.holds_of_wide 7 Tryz.f7 rfl rfl rfl rfl rfl rfl rfl ⟨rfl, rfl, rfl, rfl, rfl⟩ rfl rfl rfl rfl rfl (by kernel_rfl) Tryz.func7 closed
    (of_decide_eq_true (by kernel_rfl)) (by unfold Func.isWrapper; first | (rw [if_pos (by decide +kernel)]; kernel_rfl) | (rw [if_neg (by decide +kernel)]; exact ⟨rfl, rfl⟩))
    (fun os started H enc _ => lifted os started H enc)
end Go.Proofs.YtplmagdbnbijlaaGreat.RBroadphaseMatchesSweep
namespace Go.Proofs.YtplmagdbnbijlaaGreat
theorem broadphaseMatchesSweep_holds : Rows.BroadphaseMatchesSweepSaid := RBroadphaseMatchesSweep.over
end Go.Proofs.YtplmagdbnbijlaaGreat
