/-
  Whatever the input, the law BroadphaseFiltering answers true, and the input reads as it did. Conditions: none.
-/
import Derived.Test.YtplmagdbnbijlaaGreatC115
import Derived.Test.YtplmagdbnbijlaaGreatMA
import Derived.Test.YtplmagdbnbijlaaGreatPF
set_option linter.all false
namespace Go.Proofs.YtplmagdbnbijlaaGreat.RBroadphaseFiltering
open Go.ChangeShapes Go.WideShapes Go.ChangeAt Go.RowKit Go.AL Go.Carom
def shapes : List (Bool × List Sh) := [(true, [.int .i64, .int .i64, .sl true [.int .i64, .int .i64], .int .i64, .int .i64, .int .i64, .bool, .int .i64, .int .i64, .int .i64]), (true, [.int .i64, .int .i64, .sl true [.int .i64, .int .i64], .int .i64, .int .i64, .int .i64, .bool, .int .i64, .int .i64, .int .i64]), (false, [.sl true [.int .i64, .int .i64, .int .i64, .int .i64, .int .i64, .int .i64, .int .i64, .int .i64, .int .i64, .int .i64, .int .i64, .bool, .int .i64, .int .i64, .bool, .int .i64, .int .i64, .int .i64, .int .i64, .bool, .int .i64, .int .i64, .int .i64, .int .i64]]), (false, [.int .i64]), (false, [.int .i64])]
theorem shapes_are : shA Tryz.prog Tryz.f4.params.toList = some shapes := by kernel_rfl
theorem yes : Yes Rows.broadphaseFilteringSpec Tryz.f4.params.toList.length := by
  rw [show Tryz.f4.params.toList.length = 5 by kernel_rfl]
  refine ⟨rfl, fun H ds h => ?_⟩
  match ds, h with
  | [a, b, c, d, e], _ => exact ⟨rfl, rfl, rfl⟩
theorem law (av : List AV) (h : InA shapes av) : PCall Tryz.prog 4 av (.b true) := by
  obtain ⟨cs0, av0, h0, rfl, g0⟩ := inA_cons.1 h
  obtain ⟨cs1, av1, h1, rfl, g1⟩ := inA_cons.1 g0
  obtain ⟨cs2, av2, h2, rfl, g2⟩ := inA_cons.1 g1
  obtain ⟨cs3, av3, h3, rfl, g3⟩ := inA_cons.1 g2
  obtain ⟨cs4, av4, h4, rfl, g4⟩ := inA_cons.1 g3
  obtain rfl := inA_nil.1 g4
  obtain ⟨f0, rfl, q0⟩ := in_fx h0
  obtain ⟨f1, rfl, q1⟩ := in_fx h1
  obtain ⟨c2, e2, h2⟩ := in_one h2
  obtain ⟨l2, rfl, hl2, q2⟩ := in_jts h2
  rw [e2]
  obtain ⟨n3, e3⟩ := in_int h3
  rw [e3]
  obtain ⟨n4, e4⟩ := in_int h4
  rw [e4]
  exact l_bpf f0 f1 l2 hl2 n3 n4
set_option maxRecDepth 100000 in
theorem lifted (os : Os) (started : os.Started) (H : Type) (enc : TypeId × Value → H) :
    ReturnsInHanded {} Tryz.checked os 4 .any (Rows.broadphaseFilteringSpec.pre6 enc Tryz.prog Tryz.f4 Rows.broadphaseFilteringRow.domain false) (Rows.broadphaseFilteringSpec.post enc Tryz.prog Tryz.f4 false true false false) :=
  row_lifted (C := Tryz.checked) (tb := 4) pfOwn started pfLaid (by kernel_rfl) Tryz.func4 (by kernel_rfl) (by kernel_rfl) shapes_are yes
    (ChangeSpec.witness6 (enc := enc) (C := Tryz.checked) false ⟨#[], #[.agg #[.int .i64 0, .int .i64 0, .slice none 0 0, .int .i64 0, .int .i64 0, .int .i64 0, .bool false, .int .i64 0, .int .i64 0, .int .i64 0], .agg #[.int .i64 0, .int .i64 0, .slice none 0 0, .int .i64 0, .int .i64 0, .int .i64 0, .bool false, .int .i64 0, .int .i64 0, .int .i64 0], .slice none 0 0, .int .i64 0, .int .i64 0], []⟩ 8 (by kernel_rfl) (by kernel_rfl) (by kernel_rfl) (by kernel_rfl)) law
set_option maxRecDepth 100000
theorem am {a b : Bool} (h : a = true) (h' : b = true) : (a && b) = true := by rw [h, h']; rfl
theorem j0 : Rows.broadphaseFilteringRow.wf (OpenSpec.ofChange Rows.broadphaseFilteringSpec) = true := by kernel_rfl
theorem j1 : laidOutB Tryz.prog = true := pfLaid
theorem j2 : mapsRowed Tryz.prog = true := pfMaps
theorem j3 : Tryz.f4.params.all (Tryz.prog.readableRec ·) = true := by kernel_rfl
theorem j4 : namedTie Tryz.prog Rows.broadphaseFilteringRow.named Rows.broadphaseFilteringSpec.vars = true := by kernel_rfl
theorem j5 : (Rows.broadphaseFilteringRow.stops == []) = true := by kernel_rfl
theorem j6 : (Tryz.prog.stops == []) = true := pfStops
theorem j7 : (Rows.broadphaseFilteringRow.knobs == []) = true := by kernel_rfl
theorem j8 : (Tryz.prog.stopKnobs == []) = true := pfKnobs
theorem j9 : (Rows.broadphaseFilteringRow.inPlace == Tryz.prog.inPlace 4) = true := by kernel_rfl
theorem j10 : (Rows.broadphaseFilteringRow.unfollowed == Tryz.prog.unfollowed 4) = true := by kernel_rfl
theorem j11 : (Rows.broadphaseFilteringRow.recurses == Tryz.prog.recurses 4) = true := by kernel_rfl
theorem j12 : (Rows.broadphaseFilteringRow.named == Tryz.prog.varsNamed 4) = true := by kernel_rfl
theorem j13 : (Rows.broadphaseFilteringRow.maps == (Tryz.f4.params.toList ++ Rows.broadphaseFilteringSpec.plain.varTypes Tryz.prog).any (Tryz.prog.mapsRec ·)) = true := by kernel_rfl
theorem j14 : (Rows.broadphaseFilteringRow.ifaces == (Tryz.f4.params.toList ++ Rows.broadphaseFilteringSpec.plain.varTypes Tryz.prog).any (Tryz.prog.ifacesRec ·)) = true := by kernel_rfl
theorem j15 : (Rows.broadphaseFilteringRow.mapsOut == Tryz.prog.mapsAmong Tryz.f4.resultTypes.toList) = true := by kernel_rfl
theorem j16 : (Rows.broadphaseFilteringRow.loops == (Tryz.f4.params.toList ++ Rows.broadphaseFilteringSpec.plain.varTypes Tryz.prog).any (Tryz.prog.loopsFrom ·)) = true := by kernel_rfl
theorem j17 : (Rows.broadphaseFilteringRow.wideKeys == (Tryz.f4.params.toList ++ Rows.broadphaseFilteringSpec.plain.varTypes Tryz.prog ++ Tryz.f4.resultTypes.toList).any (Tryz.prog.wideKeysFrom ·)) = true := by kernel_rfl
theorem j18 : Rows.broadphaseFilteringSpec.vars.all (Tryz.prog.varReadable ·) = true := by kernel_rfl
theorem j19 : Tryz.f4.resultTypes.all (fun t => Tryz.prog.readableRec t && decide (t < Tryz.prog.types.size)) = true := by kernel_rfl
theorem j20 : (Rows.broadphaseFilteringRow.ifacesOut == Tryz.f4.resultTypes.toList.any (Tryz.prog.ifacesRec ·)) = true := by kernel_rfl
theorem j21 : (Rows.broadphaseFilteringRow.loopsOut == Tryz.f4.resultTypes.toList.any (Tryz.prog.loopsFrom ·)) = true := by kernel_rfl
theorem j22 : (Rows.broadphaseFilteringRow.plainKeys == Tryz.prog.plainKeys) = true := by kernel_rfl
theorem j23 : Rows.broadphaseFilteringRow.shortTexts.isNone = true := by kernel_rfl
theorem j24 : Tryz.prog.stopsHeard = true := pfHeard
theorem j25 : Tryz.prog.mayEnter = true := pfMay
theorem j26 : (Rows.broadphaseFilteringRow.lifted == Tryz.prog.liftsFinal) = true := by rw [headIs.final]; kernel_rfl
theorem j27 : (Tryz.prog.make == some Rows.broadphaseFilteringRow.make) = true := by rw [pfMade]; kernel_rfl
theorem j28 : (Rows.broadphaseFilteringRow.kinds == (if Rows.broadphaseFilteringRow.domain.isEmpty then [] else Tryz.f4.params.toList.map fun t => match Tryz.prog.underlying t with | some (.int k) => some k | _ => none)) = true := by kernel_rfl
theorem j29 : (Rows.broadphaseFilteringRow.pinned == Rows.broadphaseFilteringRow.pinnedBy) = true := by kernel_rfl
theorem j30 : (Rows.broadphaseFilteringRow.veiled == (Tryz.f4.params.toList ++ Rows.broadphaseFilteringSpec.plain.varTypes Tryz.prog ++ Tryz.f4.resultTypes.toList).any (Tryz.prog.veiledRec ·)) = true := by kernel_rfl
theorem j31 : Rows.broadphaseFilteringRow.veiledFits Tryz.prog Tryz.f4.params.toList (Tryz.f4.params.toList ++ Rows.broadphaseFilteringSpec.plain.varTypes Tryz.prog ++ Tryz.f4.resultTypes.toList) = true := by kernel_rfl
theorem closed : joinedFacts Tryz.prog 4 Tryz.f4 Rows.broadphaseFilteringSpec Rows.broadphaseFilteringRow = true := (am (am (am (am (am (am (am (am (am (am (am (am (am (am (am (am (am (am (am (am (am (am (am (am (am (am (am (am (am (am (am j0 j1) j2) j3) j4) j5) j6) j7) j8) j9) j10) j11) j12) j13) j14) j15) j16) j17) j18) j19) j20) j21) j22) j23) j24) j25) j26) j27) j28) j29) j30) j31)
theorem over : Rows.broadphaseFilteringRow.holds Tryz.pinned (OpenSpec.ofChange Rows.broadphaseFilteringSpec) :=
  OpenClaim.holds_of_wide 4 Tryz.f4 rfl rfl rfl rfl rfl rfl rfl ⟨rfl, rfl, rfl, rfl, rfl⟩ rfl rfl rfl rfl rfl (by kernel_rfl) Tryz.func4 closed
    (of_decide_eq_true (by kernel_rfl)) (by unfold Func.isWrapper; first | (rw [if_pos (by decide +kernel)]; kernel_rfl) | (rw [if_neg (by decide +kernel)]; exact ⟨rfl, rfl⟩))
    (fun os started H enc _ => lifted os started H enc)
end Go.Proofs.YtplmagdbnbijlaaGreat.RBroadphaseFiltering
namespace Go.Proofs.YtplmagdbnbijlaaGreat
theorem broadphaseFiltering_holds : Rows.BroadphaseFilteringSaid := RBroadphaseFiltering.over
end Go.Proofs.YtplmagdbnbijlaaGreat
