/-
  Whatever the input, the law QueryBodies answers true, and the input reads as it did. Conditions: none.
-/
import Derived.Test.YtaboklmipmjmoaaGreatC90
import Derived.Test.YtaboklmipmjmoaaGreatMA
import Derived.Test.YtaboklmipmjmoaaGreatPF
set_option linter.all false
namespace Go.Proofs.YtaboklmipmjmoaaGreat.RQueryBodies
open Go.ChangeShapes Go.WideShapes Go.ChangeAt Go.RowKit Go.AL Go.Carom
def shapes : List (Bool × List Sh) := [(true, [.int .i64, .int .i64, .int .i64, .int .i64, .int .i64, .sl true [.int .i64, .int .i64, .int .i64, .int .i64, .int .i64, .int .i64, .int .i64, .int .i64, .int .i64, .int .i64, .int .i64, .int .i64, .int .i64, .int .i64, .bool, .bool, .bool, .bool, .int .i64, .sl true [.int .i64, .int .i64, .sl true [.int .i64, .int .i64], .int .i64, .int .i64, .int .i64, .bool, .int .i64, .int .i64, .int .i64]], .sl true [.int .i64, .int .i64, .int .i64, .int .i64, .int .i64, .int .i64, .int .i64, .int .i64, .int .i64, .int .i64, .int .i64, .bool, .int .i64, .int .i64, .bool, .int .i64, .int .i64, .int .i64, .int .i64, .bool, .int .i64, .int .i64, .int .i64, .int .i64], .sl true [.int .i64, .int .i64, .int .i64, .int .i64, .int .i64, .int .i64, .sl true [.int .i64, .int .i64, .int .i64, .int .i64, .int .i64, .int .i64]], .sl true [.int .i64, .int .i64, .int .i64, .int .i64], .int .i64, .int .i64]), (true, [.int .i64, .int .i64]), (true, [.int .i64, .int .i64, .int .i64, .int .i64]), (false, [.int .i64]), (false, [.int .i64])]
theorem shapes_are : shA Tryz.prog Tryz.f8.params.toList = some shapes := by kernel_rfl
theorem yes : Yes Rows.queryBodiesSpec Tryz.f8.params.toList.length := by
  rw [show Tryz.f8.params.toList.length = 5 by kernel_rfl]
  refine ⟨rfl, fun H ds h => ?_⟩
  match ds, h with
  | [a, b, c, d, e], _ => exact ⟨rfl, rfl, rfl⟩
theorem law (av : List AV) (h : InA shapes av) : PCall Tryz.prog 8 av (.b true) := by
  obtain ⟨cs0, av0, h0, rfl, g0⟩ := inA_cons.1 h
  obtain ⟨cs1, av1, h1, rfl, g1⟩ := inA_cons.1 g0
  obtain ⟨cs2, av2, h2, rfl, g2⟩ := inA_cons.1 g1
  obtain ⟨cs3, av3, h3, rfl, g3⟩ := inA_cons.1 g2
  obtain ⟨cs4, av4, h4, rfl, g4⟩ := inA_cons.1 g3
  obtain rfl := inA_nil.1 g4
  obtain ⟨w0, rfl, q0⟩ := in_wd h0
  obtain ⟨x1, y1, rfl⟩ := in_vec h1
  obtain ⟨fx2, fy2, tx2, ty2, rfl⟩ := in_ray h2
  obtain ⟨n3, e3⟩ := in_int h3
  rw [e3]
  obtain ⟨n4, e4⟩ := in_int h4
  rw [e4]
  exact l_bodies w0 x1 y1 fx2 fy2 tx2 ty2 n3 n4
set_option maxRecDepth 100000 in
theorem lifted (os : Os) (started : os.Started) (H : Type) (enc : TypeId × Value → H) :
    ReturnsInHanded {} Tryz.checked os 8 .any (Rows.queryBodiesSpec.pre6 enc Tryz.prog Tryz.f8 Rows.queryBodiesRow.domain false) (Rows.queryBodiesSpec.post enc Tryz.prog Tryz.f8 false true false false) :=
  row_lifted (C := Tryz.checked) (tb := 4) pfOwn started pfLaid (by kernel_rfl) Tryz.func8 (by kernel_rfl) (by kernel_rfl) shapes_are yes
    (ChangeSpec.witness6 (enc := enc) (C := Tryz.checked) false ⟨#[], #[.agg #[.int .i64 0, .int .i64 0, .int .i64 0, .int .i64 0, .int .i64 0, .slice none 0 0, .slice none 0 0, .slice none 0 0, .slice none 0 0, .int .i64 0, .int .i64 0], .agg #[.int .i64 0, .int .i64 0], .agg #[.int .i64 0, .int .i64 0, .int .i64 0, .int .i64 0], .int .i64 0, .int .i64 0], []⟩ 8 (by kernel_rfl) (by kernel_rfl) (by kernel_rfl) (by kernel_rfl)) law
set_option maxRecDepth 100000
theorem am {a b : Bool} (h : a = true) (h' : b = true) : (a && b) = true := by rw [h, h']; rfl
theorem j0 : Rows.queryBodiesRow.wf (OpenSpec.ofChange Rows.queryBodiesSpec) = true := by kernel_rfl
theorem j1 : laidOutB Tryz.prog = true := pfLaid
theorem j2 : mapsRowed Tryz.prog = true := pfMaps
theorem j3 : Tryz.f8.params.all (Tryz.prog.readableRec ·) = true := by kernel_rfl
theorem j4 : namedTie Tryz.prog Rows.queryBodiesRow.named Rows.queryBodiesSpec.vars = true := by kernel_rfl
theorem j5 : (Rows.queryBodiesRow.stops == []) = true := by kernel_rfl
theorem j6 : (Tryz.prog.stops == []) = true := pfStops
theorem j7 : (Rows.queryBodiesRow.knobs == []) = true := by kernel_rfl
theorem j8 : (Tryz.prog.stopKnobs == []) = true := pfKnobs
theorem j9 : (Rows.queryBodiesRow.inPlace == Tryz.prog.inPlace 8) = true := by kernel_rfl
theorem j10 : (Rows.queryBodiesRow.unfollowed == Tryz.prog.unfollowed 8) = true := by kernel_rfl
theorem j11 : (Rows.queryBodiesRow.recurses == Tryz.prog.recurses 8) = true := by kernel_rfl
theorem j12 : (Rows.queryBodiesRow.named == Tryz.prog.varsNamed 8) = true := by kernel_rfl
theorem j13 : (Rows.queryBodiesRow.maps == (Tryz.f8.params.toList ++ Rows.queryBodiesSpec.plain.varTypes Tryz.prog).any (Tryz.prog.mapsRec ·)) = true := by kernel_rfl
theorem j14 : (Rows.queryBodiesRow.ifaces == (Tryz.f8.params.toList ++ Rows.queryBodiesSpec.plain.varTypes Tryz.prog).any (Tryz.prog.ifacesRec ·)) = true := by kernel_rfl
theorem j15 : (Rows.queryBodiesRow.mapsOut == Tryz.prog.mapsAmong Tryz.f8.resultTypes.toList) = true := by kernel_rfl
theorem j16 : (Rows.queryBodiesRow.loops == (Tryz.f8.params.toList ++ Rows.queryBodiesSpec.plain.varTypes Tryz.prog).any (Tryz.prog.loopsFrom ·)) = true := by kernel_rfl
theorem j17 : (Rows.queryBodiesRow.wideKeys == (Tryz.f8.params.toList ++ Rows.queryBodiesSpec.plain.varTypes Tryz.prog ++ Tryz.f8.resultTypes.toList).any (Tryz.prog.wideKeysFrom ·)) = true := by kernel_rfl
theorem j18 : Rows.queryBodiesSpec.vars.all (Tryz.prog.varReadable ·) = true := by kernel_rfl
theorem j19 : Tryz.f8.resultTypes.all (fun t => Tryz.prog.readableRec t && decide (t < Tryz.prog.types.size)) = true := by kernel_rfl
theorem j20 : (Rows.queryBodiesRow.ifacesOut == Tryz.f8.resultTypes.toList.any (Tryz.prog.ifacesRec ·)) = true := by kernel_rfl
theorem j21 : (Rows.queryBodiesRow.loopsOut == Tryz.f8.resultTypes.toList.any (Tryz.prog.loopsFrom ·)) = true := by kernel_rfl
theorem j22 : (Rows.queryBodiesRow.plainKeys == Tryz.prog.plainKeys) = true := by kernel_rfl
theorem j23 : Rows.queryBodiesRow.shortTexts.isNone = true := by kernel_rfl
theorem j24 : Tryz.prog.stopsHeard = true := pfHeard
theorem j25 : Tryz.prog.mayEnter = true := pfMay
theorem j26 : (Rows.queryBodiesRow.lifted == Tryz.prog.liftsFinal) = true := by rw [headIs.final]; kernel_rfl
theorem j27 : (Tryz.prog.make == some Rows.queryBodiesRow.make) = true := by rw [pfMade]; kernel_rfl
theorem j28 : (Rows.queryBodiesRow.kinds == (if Rows.queryBodiesRow.domain.isEmpty then [] else Tryz.f8.params.toList.map fun t => match Tryz.prog.underlying t with | some (.int k) => some k | _ => none)) = true := by kernel_rfl
theorem j29 : (Rows.queryBodiesRow.pinned == Rows.queryBodiesRow.pinnedBy) = true := by kernel_rfl
theorem j30 : (Rows.queryBodiesRow.veiled == (Tryz.f8.params.toList ++ Rows.queryBodiesSpec.plain.varTypes Tryz.prog ++ Tryz.f8.resultTypes.toList).any (Tryz.prog.veiledRec ·)) = true := by kernel_rfl
theorem j31 : Rows.queryBodiesRow.veiledFits Tryz.prog Tryz.f8.params.toList (Tryz.f8.params.toList ++ Rows.queryBodiesSpec.plain.varTypes Tryz.prog ++ Tryz.f8.resultTypes.toList) = true := by kernel_rfl
theorem closed : joinedFacts Tryz.prog 8 Tryz.f8 Rows.queryBodiesSpec Rows.queryBodiesRow = true := (am (am (am (am (am (am (am (am (am (am (am (am (am (am (am (am (am (am (am (am (am (am (am (am (am (am (am (am (am (am (am j0 j1) j2) j3) j4) j5) j6) j7) j8) j9) j10) j11) j12) j13) j14) j15) j16) j17) j18) j19) j20) j21) j22) j23) j24) j25) j26) j27) j28) j29) j30) j31)
theorem over : Rows.queryBodiesRow.holds Tryz.pinned (OpenSpec.ofChange Rows.queryBodiesSpec) :=
  OpenClaim.holds_of_wide 8 Tryz.f8 rfl rfl rfl rfl rfl rfl rfl ⟨rfl, rfl, rfl, rfl, rfl⟩ rfl rfl rfl rfl rfl (by kernel_rfl) Tryz.func8 closed
    (of_decide_eq_true (by kernel_rfl)) (by unfold Func.isWrapper; first | (rw [if_pos (by decide +kernel)]; kernel_rfl) | (rw [if_neg (by decide +kernel)]; exact ⟨rfl, rfl⟩))
    (fun os started H enc _ => lifted os started H enc)
end Go.Proofs.YtaboklmipmjmoaaGreat.RQueryBodies
namespace Go.Proofs.YtaboklmipmjmoaaGreat
theorem queryBodies_holds : Rows.QueryBodiesSaid := RQueryBodies.over
end Go.Proofs.YtaboklmipmjmoaaGreat
