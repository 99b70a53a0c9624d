/-
  Whatever the input, the law QueryRayCasts answers true, and the input reads as it did. Conditions: none.
-/
import Derived.Test.YtaboklmipmjmoaaGreatC90
import Derived.Test.YtaboklmipmjmoaaGreatMA
import Derived.Test.YtaboklmipmjmoaaGreatPF
set_option linter.all false
namespace Go.Proofs.YtaboklmipmjmoaaGreat.RQueryRayCasts
open Go.ChangeShapes Go.WideShapes Go.ChangeAt Go.RowKit Go.AL Go.Carom
def shapes : List (Bool × List Sh) := [(true, [.int .i64, .int .i64, .int .i64, .int .i64, .int .i64, .sl true [.int .i64, .int .i64, .int .i64, .int .i64, .int .i64, .int .i64, .int .i64, .int .i64, .int .i64, .int .i64, .int .i64, .int .i64, .int .i64, .int .i64, .bool, .bool, .bool, .bool, .int .i64, .sl true [.int .i64, .int .i64, .sl true [.int .i64, .int .i64], .int .i64, .int .i64, .int .i64, .bool, .int .i64, .int .i64, .int .i64]], .sl true [.int .i64, .int .i64, .int .i64, .int .i64, .int .i64, .int .i64, .int .i64, .int .i64, .int .i64, .int .i64, .int .i64, .bool, .int .i64, .int .i64, .bool, .int .i64, .int .i64, .int .i64, .int .i64, .bool, .int .i64, .int .i64, .int .i64, .int .i64], .sl true [.int .i64, .int .i64, .int .i64, .int .i64, .int .i64, .int .i64, .sl true [.int .i64, .int .i64, .int .i64, .int .i64, .int .i64, .int .i64]], .sl true [.int .i64, .int .i64, .int .i64, .int .i64], .int .i64, .int .i64]), (true, [.int .i64, .int .i64]), (true, [.int .i64, .int .i64]), (false, [.int .i64])]
theorem shapes_are : shA Tryz.prog Tryz.f4.params.toList = some shapes := by kernel_rfl
theorem yes : Yes Rows.queryRayCastsSpec Tryz.f4.params.toList.length := by
  rw [show Tryz.f4.params.toList.length = 4 by kernel_rfl]
  refine ⟨rfl, fun H ds h => ?_⟩
  match ds, h with
  | [a, b, c, d], _ => exact ⟨rfl, rfl, rfl⟩
theorem law (av : List AV) (h : InA shapes av) : PCall Tryz.prog 4 av (.b true) := by
  obtain ⟨cs0, av0, h0, rfl, g0⟩ := inA_cons.1 h
  obtain ⟨cs1, av1, h1, rfl, g1⟩ := inA_cons.1 g0
  obtain ⟨cs2, av2, h2, rfl, g2⟩ := inA_cons.1 g1
  obtain ⟨cs3, av3, h3, rfl, g3⟩ := inA_cons.1 g2
  obtain rfl := inA_nil.1 g3
  obtain ⟨w0, rfl, q0⟩ := in_wd h0
  obtain ⟨x1, y1, rfl⟩ := in_vec h1
  obtain ⟨x2, y2, rfl⟩ := in_vec h2
  obtain ⟨n3, e3⟩ := in_int h3
  rw [e3]
  exact l_rays w0 ⟨x1, y1, x2, y2⟩ n3
set_option maxRecDepth 100000 in
theorem lifted (os : Os) (started : os.Started) (H : Type) (enc : TypeId × Value → H) :
    ReturnsInHanded {} Tryz.checked os 4 .any (Rows.queryRayCastsSpec.pre6 enc Tryz.prog Tryz.f4 Rows.queryRayCastsRow.domain false) (Rows.queryRayCastsSpec.post enc Tryz.prog Tryz.f4 false true false false) :=
  row_lifted (C := Tryz.checked) (tb := 4) pfOwn started pfLaid (by kernel_rfl) Tryz.func4 (by kernel_rfl) (by kernel_rfl) shapes_are yes
    (ChangeSpec.witness6 (enc := enc) (C := Tryz.checked) false ⟨#[], #[.agg #[.int .i64 0, .int .i64 0, .int .i64 0, .int .i64 0, .int .i64 0, .slice none 0 0, .slice none 0 0, .slice none 0 0, .slice none 0 0, .int .i64 0, .int .i64 0], .agg #[.int .i64 0, .int .i64 0], .agg #[.int .i64 0, .int .i64 0], .int .i64 0], []⟩ 8 (by kernel_rfl) (by kernel_rfl) (by kernel_rfl) (by kernel_rfl)) law
set_option maxRecDepth 100000
theorem am {a b : Bool} (h : a = true) (h' : b = true) : (a && b) = true := by rw [h, h']; rfl
theorem j0 : Rows.queryRayCastsRow.wf (OpenSpec.ofChange Rows.queryRayCastsSpec) = true := by kernel_rfl
theorem j1 : laidOutB Tryz.prog = true := pfLaid
theorem j2 : mapsRowed Tryz.prog = true := pfMaps
theorem j3 : Tryz.f4.params.all (Tryz.prog.readableRec ·) = true := by kernel_rfl
theorem j4 : namedTie Tryz.prog Rows.queryRayCastsRow.named Rows.queryRayCastsSpec.vars = true := by kernel_rfl
theorem j5 : (Rows.queryRayCastsRow.stops == []) = true := by kernel_rfl
theorem j6 : (Tryz.prog.stops == []) = true := pfStops
theorem j7 : (Rows.queryRayCastsRow.knobs == []) = true := by kernel_rfl
theorem j8 : (Tryz.prog.stopKnobs == []) = true := pfKnobs
theorem j9 : (Rows.queryRayCastsRow.inPlace == Tryz.prog.inPlace 4) = true := by kernel_rfl
theorem j10 : (Rows.queryRayCastsRow.unfollowed == Tryz.prog.unfollowed 4) = true := by kernel_rfl
theorem j11 : (Rows.queryRayCastsRow.recurses == Tryz.prog.recurses 4) = true := by kernel_rfl
theorem j12 : (Rows.queryRayCastsRow.named == Tryz.prog.varsNamed 4) = true := by kernel_rfl
theorem j13 : (Rows.queryRayCastsRow.maps == (Tryz.f4.params.toList ++ Rows.queryRayCastsSpec.plain.varTypes Tryz.prog).any (Tryz.prog.mapsRec ·)) = true := by kernel_rfl
theorem j14 : (Rows.queryRayCastsRow.ifaces == (Tryz.f4.params.toList ++ Rows.queryRayCastsSpec.plain.varTypes Tryz.prog).any (Tryz.prog.ifacesRec ·)) = true := by kernel_rfl
theorem j15 : (Rows.queryRayCastsRow.mapsOut == Tryz.prog.mapsAmong Tryz.f4.resultTypes.toList) = true := by kernel_rfl
theorem j16 : (Rows.queryRayCastsRow.loops == (Tryz.f4.params.toList ++ Rows.queryRayCastsSpec.plain.varTypes Tryz.prog).any (Tryz.prog.loopsFrom ·)) = true := by kernel_rfl
theorem j17 : (Rows.queryRayCastsRow.wideKeys == (Tryz.f4.params.toList ++ Rows.queryRayCastsSpec.plain.varTypes Tryz.prog ++ Tryz.f4.resultTypes.toList).any (Tryz.prog.wideKeysFrom ·)) = true := by kernel_rfl
theorem j18 : Rows.queryRayCastsSpec.vars.all (Tryz.prog.varReadable ·) = true := by kernel_rfl
theorem j19 : Tryz.f4.resultTypes.all (fun t => Tryz.prog.readableRec t && decide (t < Tryz.prog.types.size)) = true := by kernel_rfl
theorem j20 : (Rows.queryRayCastsRow.ifacesOut == Tryz.f4.resultTypes.toList.any (Tryz.prog.ifacesRec ·)) = true := by kernel_rfl
theorem j21 : (Rows.queryRayCastsRow.loopsOut == Tryz.f4.resultTypes.toList.any (Tryz.prog.loopsFrom ·)) = true := by kernel_rfl
theorem j22 : (Rows.queryRayCastsRow.plainKeys == Tryz.prog.plainKeys) = true := by kernel_rfl
theorem j23 : Rows.queryRayCastsRow.shortTexts.isNone = true := by kernel_rfl
theorem j24 : Tryz.prog.stopsHeard = true := pfHeard
theorem j25 : Tryz.prog.mayEnter = true := pfMay
theorem j26 : (Rows.queryRayCastsRow.lifted == Tryz.prog.liftsFinal) = true := by rw [headIs.final]; kernel_rfl
theorem j27 : (Tryz.prog.make == some Rows.queryRayCastsRow.make) = true := by rw [pfMade]; kernel_rfl
theorem j28 : (Rows.queryRayCastsRow.kinds == (if Rows.queryRayCastsRow.domain.isEmpty then [] else Tryz.f4.params.toList.map fun t => match Tryz.prog.underlying t with | some (.int k) => some k | _ => none)) = true := by kernel_rfl
theorem j29 : (Rows.queryRayCastsRow.pinned == Rows.queryRayCastsRow.pinnedBy) = true := by kernel_rfl
theorem j30 : (Rows.queryRayCastsRow.veiled == (Tryz.f4.params.toList ++ Rows.queryRayCastsSpec.plain.varTypes Tryz.prog ++ Tryz.f4.resultTypes.toList).any (Tryz.prog.veiledRec ·)) = true := by kernel_rfl
theorem j31 : Rows.queryRayCastsRow.veiledFits Tryz.prog Tryz.f4.params.toList (Tryz.f4.params.toList ++ Rows.queryRayCastsSpec.plain.varTypes Tryz.prog ++ Tryz.f4.resultTypes.toList) = true := by kernel_rfl
theorem closed : joinedFacts Tryz.prog 4 Tryz.f4 Rows.queryRayCastsSpec Rows.queryRayCastsRow = true := (am (am (am (am (am (am (am (am (am (am (am (am (am (am (am (am (am (am (am (am (am (am (am (am (am (am (am (am (am (am (am j0 j1) j2) j3) j4) j5) j6) j7) j8) j9) j10) j11) j12) j13) j14) j15) j16) j17) j18) j19) j20) j21) j22) j23) j24) j25) j26) j27) j28) j29) j30) j31)
theorem over : Rows.queryRayCastsRow.holds Tryz.pinned (OpenSpec.ofChange Rows.queryRayCastsSpec) :=
  OpenClaim.holds_of_wide 4 Tryz.f4 rfl rfl rfl rfl rfl rfl rfl ⟨rfl, rfl, rfl, rfl, rfl⟩ rfl rfl rfl rfl rfl (by kernel_rfl) Tryz.func4 closed
    (of_decide_eq_true (by kernel_rfl)) (by unfold Func.isWrapper; first | (rw [if_pos (by decide +kernel)]; kernel_rfl) | (rw [if_neg (by decide +kernel)]; exact ⟨rfl, rfl⟩))
    (fun os started H enc _ => lifted os started H enc)
end Go.Proofs.YtaboklmipmjmoaaGreat.RQueryRayCasts
namespace Go.Proofs.YtaboklmipmjmoaaGreat
theorem queryRayCasts_holds : Rows.QueryRayCastsSaid := RQueryRayCasts.over
end Go.Proofs.YtaboklmipmjmoaaGreat
