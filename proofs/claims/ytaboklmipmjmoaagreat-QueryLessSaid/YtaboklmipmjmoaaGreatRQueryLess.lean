/-
  Whatever the input, the law QueryLess answers true, and the input reads as it did. Conditions: none.
-/
import Derived.Test.YtaboklmipmjmoaaGreatC90
import Derived.Test.YtaboklmipmjmoaaGreatMA
import Derived.Test.YtaboklmipmjmoaaGreatPF
set_option linter.all false
namespace Go.Proofs.YtaboklmipmjmoaaGreat.RQueryLess
open Go.ChangeShapes Go.WideShapes Go.ChangeAt Go.RowKit Go.AL Go.Carom
def shapes : List (Bool × List Sh) := [(true, [.int .i64, .int .i64, .int .i64, .int .i64, .int .i64, .int .i64, .int .i64]), (true, [.int .i64, .int .i64, .int .i64, .int .i64, .int .i64, .int .i64, .int .i64]), (true, [.int .i64, .int .i64, .int .i64, .int .i64, .int .i64, .int .i64, .int .i64])]
theorem shapes_are : shA Tryz.prog Tryz.f6.params.toList = some shapes := by kernel_rfl
theorem yes : Yes Rows.queryLessSpec Tryz.f6.params.toList.length := by
  rw [show Tryz.f6.params.toList.length = 3 by kernel_rfl]
  refine ⟨rfl, fun H ds h => ?_⟩
  match ds, h with
  | [a, b, c], _ => exact ⟨rfl, rfl, rfl⟩
theorem law (av : List AV) (h : InA shapes av) : PCall Tryz.prog 6 av (.b true) := by
  obtain ⟨cs0, av0, h0, rfl, g0⟩ := inA_cons.1 h
  obtain ⟨cs1, av1, h1, rfl, g1⟩ := inA_cons.1 g0
  obtain ⟨cs2, av2, h2, rfl, g2⟩ := inA_cons.1 g1
  obtain rfl := inA_nil.1 g2
  obtain ⟨r0, rfl, q0⟩ := in_rh h0
  obtain ⟨r1, rfl, q1⟩ := in_rh h1
  obtain ⟨r2, rfl, q2⟩ := in_rh h2
  exact l_less r0 r1 r2
set_option maxRecDepth 100000 in
theorem lifted (os : Os) (started : os.Started) (H : Type) (enc : TypeId × Value → H) :
    ReturnsInHanded {} Tryz.checked os 6 .any (Rows.queryLessSpec.pre6 enc Tryz.prog Tryz.f6 Rows.queryLessRow.domain false) (Rows.queryLessSpec.post enc Tryz.prog Tryz.f6 false true false false) :=
  row_lifted (C := Tryz.checked) (tb := 4) pfOwn started pfLaid (by kernel_rfl) Tryz.func6 (by kernel_rfl) (by kernel_rfl) shapes_are yes
    (ChangeSpec.witness6 (enc := enc) (C := Tryz.checked) false ⟨#[], #[.agg #[.int .i64 0, .int .i64 0, .int .i64 0, .int .i64 0, .int .i64 0, .int .i64 0, .int .i64 0], .agg #[.int .i64 0, .int .i64 0, .int .i64 0, .int .i64 0, .int .i64 0, .int .i64 0, .int .i64 0], .agg #[.int .i64 0, .int .i64 0, .int .i64 0, .int .i64 0, .int .i64 0, .int .i64 0, .int .i64 0]], []⟩ 8 (by kernel_rfl) (by kernel_rfl) (by kernel_rfl) (by kernel_rfl)) law
set_option maxRecDepth 100000
theorem am {a b : Bool} (h : a = true) (h' : b = true) : (a && b) = true := by rw [h, h']; rfl
theorem j0 : Rows.queryLessRow.wf (OpenSpec.ofChange Rows.queryLessSpec) = true := by kernel_rfl
theorem j1 : laidOutB Tryz.prog = true := pfLaid
theorem j2 : mapsRowed Tryz.prog = true := pfMaps
theorem j3 : Tryz.f6.params.all (Tryz.prog.readableRec ·) = true := by kernel_rfl
theorem j4 : namedTie Tryz.prog Rows.queryLessRow.named Rows.queryLessSpec.vars = true := by kernel_rfl
theorem j5 : (Rows.queryLessRow.stops == []) = true := by kernel_rfl
theorem j6 : (Tryz.prog.stops == []) = true := pfStops
theorem j7 : (Rows.queryLessRow.knobs == []) = true := by kernel_rfl
theorem j8 : (Tryz.prog.stopKnobs == []) = true := pfKnobs
theorem j9 : (Rows.queryLessRow.inPlace == Tryz.prog.inPlace 6) = true := by kernel_rfl
theorem j10 : (Rows.queryLessRow.unfollowed == Tryz.prog.unfollowed 6) = true := by kernel_rfl
theorem j11 : (Rows.queryLessRow.recurses == Tryz.prog.recurses 6) = true := by kernel_rfl
theorem j12 : (Rows.queryLessRow.named == Tryz.prog.varsNamed 6) = true := by kernel_rfl
theorem j13 : (Rows.queryLessRow.maps == (Tryz.f6.params.toList ++ Rows.queryLessSpec.plain.varTypes Tryz.prog).any (Tryz.prog.mapsRec ·)) = true := by kernel_rfl
theorem j14 : (Rows.queryLessRow.ifaces == (Tryz.f6.params.toList ++ Rows.queryLessSpec.plain.varTypes Tryz.prog).any (Tryz.prog.ifacesRec ·)) = true := by kernel_rfl
theorem j15 : (Rows.queryLessRow.mapsOut == Tryz.prog.mapsAmong Tryz.f6.resultTypes.toList) = true := by kernel_rfl
theorem j16 : (Rows.queryLessRow.loops == (Tryz.f6.params.toList ++ Rows.queryLessSpec.plain.varTypes Tryz.prog).any (Tryz.prog.loopsFrom ·)) = true := by kernel_rfl
theorem j17 : (Rows.queryLessRow.wideKeys == (Tryz.f6.params.toList ++ Rows.queryLessSpec.plain.varTypes Tryz.prog ++ Tryz.f6.resultTypes.toList).any (Tryz.prog.wideKeysFrom ·)) = true := by kernel_rfl
theorem j18 : Rows.queryLessSpec.vars.all (Tryz.prog.varReadable ·) = true := by kernel_rfl
theorem j19 : Tryz.f6.resultTypes.all (fun t => Tryz.prog.readableRec t && decide (t < Tryz.prog.types.size)) = true := by kernel_rfl
theorem j20 : (Rows.queryLessRow.ifacesOut == Tryz.f6.resultTypes.toList.any (Tryz.prog.ifacesRec ·)) = true := by kernel_rfl
theorem j21 : (Rows.queryLessRow.loopsOut == Tryz.f6.resultTypes.toList.any (Tryz.prog.loopsFrom ·)) = true := by kernel_rfl
theorem j22 : (Rows.queryLessRow.plainKeys == Tryz.prog.plainKeys) = true := by kernel_rfl
theorem j23 : Rows.queryLessRow.shortTexts.isNone = true := by kernel_rfl
theorem j24 : Tryz.prog.stopsHeard = true := pfHeard
theorem j25 : Tryz.prog.mayEnter = true := pfMay
theorem j26 : (Rows.queryLessRow.lifted == Tryz.prog.liftsFinal) = true := by rw [headIs.final]; kernel_rfl
theorem j27 : (Tryz.prog.make == some Rows.queryLessRow.make) = true := by rw [pfMade]; kernel_rfl
theorem j28 : (Rows.queryLessRow.kinds == (if Rows.queryLessRow.domain.isEmpty then [] else Tryz.f6.params.toList.map fun t => match Tryz.prog.underlying t with | some (.int k) => some k | _ => none)) = true := by kernel_rfl
theorem j29 : (Rows.queryLessRow.pinned == Rows.queryLessRow.pinnedBy) = true := by kernel_rfl
theorem j30 : (Rows.queryLessRow.veiled == (Tryz.f6.params.toList ++ Rows.queryLessSpec.plain.varTypes Tryz.prog ++ Tryz.f6.resultTypes.toList).any (Tryz.prog.veiledRec ·)) = true := by kernel_rfl
theorem j31 : Rows.queryLessRow.veiledFits Tryz.prog Tryz.f6.params.toList (Tryz.f6.params.toList ++ Rows.queryLessSpec.plain.varTypes Tryz.prog ++ Tryz.f6.resultTypes.toList) = true := by kernel_rfl
theorem closed : joinedFacts Tryz.prog 6 Tryz.f6 Rows.queryLessSpec Rows.queryLessRow = true := (am (am (am (am (am (am (am (am (am (am (am (am (am (am (am (am (am (am (am (am (am (am (am (am (am (am (am (am (am (am (am j0 j1) j2) j3) j4) j5) j6) j7) j8) j9) j10) j11) j12) j13) j14) j15) j16) j17) j18) j19) j20) j21) j22) j23) j24) j25) j26) j27) j28) j29) j30) j31)
theorem over : Rows.queryLessRow.holds Tryz.pinned (OpenSpec.ofChange Rows.queryLessSpec) :=
  OpenClaim.holds_of_wide 6 Tryz.f6 rfl rfl rfl rfl rfl rfl rfl ⟨rfl, rfl, rfl, rfl, rfl⟩ rfl rfl rfl rfl rfl (by kernel_rfl) Tryz.func6 closed
    (of_decide_eq_true (by kernel_rfl)) (by unfold Func.isWrapper; first | (rw [if_pos (by decide +kernel)]; kernel_rfl) | (rw [if_neg (by decide +kernel)]; exact ⟨rfl, rfl⟩))
    (fun os started H enc _ => lifted os started H enc)
end Go.Proofs.YtaboklmipmjmoaaGreat.RQueryLess
namespace Go.Proofs.YtaboklmipmjmoaaGreat
theorem queryLess_holds : Rows.QueryLessSaid := RQueryLess.over
end Go.Proofs.YtaboklmipmjmoaaGreat
