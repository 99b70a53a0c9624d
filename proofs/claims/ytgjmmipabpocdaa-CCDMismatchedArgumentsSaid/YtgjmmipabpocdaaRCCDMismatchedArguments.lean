/-
  Whatever the input, the law CCDMismatchedArguments answers true, and the input reads as it did. Conditions: none.
-/
import Derived.Test.YtgjmmipabpocdaaC49
import Derived.Test.YtgjmmipabpocdaaMA
import Derived.Test.YtgjmmipabpocdaaPF
set_option linter.all false
namespace Go.Proofs.Ytgjmmipabpocdaa.RCCDMismatchedArguments
open Go.ChangeShapes Go.WideShapes Go.ChangeAt Go.RowKit Go.AL Go.Carom

def shapes : List (Bool × List Sh) := [(true, [.sl true [.int .i64, .int .i64, .int .i64, .int .i64, .int .i64, .int .i64, .int .i64, .int .i64, .int .i64, .int .i64, .int .i64, .int .i64, .int .i64, .int .i64, .bool, .bool, .bool, .bool, .int .i64, .sl true [.int .i64, .int .i64, .sl true [.int .i64, .int .i64], .int .i64, .int .i64, .int .i64, .bool, .int .i64, .int .i64, .int .i64]], .sl true [.int .i64, .int .i64, .int .i64, .int .i64, .int .i64, .int .i64, .int .i64, .int .i64, .int .i64, .int .i64, .int .i64, .int .i64, .int .i64, .int .i64, .bool, .bool, .bool, .bool, .int .i64, .sl true [.int .i64, .int .i64, .sl true [.int .i64, .int .i64], .int .i64, .int .i64, .int .i64, .bool, .int .i64, .int .i64, .int .i64]], .sl true [.int .i64, .int .i64, .int .i64, .int .i64, .int .i64, .int .i64, .int .i64, .int .i64, .int .i64, .int .i64, .int .i64, .bool, .int .i64, .int .i64, .bool, .int .i64, .int .i64, .int .i64, .int .i64, .bool, .int .i64, .int .i64, .int .i64, .int .i64]]), (false, [.int .i64])]
theorem shapes_are : shA Try.prog Try.f4.params.toList = some shapes := by kernel_rfl
theorem yes : Yes Rows.cCDMismatchedArgumentsSpec Try.f4.params.toList.length := by
  rw [show Try.f4.params.toList.length = 2 by kernel_rfl]
  refine ⟨rfl, fun H ds h => ?_⟩
  match ds, h with
  | [a, b], _ => exact ⟨rfl, rfl, rfl⟩
theorem law (av : List AV) (h : InA shapes av) : PCall Try.prog 4 av (.b true) := by
  obtain ⟨cs0, av0, h0, rfl, g0⟩ := inA_cons.1 h
  obtain ⟨cs1, av1, h1, rfl, g1⟩ := inA_cons.1 g0
  obtain rfl := inA_nil.1 g1
  obtain ⟨was0, now0, js0, rfl, hw0, hn0, hwF0, hnF0⟩ := in_mo39 h0
  obtain ⟨n1, e1⟩ := in_int h1
  rw [e1]
  exact k_mis was0 now0 js0 hw0 hn0 hwF0 hnF0 n1
set_option maxRecDepth 100000 in
theorem lifted (os : Os) (started : os.Started) (H : Type) (enc : TypeId × Value → H) :
    ReturnsInHanded {} Try.checked os 4 .any (Rows.cCDMismatchedArgumentsSpec.pre6 enc Try.prog Try.f4 Rows.cCDMismatchedArgumentsRow.domain false) (Rows.cCDMismatchedArgumentsSpec.post enc Try.prog Try.f4 false true false false) :=
  row_lifted (C := Try.checked) (tb := 4) pfOwn started pfLaid (by kernel_rfl) Try.func4 (by kernel_rfl) (by kernel_rfl) shapes_are yes
    (ChangeSpec.witness6 (enc := enc) (C := Try.checked) false ⟨#[], #[.agg #[.slice none 0 0, .slice none 0 0, .slice none 0 0], .int .i64 0], []⟩ 8 (by kernel_rfl) (by kernel_rfl) (by kernel_rfl) (by kernel_rfl)) law
set_option maxRecDepth 100000
theorem am {a b : Bool} (h : a = true) (h' : b = true) : (a && b) = true := by rw [h, h']; rfl
theorem j0 : Rows.cCDMismatchedArgumentsRow.wf (OpenSpec.ofChange Rows.cCDMismatchedArgumentsSpec) = true := by kernel_rfl
theorem j1 : laidOutB Try.prog = true := pfLaid
theorem j2 : mapsRowed Try.prog = true := pfMaps
theorem j3 : Try.f4.params.all (Try.prog.readableRec ·) = true := by kernel_rfl
theorem j4 : namedTie Try.prog Rows.cCDMismatchedArgumentsRow.named Rows.cCDMismatchedArgumentsSpec.vars = true := by kernel_rfl
theorem j5 : (Rows.cCDMismatchedArgumentsRow.stops == []) = true := by kernel_rfl
theorem j6 : (Try.prog.stops == []) = true := pfStops
theorem j7 : (Rows.cCDMismatchedArgumentsRow.knobs == []) = true := by kernel_rfl
theorem j8 : (Try.prog.stopKnobs == []) = true := pfKnobs
theorem j9 : (Rows.cCDMismatchedArgumentsRow.inPlace == Try.prog.inPlace 4) = true := by kernel_rfl
theorem j10 : (Rows.cCDMismatchedArgumentsRow.unfollowed == Try.prog.unfollowed 4) = true := by kernel_rfl
theorem j11 : (Rows.cCDMismatchedArgumentsRow.recurses == Try.prog.recurses 4) = true := by kernel_rfl
theorem j12 : (Rows.cCDMismatchedArgumentsRow.named == Try.prog.varsNamed 4) = true := by kernel_rfl
theorem j13 : (Rows.cCDMismatchedArgumentsRow.maps == (Try.f4.params.toList ++ Rows.cCDMismatchedArgumentsSpec.plain.varTypes Try.prog).any (Try.prog.mapsRec ·)) = true := by kernel_rfl
theorem j14 : (Rows.cCDMismatchedArgumentsRow.ifaces == (Try.f4.params.toList ++ Rows.cCDMismatchedArgumentsSpec.plain.varTypes Try.prog).any (Try.prog.ifacesRec ·)) = true := by kernel_rfl
theorem j15 : (Rows.cCDMismatchedArgumentsRow.mapsOut == Try.prog.mapsAmong Try.f4.resultTypes.toList) = true := by kernel_rfl
theorem j16 : (Rows.cCDMismatchedArgumentsRow.loops == (Try.f4.params.toList ++ Rows.cCDMismatchedArgumentsSpec.plain.varTypes Try.prog).any (Try.prog.loopsFrom ·)) = true := by kernel_rfl
theorem j17 : (Rows.cCDMismatchedArgumentsRow.wideKeys == (Try.f4.params.toList ++ Rows.cCDMismatchedArgumentsSpec.plain.varTypes Try.prog ++ Try.f4.resultTypes.toList).any (Try.prog.wideKeysFrom ·)) = true := by kernel_rfl
theorem j18 : Rows.cCDMismatchedArgumentsSpec.vars.all (Try.prog.varReadable ·) = true := by kernel_rfl
theorem j19 : Try.f4.resultTypes.all (fun t => Try.prog.readableRec t && decide (t < Try.prog.types.size)) = true := by kernel_rfl
theorem j20 : (Rows.cCDMismatchedArgumentsRow.ifacesOut == Try.f4.resultTypes.toList.any (Try.prog.ifacesRec ·)) = true := by kernel_rfl
theorem j21 : (Rows.cCDMismatchedArgumentsRow.loopsOut == Try.f4.resultTypes.toList.any (Try.prog.loopsFrom ·)) = true := by kernel_rfl
theorem j22 : (Rows.cCDMismatchedArgumentsRow.plainKeys == Try.prog.plainKeys) = true := by kernel_rfl
theorem j23 : Rows.cCDMismatchedArgumentsRow.shortTexts.isNone = true := by kernel_rfl
theorem j24 : Try.prog.stopsHeard = true := pfHeard
theorem j25 : Try.prog.mayEnter = true := pfMay
theorem j26 : (Rows.cCDMismatchedArgumentsRow.lifted == Try.prog.liftsFinal) = true := by rw [headIs.final]; kernel_rfl
theorem j27 : (Try.prog.make == some Rows.cCDMismatchedArgumentsRow.make) = true := by rw [pfMade]; kernel_rfl
theorem j28 : (Rows.cCDMismatchedArgumentsRow.kinds == (if Rows.cCDMismatchedArgumentsRow.domain.isEmpty then [] else Try.f4.params.toList.map fun t => match Try.prog.underlying t with | some (.int k) => some k | _ => none)) = true := by kernel_rfl
theorem j29 : (Rows.cCDMismatchedArgumentsRow.pinned == Rows.cCDMismatchedArgumentsRow.pinnedBy) = true := by kernel_rfl
theorem j30 : (Rows.cCDMismatchedArgumentsRow.veiled == (Try.f4.params.toList ++ Rows.cCDMismatchedArgumentsSpec.plain.varTypes Try.prog ++ Try.f4.resultTypes.toList).any (Try.prog.veiledRec ·)) = true := by kernel_rfl
theorem j31 : Rows.cCDMismatchedArgumentsRow.veiledFits Try.prog Try.f4.params.toList (Try.f4.params.toList ++ Rows.cCDMismatchedArgumentsSpec.plain.varTypes Try.prog ++ Try.f4.resultTypes.toList) = true := by kernel_rfl
theorem closed : joinedFacts Try.prog 4 Try.f4 Rows.cCDMismatchedArgumentsSpec Rows.cCDMismatchedArgumentsRow = true := (am (am (am (am (am (am (am (am (am (am (am (am (am (am (am (am (am (am (am (am (am (am (am (am (am (am (am (am (am (am (am j0 j1) j2) j3) j4) j5) j6) j7) j8) j9) j10) j11) j12) j13) j14) j15) j16) j17) j18) j19) j20) j21) j22) j23) j24) j25) j26) j27) j28) j29) j30) j31)
theorem over : Rows.cCDMismatchedArgumentsRow.holds Try.pinned (OpenSpec.ofChange Rows.cCDMismatchedArgumentsSpec) :=
  OpenClaim.holds_of_wide 4 Try.f4 rfl rfl rfl rfl rfl rfl rfl ⟨rfl, rfl, rfl, rfl, rfl⟩ rfl rfl rfl rfl rfl (by kernel_rfl) Try.func4 closed
    (of_decide_eq_true (by kernel_rfl)) (by unfold Func.isWrapper; first | (rw [if_pos (by decide +kernel)]; kernel_rfl) | (rw [if_neg (by decide +kernel)]; exact ⟨rfl, rfl⟩))
    (fun os started H enc _ => lifted os started H enc)
end Go.Proofs.Ytgjmmipabpocdaa.RCCDMismatchedArguments
namespace Go.Proofs.Ytgjmmipabpocdaa
theorem cCDMismatchedArguments_holds : Rows.CCDMismatchedArgumentsSaid := RCCDMismatchedArguments.over
end Go.Proofs.Ytgjmmipabpocdaa
