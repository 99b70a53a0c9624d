/-
  Whatever the input, the law ShapeValidateExact answers true, and the input reads as it did. Conditions: none.
-/
import Derived.Test.YtojkdbeodjanpaaC9
import Derived.Test.YtojkdbeodjanpaaM11
import Derived.Test.YtojkdbeodjanpaaPF
set_option linter.all false
namespace Go.Proofs.Ytojkdbeodjanpaa.RShapeValidateExact
open Go.ChangeShapes Go.WideShapes Go.ChangeAt Go.RowKit Go.AL Go.Carom

def shapes : List (Bool × List Sh) := [(true, [.int .i64, .int .i64, .sl true [.int .i64, .int .i64]]), (true, [.int .i64, .int .i64, .sl true [.int .i64, .int .i64]])]
theorem shapes_are : shA Try.prog Try.f5.params.toList = some shapes := by kernel_rfl
theorem yes : Yes Rows.shapeValidateExactSpec Try.f5.params.toList.length := by
  rw [show Try.f5.params.toList.length = 2 by kernel_rfl]
  refine ⟨rfl, fun H ds h => ?_⟩
  match ds, h with
  | [a, b], _ => exact ⟨rfl, rfl, rfl⟩
theorem law (av : List AV) (h : InA shapes av) : PCall Try.prog 5 av (.b true) := by
  obtain ⟨cs0, av0, h0, rfl, g0⟩ := inA_cons.1 h
  obtain ⟨cs1, av1, h1, rfl, g1⟩ := inA_cons.1 g0
  obtain rfl := inA_nil.1 g1
  obtain ⟨k0, r0, ps0, rfl, hl0⟩ := in_shape h0
  obtain ⟨k1, r1, ps1, rfl, hl1⟩ := in_shape h1
  exact l_val k0 r0 k1 r1 ps0 hl0 ps1 hl1
set_option maxRecDepth 100000 in
theorem lifted (os : Os) (started : os.Started) (H : Type) (enc : TypeId × Value → H) :
    ReturnsInHanded {} Try.checked os 5 .any (Rows.shapeValidateExactSpec.pre6 enc Try.prog Try.f5 Rows.shapeValidateExactRow.domain false) (Rows.shapeValidateExactSpec.post enc Try.prog Try.f5 false true false false) :=
  row_lifted (C := Try.checked) (tb := 4) pfOwn started pfLaid (by kernel_rfl) Try.func5 (by kernel_rfl) (by kernel_rfl) shapes_are yes
    (ChangeSpec.witness6 (enc := enc) (C := Try.checked) false ⟨#[], #[.agg #[.int .i64 0, .int .i64 0, .slice none 0 0], .agg #[.int .i64 0, .int .i64 0, .slice none 0 0]], []⟩ 8 (by kernel_rfl) (by kernel_rfl) (by kernel_rfl) (by kernel_rfl)) law
set_option maxRecDepth 100000
theorem am {a b : Bool} (h : a = true) (h' : b = true) : (a && b) = true := by rw [h, h']; rfl
theorem j0 : Rows.shapeValidateExactRow.wf (OpenSpec.ofChange Rows.shapeValidateExactSpec) = true := by kernel_rfl
theorem j1 : laidOutB Try.prog = true := pfLaid
theorem j2 : mapsRowed Try.prog = true := pfMaps
theorem j3 : Try.f5.params.all (Try.prog.readableRec ·) = true := by kernel_rfl
theorem j4 : namedTie Try.prog Rows.shapeValidateExactRow.named Rows.shapeValidateExactSpec.vars = true := by kernel_rfl
theorem j5 : (Rows.shapeValidateExactRow.stops == []) = true := by kernel_rfl
theorem j6 : (Try.prog.stops == []) = true := pfStops
theorem j7 : (Rows.shapeValidateExactRow.knobs == []) = true := by kernel_rfl
theorem j8 : (Try.prog.stopKnobs == []) = true := pfKnobs
theorem j9 : (Rows.shapeValidateExactRow.inPlace == Try.prog.inPlace 5) = true := by kernel_rfl
theorem j10 : (Rows.shapeValidateExactRow.unfollowed == Try.prog.unfollowed 5) = true := by kernel_rfl
theorem j11 : (Rows.shapeValidateExactRow.recurses == Try.prog.recurses 5) = true := by kernel_rfl
theorem j12 : (Rows.shapeValidateExactRow.named == Try.prog.varsNamed 5) = true := by kernel_rfl
theorem j13 : (Rows.shapeValidateExactRow.maps == (Try.f5.params.toList ++ Rows.shapeValidateExactSpec.plain.varTypes Try.prog).any (Try.prog.mapsRec ·)) = true := by kernel_rfl
theorem j14 : (Rows.shapeValidateExactRow.ifaces == (Try.f5.params.toList ++ Rows.shapeValidateExactSpec.plain.varTypes Try.prog).any (Try.prog.ifacesRec ·)) = true := by kernel_rfl
theorem j15 : (Rows.shapeValidateExactRow.mapsOut == Try.prog.mapsAmong Try.f5.resultTypes.toList) = true := by kernel_rfl
theorem j16 : (Rows.shapeValidateExactRow.loops == (Try.f5.params.toList ++ Rows.shapeValidateExactSpec.plain.varTypes Try.prog).any (Try.prog.loopsFrom ·)) = true := by kernel_rfl
theorem j17 : (Rows.shapeValidateExactRow.wideKeys == (Try.f5.params.toList ++ Rows.shapeValidateExactSpec.plain.varTypes Try.prog ++ Try.f5.resultTypes.toList).any (Try.prog.wideKeysFrom ·)) = true := by kernel_rfl
theorem j18 : Rows.shapeValidateExactSpec.vars.all (Try.prog.varReadable ·) = true := by kernel_rfl
theorem j19 : Try.f5.resultTypes.all (fun t => Try.prog.readableRec t && decide (t < Try.prog.types.size)) = true := by kernel_rfl
theorem j20 : (Rows.shapeValidateExactRow.ifacesOut == Try.f5.resultTypes.toList.any (Try.prog.ifacesRec ·)) = true := by kernel_rfl
theorem j21 : (Rows.shapeValidateExactRow.loopsOut == Try.f5.resultTypes.toList.any (Try.prog.loopsFrom ·)) = true := by kernel_rfl
theorem j22 : (Rows.shapeValidateExactRow.plainKeys == Try.prog.plainKeys) = true := by kernel_rfl
theorem j23 : Rows.shapeValidateExactRow.shortTexts.isNone = true := by kernel_rfl
theorem j24 : Try.prog.stopsHeard = true := pfHeard
theorem j25 : Try.prog.mayEnter = true := pfMay
theorem j26 : (Rows.shapeValidateExactRow.lifted == Try.prog.liftsFinal) = true := by rw [headIs.final]; kernel_rfl
theorem j27 : (Try.prog.make == some Rows.shapeValidateExactRow.make) = true := by rw [pfMade]; kernel_rfl
theorem j28 : (Rows.shapeValidateExactRow.kinds == (if Rows.shapeValidateExactRow.domain.isEmpty then [] else Try.f5.params.toList.map fun t => match Try.prog.underlying t with | some (.int k) => some k | _ => none)) = true := by kernel_rfl
theorem j29 : (Rows.shapeValidateExactRow.pinned == Rows.shapeValidateExactRow.pinnedBy) = true := by kernel_rfl
theorem j30 : (Rows.shapeValidateExactRow.veiled == (Try.f5.params.toList ++ Rows.shapeValidateExactSpec.plain.varTypes Try.prog ++ Try.f5.resultTypes.toList).any (Try.prog.veiledRec ·)) = true := by kernel_rfl
theorem j31 : Rows.shapeValidateExactRow.veiledFits Try.prog Try.f5.params.toList (Try.f5.params.toList ++ Rows.shapeValidateExactSpec.plain.varTypes Try.prog ++ Try.f5.resultTypes.toList) = true := by kernel_rfl
theorem closed : joinedFacts Try.prog 5 Try.f5 Rows.shapeValidateExactSpec Rows.shapeValidateExactRow = true := (am (am (am (am (am (am (am (am (am (am (am (am (am (am (am (am (am (am (am (am (am (am (am (am (am (am (am (am (am (am (am j0 j1) j2) j3) j4) j5) j6) j7) j8) j9) j10) j11) j12) j13) j14) j15) j16) j17) j18) j19) j20) j21) j22) j23) j24) j25) j26) j27) j28) j29) j30) j31)
theorem over : Rows.shapeValidateExactRow.holds Try.pinned (OpenSpec.ofChange Rows.shapeValidateExactSpec) :=
  OpenClaim.holds_of_wide 5 Try.f5 rfl rfl rfl rfl rfl rfl rfl ⟨rfl, rfl, rfl, rfl, rfl⟩ rfl rfl rfl rfl rfl (by kernel_rfl) Try.func5 closed
    (of_decide_eq_true (by kernel_rfl)) (by unfold Func.isWrapper; first | (rw [if_pos (by decide +kernel)]; kernel_rfl) | (rw [if_neg (by decide +kernel)]; exact ⟨rfl, rfl⟩))
    (fun os started H enc _ => lifted os started H enc)
end Go.Proofs.Ytojkdbeodjanpaa.RShapeValidateExact
namespace Go.Proofs.Ytojkdbeodjanpaa
theorem shapeValidateExact_holds : Rows.ShapeValidateExactSaid := RShapeValidateExact.over
end Go.Proofs.Ytojkdbeodjanpaa
