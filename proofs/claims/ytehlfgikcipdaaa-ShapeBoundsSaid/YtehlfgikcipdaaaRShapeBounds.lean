/-
  Whatever the input, the law ShapeBounds answers true, and the input reads as it did. Conditions: none.
-/
import Derived.Test.YtehlfgikcipdaaaC19
import Derived.Test.YtehlfgikcipdaaaM11
import Derived.Test.YtehlfgikcipdaaaPF
set_option linter.all false
namespace Go.Proofs.Ytehlfgikcipdaaa.RShapeBounds
open Go.ChangeShapes Go.WideShapes Go.ChangeAt Go.RowKit Go.AL Go.Carom

def shapes : List (Bool × List Sh) := [(true, [.int .i64, .int .i64, .sl true [.int .i64, .int .i64]]), (true, [.int .i64, .int .i64, .int .i64]), (true, [.int .i64, .int .i64])]
theorem shapes_are : shA Try.prog Try.f7.params.toList = some shapes := by kernel_rfl
theorem yes : Yes Rows.shapeBoundsSpec Try.f7.params.toList.length := by
  rw [show Try.f7.params.toList.length = 3 by kernel_rfl]
  refine ⟨rfl, fun H ds h => ?_⟩
  match ds, h with
  | [a, b, c], _ => exact ⟨rfl, rfl, rfl⟩
theorem law (av : List AV) (h : InA shapes av) : PCall Try.prog 7 av (.b true) := by
  obtain ⟨cs0, av0, h0, rfl, g0⟩ := inA_cons.1 h
  obtain ⟨cs1, av1, h1, rfl, g1⟩ := inA_cons.1 g0
  obtain ⟨cs2, av2, h2, rfl, g2⟩ := inA_cons.1 g1
  obtain rfl := inA_nil.1 g2
  obtain ⟨k0, r0, ps0, rfl, hl0⟩ := in_shape h0
  obtain ⟨px1, py1, a1, rfl⟩ := in_tr h1
  obtain ⟨x2, y2, rfl⟩ := in_vec h2
  exact l_bounds k0 r0 ps0 hl0 px1 py1 a1 x2 y2
set_option maxRecDepth 100000 in
theorem lifted (os : Os) (started : os.Started) (H : Type) (enc : TypeId × Value → H) :
    ReturnsInHanded {} Try.checked os 7 .any (Rows.shapeBoundsSpec.pre6 enc Try.prog Try.f7 Rows.shapeBoundsRow.domain false) (Rows.shapeBoundsSpec.post enc Try.prog Try.f7 false true false false) :=
  row_lifted (C := Try.checked) (tb := 4) pfOwn started pfLaid (by kernel_rfl) Try.func7 (by kernel_rfl) (by kernel_rfl) shapes_are yes
    (ChangeSpec.witness6 (enc := enc) (C := Try.checked) false ⟨#[], #[.agg #[.int .i64 0, .int .i64 0, .slice none 0 0], .agg #[.int .i64 0, .int .i64 0, .int .i64 0], .agg #[.int .i64 0, .int .i64 0]], []⟩ 8 (by kernel_rfl) (by kernel_rfl) (by kernel_rfl) (by kernel_rfl)) law
set_option maxRecDepth 100000
theorem am {a b : Bool} (h : a = true) (h' : b = true) : (a && b) = true := by rw [h, h']; rfl
theorem j0 : Rows.shapeBoundsRow.wf (OpenSpec.ofChange Rows.shapeBoundsSpec) = true := by kernel_rfl
theorem j1 : laidOutB Try.prog = true := pfLaid
theorem j2 : mapsRowed Try.prog = true := pfMaps
theorem j3 : Try.f7.params.all (Try.prog.readableRec ·) = true := by kernel_rfl
theorem j4 : namedTie Try.prog Rows.shapeBoundsRow.named Rows.shapeBoundsSpec.vars = true := by kernel_rfl
theorem j5 : (Rows.shapeBoundsRow.stops == []) = true := by kernel_rfl
theorem j6 : (Try.prog.stops == []) = true := pfStops
theorem j7 : (Rows.shapeBoundsRow.knobs == []) = true := by kernel_rfl
theorem j8 : (Try.prog.stopKnobs == []) = true := pfKnobs
theorem j9 : (Rows.shapeBoundsRow.inPlace == Try.prog.inPlace 7) = true := by kernel_rfl
theorem j10 : (Rows.shapeBoundsRow.unfollowed == Try.prog.unfollowed 7) = true := by kernel_rfl
theorem j11 : (Rows.shapeBoundsRow.recurses == Try.prog.recurses 7) = true := by kernel_rfl
theorem j12 : (Rows.shapeBoundsRow.named == Try.prog.varsNamed 7) = true := by kernel_rfl
theorem j13 : (Rows.shapeBoundsRow.maps == (Try.f7.params.toList ++ Rows.shapeBoundsSpec.plain.varTypes Try.prog).any (Try.prog.mapsRec ·)) = true := by kernel_rfl
theorem j14 : (Rows.shapeBoundsRow.ifaces == (Try.f7.params.toList ++ Rows.shapeBoundsSpec.plain.varTypes Try.prog).any (Try.prog.ifacesRec ·)) = true := by kernel_rfl
theorem j15 : (Rows.shapeBoundsRow.mapsOut == Try.prog.mapsAmong Try.f7.resultTypes.toList) = true := by kernel_rfl
theorem j16 : (Rows.shapeBoundsRow.loops == (Try.f7.params.toList ++ Rows.shapeBoundsSpec.plain.varTypes Try.prog).any (Try.prog.loopsFrom ·)) = true := by kernel_rfl
theorem j17 : (Rows.shapeBoundsRow.wideKeys == (Try.f7.params.toList ++ Rows.shapeBoundsSpec.plain.varTypes Try.prog ++ Try.f7.resultTypes.toList).any (Try.prog.wideKeysFrom ·)) = true := by kernel_rfl
theorem j18 : Rows.shapeBoundsSpec.vars.all (Try.prog.varReadable ·) = true := by kernel_rfl
theorem j19 : Try.f7.resultTypes.all (fun t => Try.prog.readableRec t && decide (t < Try.prog.types.size)) = true := by kernel_rfl
theorem j20 : (Rows.shapeBoundsRow.ifacesOut == Try.f7.resultTypes.toList.any (Try.prog.ifacesRec ·)) = true := by kernel_rfl
theorem j21 : (Rows.shapeBoundsRow.loopsOut == Try.f7.resultTypes.toList.any (Try.prog.loopsFrom ·)) = true := by kernel_rfl
theorem j22 : (Rows.shapeBoundsRow.plainKeys == Try.prog.plainKeys) = true := by kernel_rfl
theorem j23 : Rows.shapeBoundsRow.shortTexts.isNone = true := by kernel_rfl
theorem j24 : Try.prog.stopsHeard = true := pfHeard
theorem j25 : Try.prog.mayEnter = true := pfMay
theorem j26 : (Rows.shapeBoundsRow.lifted == Try.prog.liftsFinal) = true := by rw [headIs.final]; kernel_rfl
theorem j27 : (Try.prog.make == some Rows.shapeBoundsRow.make) = true := by rw [pfMade]; kernel_rfl
theorem j28 : (Rows.shapeBoundsRow.kinds == (if Rows.shapeBoundsRow.domain.isEmpty then [] else Try.f7.params.toList.map fun t => match Try.prog.underlying t with | some (.int k) => some k | _ => none)) = true := by kernel_rfl
theorem j29 : (Rows.shapeBoundsRow.pinned == Rows.shapeBoundsRow.pinnedBy) = true := by kernel_rfl
theorem j30 : (Rows.shapeBoundsRow.veiled == (Try.f7.params.toList ++ Rows.shapeBoundsSpec.plain.varTypes Try.prog ++ Try.f7.resultTypes.toList).any (Try.prog.veiledRec ·)) = true := by kernel_rfl
theorem j31 : Rows.shapeBoundsRow.veiledFits Try.prog Try.f7.params.toList (Try.f7.params.toList ++ Rows.shapeBoundsSpec.plain.varTypes Try.prog ++ Try.f7.resultTypes.toList) = true := by kernel_rfl
theorem closed : joinedFacts Try.prog 7 Try.f7 Rows.shapeBoundsSpec Rows.shapeBoundsRow = true := (am (am (am (am (am (am (am (am (am (am (am (am (am (am (am (am (am (am (am (am (am (am (am (am (am (am (am (am (am (am (am j0 j1) j2) j3) j4) j5) j6) j7) j8) j9) j10) j11) j12) j13) j14) j15) j16) j17) j18) j19) j20) j21) j22) j23) j24) j25) j26) j27) j28) j29) j30) j31)
theorem over : Rows.shapeBoundsRow.holds Try.pinned (OpenSpec.ofChange Rows.shapeBoundsSpec) :=
  OpenClaim.holds_of_wide 7 Try.f7 rfl rfl rfl rfl rfl rfl rfl ⟨rfl, rfl, rfl, rfl, rfl⟩ rfl rfl rfl rfl rfl (by kernel_rfl) Try.func7 closed
    (of_decide_eq_true (by kernel_rfl)) (by unfold Func.isWrapper; first | (rw [if_pos (by decide +kernel)]; kernel_rfl) | (rw [if_neg (by decide +kernel)]; exact ⟨rfl, rfl⟩))
    (fun os started H enc _ => lifted os started H enc)
end Go.Proofs.Ytehlfgikcipdaaa.RShapeBounds
namespace Go.Proofs.Ytehlfgikcipdaaa
theorem shapeBounds_holds : Rows.ShapeBoundsSaid := RShapeBounds.over
end Go.Proofs.Ytehlfgikcipdaaa
