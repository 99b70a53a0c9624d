/-
  Whatever the input, the law ManifoldCirclePolygon answers true, and the input reads as it did. Conditions: none.
-/
import Derived.Test.YtehlfgikcipdaaaC33
import Derived.Test.YtehlfgikcipdaaaMA
import Derived.Test.YtehlfgikcipdaaaPF
set_option linter.all false
namespace Go.Proofs.Ytehlfgikcipdaaa.RManifoldCirclePolygon
open Go.ChangeShapes Go.WideShapes Go.ChangeAt Go.RowKit Go.AL Go.Carom

def shapes : List (Bool × List Sh) := [(true, [.int .i64, .int .i64, .sl true [.int .i64, .int .i64]]), (true, [.int .i64, .int .i64, .int .i64]), (true, [.int .i64, .int .i64, .sl true [.int .i64, .int .i64]]), (true, [.int .i64, .int .i64, .int .i64])]
theorem shapes_are : shA Try.prog Try.f13.params.toList = some shapes := by kernel_rfl
theorem yes : Yes Rows.manifoldCirclePolygonSpec Try.f13.params.toList.length := by
  rw [show Try.f13.params.toList.length = 4 by kernel_rfl]
  refine ⟨rfl, fun H ds h => ?_⟩
  match ds, h with
  | [a, b, c, d], _ => exact ⟨rfl, rfl, rfl⟩
theorem law (av : List AV) (h : InA shapes av) : PCall Try.prog 13 av (.b true) := by
  obtain ⟨cs0, av0, h0, rfl, g0⟩ := inA_cons.1 h
  obtain ⟨cs1, av1, h1, rfl, g1⟩ := inA_cons.1 g0
  obtain ⟨cs2, av2, h2, rfl, g2⟩ := inA_cons.1 g1
  obtain ⟨cs3, av3, h3, rfl, g3⟩ := inA_cons.1 g2
  obtain rfl := inA_nil.1 g3
  obtain ⟨k0, r0, ps0, rfl, hl0⟩ := in_shape h0
  obtain ⟨px1, py1, a1, rfl⟩ := in_tr h1
  obtain ⟨k2, r2, ps2, rfl, hl2⟩ := in_shape h2
  obtain ⟨px3, py3, a3, rfl⟩ := in_tr h3
  exact l_mcp k0 r0 ps0 hl0 px1 py1 a1 k2 r2 ps2 hl2 px3 py3 a3
set_option maxRecDepth 100000 in
theorem lifted (os : Os) (started : os.Started) (H : Type) (enc : TypeId × Value → H) :
    ReturnsInHanded {} Try.checked os 13 .any (Rows.manifoldCirclePolygonSpec.pre6 enc Try.prog Try.f13 Rows.manifoldCirclePolygonRow.domain false) (Rows.manifoldCirclePolygonSpec.post enc Try.prog Try.f13 false true false false) :=
  row_lifted (C := Try.checked) (tb := 4) pfOwn started pfLaid (by kernel_rfl) Try.func13 (by kernel_rfl) (by kernel_rfl) shapes_are yes
    (ChangeSpec.witness6 (enc := enc) (C := Try.checked) false ⟨#[], #[.agg #[.int .i64 0, .int .i64 0, .slice none 0 0], .agg #[.int .i64 0, .int .i64 0, .int .i64 0], .agg #[.int .i64 0, .int .i64 0, .slice none 0 0], .agg #[.int .i64 0, .int .i64 0, .int .i64 0]], []⟩ 8 (by kernel_rfl) (by kernel_rfl) (by kernel_rfl) (by kernel_rfl)) law
set_option maxRecDepth 100000
theorem am {a b : Bool} (h : a = true) (h' : b = true) : (a && b) = true := by rw [h, h']; rfl
theorem j0 : Rows.manifoldCirclePolygonRow.wf (OpenSpec.ofChange Rows.manifoldCirclePolygonSpec) = true := by kernel_rfl
theorem j1 : laidOutB Try.prog = true := pfLaid
theorem j2 : mapsRowed Try.prog = true := pfMaps
theorem j3 : Try.f13.params.all (Try.prog.readableRec ·) = true := by kernel_rfl
theorem j4 : namedTie Try.prog Rows.manifoldCirclePolygonRow.named Rows.manifoldCirclePolygonSpec.vars = true := by kernel_rfl
theorem j5 : (Rows.manifoldCirclePolygonRow.stops == []) = true := by kernel_rfl
theorem j6 : (Try.prog.stops == []) = true := pfStops
theorem j7 : (Rows.manifoldCirclePolygonRow.knobs == []) = true := by kernel_rfl
theorem j8 : (Try.prog.stopKnobs == []) = true := pfKnobs
theorem j9 : (Rows.manifoldCirclePolygonRow.inPlace == Try.prog.inPlace 13) = true := by kernel_rfl
theorem j10 : (Rows.manifoldCirclePolygonRow.unfollowed == Try.prog.unfollowed 13) = true := by kernel_rfl
theorem j11 : (Rows.manifoldCirclePolygonRow.recurses == Try.prog.recurses 13) = true := by kernel_rfl
theorem j12 : (Rows.manifoldCirclePolygonRow.named == Try.prog.varsNamed 13) = true := by kernel_rfl
theorem j13 : (Rows.manifoldCirclePolygonRow.maps == (Try.f13.params.toList ++ Rows.manifoldCirclePolygonSpec.plain.varTypes Try.prog).any (Try.prog.mapsRec ·)) = true := by kernel_rfl
theorem j14 : (Rows.manifoldCirclePolygonRow.ifaces == (Try.f13.params.toList ++ Rows.manifoldCirclePolygonSpec.plain.varTypes Try.prog).any (Try.prog.ifacesRec ·)) = true := by kernel_rfl
theorem j15 : (Rows.manifoldCirclePolygonRow.mapsOut == Try.prog.mapsAmong Try.f13.resultTypes.toList) = true := by kernel_rfl
theorem j16 : (Rows.manifoldCirclePolygonRow.loops == (Try.f13.params.toList ++ Rows.manifoldCirclePolygonSpec.plain.varTypes Try.prog).any (Try.prog.loopsFrom ·)) = true := by kernel_rfl
theorem j17 : (Rows.manifoldCirclePolygonRow.wideKeys == (Try.f13.params.toList ++ Rows.manifoldCirclePolygonSpec.plain.varTypes Try.prog ++ Try.f13.resultTypes.toList).any (Try.prog.wideKeysFrom ·)) = true := by kernel_rfl
theorem j18 : Rows.manifoldCirclePolygonSpec.vars.all (Try.prog.varReadable ·) = true := by kernel_rfl
theorem j19 : Try.f13.resultTypes.all (fun t => Try.prog.readableRec t && decide (t < Try.prog.types.size)) = true := by kernel_rfl
theorem j20 : (Rows.manifoldCirclePolygonRow.ifacesOut == Try.f13.resultTypes.toList.any (Try.prog.ifacesRec ·)) = true := by kernel_rfl
theorem j21 : (Rows.manifoldCirclePolygonRow.loopsOut == Try.f13.resultTypes.toList.any (Try.prog.loopsFrom ·)) = true := by kernel_rfl
theorem j22 : (Rows.manifoldCirclePolygonRow.plainKeys == Try.prog.plainKeys) = true := by kernel_rfl
theorem j23 : Rows.manifoldCirclePolygonRow.shortTexts.isNone = true := by kernel_rfl
theorem j24 : Try.prog.stopsHeard = true := pfHeard
theorem j25 : Try.prog.mayEnter = true := pfMay
theorem j26 : (Rows.manifoldCirclePolygonRow.lifted == Try.prog.liftsFinal) = true := by rw [headIs.final]; kernel_rfl
theorem j27 : (Try.prog.make == some Rows.manifoldCirclePolygonRow.make) = true := by rw [pfMade]; kernel_rfl
theorem j28 : (Rows.manifoldCirclePolygonRow.kinds == (if Rows.manifoldCirclePolygonRow.domain.isEmpty then [] else Try.f13.params.toList.map fun t => match Try.prog.underlying t with | some (.int k) => some k | _ => none)) = true := by kernel_rfl
theorem j29 : (Rows.manifoldCirclePolygonRow.pinned == Rows.manifoldCirclePolygonRow.pinnedBy) = true := by kernel_rfl
theorem j30 : (Rows.manifoldCirclePolygonRow.veiled == (Try.f13.params.toList ++ Rows.manifoldCirclePolygonSpec.plain.varTypes Try.prog ++ Try.f13.resultTypes.toList).any (Try.prog.veiledRec ·)) = true := by kernel_rfl
theorem j31 : Rows.manifoldCirclePolygonRow.veiledFits Try.prog Try.f13.params.toList (Try.f13.params.toList ++ Rows.manifoldCirclePolygonSpec.plain.varTypes Try.prog ++ Try.f13.resultTypes.toList) = true := by kernel_rfl
theorem closed : joinedFacts Try.prog 13 Try.f13 Rows.manifoldCirclePolygonSpec Rows.manifoldCirclePolygonRow = true := (am (am (am (am (am (am (am (am (am (am (am (am (am (am (am (am (am (am (am (am (am (am (am (am (am (am (am (am (am (am (am j0 j1) j2) j3) j4) j5) j6) j7) j8) j9) j10) j11) j12) j13) j14) j15) j16) j17) j18) j19) j20) j21) j22) j23) j24) j25) j26) j27) j28) j29) j30) j31)
theorem over : Rows.manifoldCirclePolygonRow.holds Try.pinned (OpenSpec.ofChange Rows.manifoldCirclePolygonSpec) :=
  OpenClaim.holds_of_wide 13 Try.f13 rfl rfl rfl rfl rfl rfl rfl ⟨rfl, rfl, rfl, rfl, rfl⟩ rfl rfl rfl rfl rfl (by kernel_rfl) Try.func13 closed
    (of_decide_eq_true (by kernel_rfl)) (by unfold Func.isWrapper; first | (rw [if_pos (by decide +kernel)]; kernel_rfl) | (rw [if_neg (by decide +kernel)]; exact ⟨rfl, rfl⟩))
    (fun os started H enc _ => lifted os started H enc)
end Go.Proofs.Ytehlfgikcipdaaa.RManifoldCirclePolygon
namespace Go.Proofs.Ytehlfgikcipdaaa
theorem manifoldCirclePolygon_holds : Rows.ManifoldCirclePolygonSaid := RManifoldCirclePolygon.over
end Go.Proofs.Ytehlfgikcipdaaa
