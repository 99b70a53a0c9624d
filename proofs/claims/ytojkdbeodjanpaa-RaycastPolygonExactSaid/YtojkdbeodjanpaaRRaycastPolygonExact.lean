/-
  Whatever the input, the law RaycastPolygonExact answers true, and the input reads as it did. Conditions: none.
-/
import Derived.Test.YtojkdbeodjanpaaC12
import Derived.Test.YtojkdbeodjanpaaM11
import Derived.Test.YtojkdbeodjanpaaPF
set_option linter.all false
namespace Go.Proofs.Ytojkdbeodjanpaa.RRaycastPolygonExact
open Go.ChangeShapes Go.WideShapes Go.ChangeAt Go.RowKit Go.AL Go.Carom

def shapes : List (Bool × List Sh) := [(false, [.sl true [.int .i64, .int .i64]]), (true, [.int .i64, .int .i64, .int .i64, .int .i64])]
theorem shapes_are : shA Try.prog Try.f17.params.toList = some shapes := by kernel_rfl
theorem yes : Yes Rows.raycastPolygonExactSpec Try.f17.params.toList.length := by
  rw [show Try.f17.params.toList.length = 2 by kernel_rfl]
  refine ⟨rfl, fun H ds h => ?_⟩
  match ds, h with
  | [a, b], _ => exact ⟨rfl, rfl, rfl⟩
theorem law (av : List AV) (h : InA shapes av) : PCall Try.prog 17 av (.b true) := by
  obtain ⟨cs0, av0, h0, rfl, g0⟩ := inA_cons.1 h
  obtain ⟨cs1, av1, h1, rfl, g1⟩ := inA_cons.1 g0
  obtain rfl := inA_nil.1 g1
  obtain ⟨ps0, e0, hl0⟩ := in_pts h0
  rw [e0]
  obtain ⟨fx1, fy1, tx1, ty1, rfl⟩ := in_ray h1
  exact l_rpol ps0 hl0 fx1 fy1 tx1 ty1
set_option maxRecDepth 100000 in
theorem lifted (os : Os) (started : os.Started) (H : Type) (enc : TypeId × Value → H) :
    ReturnsInHanded {} Try.checked os 17 .any (Rows.raycastPolygonExactSpec.pre6 enc Try.prog Try.f17 Rows.raycastPolygonExactRow.domain false) (Rows.raycastPolygonExactSpec.post enc Try.prog Try.f17 false true false false) :=
  row_lifted (C := Try.checked) (tb := 4) pfOwn started pfLaid (by kernel_rfl) Try.func17 (by kernel_rfl) (by kernel_rfl) shapes_are yes
    (ChangeSpec.witness6 (enc := enc) (C := Try.checked) false ⟨#[], #[.slice none 0 0, .agg #[.int .i64 0, .int .i64 0, .int .i64 0, .int .i64 0]], []⟩ 8 (by kernel_rfl) (by kernel_rfl) (by kernel_rfl) (by kernel_rfl)) law
set_option maxRecDepth 100000
theorem am {a b : Bool} (h : a = true) (h' : b = true) : (a && b) = true := by rw [h, h']; rfl
theorem j0 : Rows.raycastPolygonExactRow.wf (OpenSpec.ofChange Rows.raycastPolygonExactSpec) = true := by kernel_rfl
theorem j1 : laidOutB Try.prog = true := pfLaid
theorem j2 : mapsRowed Try.prog = true := pfMaps
theorem j3 : Try.f17.params.all (Try.prog.readableRec ·) = true := by kernel_rfl
theorem j4 : namedTie Try.prog Rows.raycastPolygonExactRow.named Rows.raycastPolygonExactSpec.vars = true := by kernel_rfl
theorem j5 : (Rows.raycastPolygonExactRow.stops == []) = true := by kernel_rfl
theorem j6 : (Try.prog.stops == []) = true := pfStops
theorem j7 : (Rows.raycastPolygonExactRow.knobs == []) = true := by kernel_rfl
theorem j8 : (Try.prog.stopKnobs == []) = true := pfKnobs
theorem j9 : (Rows.raycastPolygonExactRow.inPlace == Try.prog.inPlace 17) = true := by kernel_rfl
theorem j10 : (Rows.raycastPolygonExactRow.unfollowed == Try.prog.unfollowed 17) = true := by kernel_rfl
theorem j11 : (Rows.raycastPolygonExactRow.recurses == Try.prog.recurses 17) = true := by kernel_rfl
theorem j12 : (Rows.raycastPolygonExactRow.named == Try.prog.varsNamed 17) = true := by kernel_rfl
theorem j13 : (Rows.raycastPolygonExactRow.maps == (Try.f17.params.toList ++ Rows.raycastPolygonExactSpec.plain.varTypes Try.prog).any (Try.prog.mapsRec ·)) = true := by kernel_rfl
theorem j14 : (Rows.raycastPolygonExactRow.ifaces == (Try.f17.params.toList ++ Rows.raycastPolygonExactSpec.plain.varTypes Try.prog).any (Try.prog.ifacesRec ·)) = true := by kernel_rfl
theorem j15 : (Rows.raycastPolygonExactRow.mapsOut == Try.prog.mapsAmong Try.f17.resultTypes.toList) = true := by kernel_rfl
theorem j16 : (Rows.raycastPolygonExactRow.loops == (Try.f17.params.toList ++ Rows.raycastPolygonExactSpec.plain.varTypes Try.prog).any (Try.prog.loopsFrom ·)) = true := by kernel_rfl
theorem j17 : (Rows.raycastPolygonExactRow.wideKeys == (Try.f17.params.toList ++ Rows.raycastPolygonExactSpec.plain.varTypes Try.prog ++ Try.f17.resultTypes.toList).any (Try.prog.wideKeysFrom ·)) = true := by kernel_rfl
theorem j18 : Rows.raycastPolygonExactSpec.vars.all (Try.prog.varReadable ·) = true := by kernel_rfl
theorem j19 : Try.f17.resultTypes.all (fun t => Try.prog.readableRec t && decide (t < Try.prog.types.size)) = true := by kernel_rfl
theorem j20 : (Rows.raycastPolygonExactRow.ifacesOut == Try.f17.resultTypes.toList.any (Try.prog.ifacesRec ·)) = true := by kernel_rfl
theorem j21 : (Rows.raycastPolygonExactRow.loopsOut == Try.f17.resultTypes.toList.any (Try.prog.loopsFrom ·)) = true := by kernel_rfl
theorem j22 : (Rows.raycastPolygonExactRow.plainKeys == Try.prog.plainKeys) = true := by kernel_rfl
theorem j23 : Rows.raycastPolygonExactRow.shortTexts.isNone = true := by kernel_rfl
theorem j24 : Try.prog.stopsHeard = true := pfHeard
theorem j25 : Try.prog.mayEnter = true := pfMay
theorem j26 : (Rows.raycastPolygonExactRow.lifted == Try.prog.liftsFinal) = true := by rw [headIs.final]; kernel_rfl
theorem j27 : (Try.prog.make == some Rows.raycastPolygonExactRow.make) = true := by rw [pfMade]; kernel_rfl
theorem j28 : (Rows.raycastPolygonExactRow.kinds == (if Rows.raycastPolygonExactRow.domain.isEmpty then [] else Try.f17.params.toList.map fun t => match Try.prog.underlying t with | some (.int k) => some k | _ => none)) = true := by kernel_rfl
theorem j29 : (Rows.raycastPolygonExactRow.pinned == Rows.raycastPolygonExactRow.pinnedBy) = true := by kernel_rfl
theorem j30 : (Rows.raycastPolygonExactRow.veiled == (Try.f17.params.toList ++ Rows.raycastPolygonExactSpec.plain.varTypes Try.prog ++ Try.f17.resultTypes.toList).any (Try.prog.veiledRec ·)) = true := by kernel_rfl
theorem j31 : Rows.raycastPolygonExactRow.veiledFits Try.prog Try.f17.params.toList (Try.f17.params.toList ++ Rows.raycastPolygonExactSpec.plain.varTypes Try.prog ++ Try.f17.resultTypes.toList) = true := by kernel_rfl
theorem closed : joinedFacts Try.prog 17 Try.f17 Rows.raycastPolygonExactSpec Rows.raycastPolygonExactRow = true := (am (am (am (am (am (am (am (am (am (am (am (am (am (am (am (am (am (am (am (am (am (am (am (am (am (am (am (am (am (am (am j0 j1) j2) j3) j4) j5) j6) j7) j8) j9) j10) j11) j12) j13) j14) j15) j16) j17) j18) j19) j20) j21) j22) j23) j24) j25) j26) j27) j28) j29) j30) j31)
theorem over : Rows.raycastPolygonExactRow.holds Try.pinned (OpenSpec.ofChange Rows.raycastPolygonExactSpec) :=
  OpenClaim.holds_of_wide 17 Try.f17 rfl rfl rfl rfl rfl rfl rfl ⟨rfl, rfl, rfl, rfl, rfl⟩ rfl rfl rfl rfl rfl (by kernel_rfl) Try.func17 closed
    (of_decide_eq_true (by kernel_rfl)) (by unfold Func.isWrapper; first | (rw [if_pos (by decide +kernel)]; kernel_rfl) | (rw [if_neg (by decide +kernel)]; exact ⟨rfl, rfl⟩))
    (fun os started H enc _ => lifted os started H enc)
end Go.Proofs.Ytojkdbeodjanpaa.RRaycastPolygonExact
namespace Go.Proofs.Ytojkdbeodjanpaa
theorem raycastPolygonExact_holds : Rows.RaycastPolygonExactSaid := RRaycastPolygonExact.over
end Go.Proofs.Ytojkdbeodjanpaa
