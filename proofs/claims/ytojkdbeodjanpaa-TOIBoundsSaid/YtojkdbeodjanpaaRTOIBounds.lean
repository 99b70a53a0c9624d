/-
  Whatever the input, the law TOIBounds answers true, and the input reads as it did. Conditions: none.
-/
import Derived.Test.YtojkdbeodjanpaaC14
import Derived.Test.YtojkdbeodjanpaaM16
import Derived.Test.YtojkdbeodjanpaaPF
set_option linter.all false
namespace Go.Proofs.Ytojkdbeodjanpaa.RTOIBounds
open Go.ChangeShapes Go.WideShapes Go.ChangeAt Go.RowKit Go.AL Go.Carom

def shapes : List (Bool × List Sh) := [(true, [.int .i64, .int .i64, .sl true [.int .i64, .int .i64], .int .i64, .int .i64, .sl true [.int .i64, .int .i64], .int .i64, .int .i64, .int .i64, .int .i64, .int .i64, .int .i64, .int .i64, .int .i64, .int .i64, .int .i64, .int .i64, .int .i64])]
theorem shapes_are : shA Try.prog Try.f12.params.toList = some shapes := by kernel_rfl
theorem yes : Yes Rows.tOIBoundsSpec Try.f12.params.toList.length := by
  rw [show Try.f12.params.toList.length = 1 by kernel_rfl]
  refine ⟨rfl, fun H ds h => ?_⟩
  match ds, h with
  | [a], _ => exact ⟨rfl, rfl, rfl⟩
theorem law (av : List AV) (h : InA shapes av) : PCall Try.prog 12 av (.b true) := by
  obtain ⟨cs0, av0, h0, rfl, g0⟩ := inA_cons.1 h
  obtain rfl := inA_nil.1 g0
  obtain ⟨k, r, ps, k', r', qs, px, py, a, px', py', a', ux, uy, b, ux', uy', b', rfl, hl, hm'⟩ := in_motion h0
  exact l_tbd k r ps hl px py a px' py' a' k' r' qs hm' ux uy b ux' uy' b'
set_option maxRecDepth 100000 in
theorem lifted (os : Os) (started : os.Started) (H : Type) (enc : TypeId × Value → H) :
    ReturnsInHanded {} Try.checked os 12 .any (Rows.tOIBoundsSpec.pre6 enc Try.prog Try.f12 Rows.tOIBoundsRow.domain false) (Rows.tOIBoundsSpec.post enc Try.prog Try.f12 false true false false) :=
  row_lifted (C := Try.checked) (tb := 4) pfOwn started pfLaid (by kernel_rfl) Try.func12 (by kernel_rfl) (by kernel_rfl) shapes_are yes
    (ChangeSpec.witness6 (enc := enc) (C := Try.checked) false ⟨#[], #[.agg #[.int .i64 0, .int .i64 0, .slice none 0 0, .int .i64 0, .int .i64 0, .slice none 0 0, .int .i64 0, .int .i64 0, .int .i64 0, .int .i64 0, .int .i64 0, .int .i64 0, .int .i64 0, .int .i64 0, .int .i64 0, .int .i64 0, .int .i64 0, .int .i64 0]], []⟩ 8 (by kernel_rfl) (by kernel_rfl) (by kernel_rfl) (by kernel_rfl)) law
set_option maxRecDepth 100000
theorem am {a b : Bool} (h : a = true) (h' : b = true) : (a && b) = true := by rw [h, h']; rfl
theorem j0 : Rows.tOIBoundsRow.wf (OpenSpec.ofChange Rows.tOIBoundsSpec) = true := by kernel_rfl
theorem j1 : laidOutB Try.prog = true := pfLaid
theorem j2 : mapsRowed Try.prog = true := pfMaps
theorem j3 : Try.f12.params.all (Try.prog.readableRec ·) = true := by kernel_rfl
theorem j4 : namedTie Try.prog Rows.tOIBoundsRow.named Rows.tOIBoundsSpec.vars = true := by kernel_rfl
theorem j5 : (Rows.tOIBoundsRow.stops == []) = true := by kernel_rfl
theorem j6 : (Try.prog.stops == []) = true := pfStops
theorem j7 : (Rows.tOIBoundsRow.knobs == []) = true := by kernel_rfl
theorem j8 : (Try.prog.stopKnobs == []) = true := pfKnobs
theorem j9 : (Rows.tOIBoundsRow.inPlace == Try.prog.inPlace 12) = true := by kernel_rfl
theorem j10 : (Rows.tOIBoundsRow.unfollowed == Try.prog.unfollowed 12) = true := by kernel_rfl
theorem j11 : (Rows.tOIBoundsRow.recurses == Try.prog.recurses 12) = true := by kernel_rfl
theorem j12 : (Rows.tOIBoundsRow.named == Try.prog.varsNamed 12) = true := by kernel_rfl
theorem j13 : (Rows.tOIBoundsRow.maps == (Try.f12.params.toList ++ Rows.tOIBoundsSpec.plain.varTypes Try.prog).any (Try.prog.mapsRec ·)) = true := by kernel_rfl
theorem j14 : (Rows.tOIBoundsRow.ifaces == (Try.f12.params.toList ++ Rows.tOIBoundsSpec.plain.varTypes Try.prog).any (Try.prog.ifacesRec ·)) = true := by kernel_rfl
theorem j15 : (Rows.tOIBoundsRow.mapsOut == Try.prog.mapsAmong Try.f12.resultTypes.toList) = true := by kernel_rfl
theorem j16 : (Rows.tOIBoundsRow.loops == (Try.f12.params.toList ++ Rows.tOIBoundsSpec.plain.varTypes Try.prog).any (Try.prog.loopsFrom ·)) = true := by kernel_rfl
theorem j17 : (Rows.tOIBoundsRow.wideKeys == (Try.f12.params.toList ++ Rows.tOIBoundsSpec.plain.varTypes Try.prog ++ Try.f12.resultTypes.toList).any (Try.prog.wideKeysFrom ·)) = true := by kernel_rfl
theorem j18 : Rows.tOIBoundsSpec.vars.all (Try.prog.varReadable ·) = true := by kernel_rfl
theorem j19 : Try.f12.resultTypes.all (fun t => Try.prog.readableRec t && decide (t < Try.prog.types.size)) = true := by kernel_rfl
theorem j20 : (Rows.tOIBoundsRow.ifacesOut == Try.f12.resultTypes.toList.any (Try.prog.ifacesRec ·)) = true := by kernel_rfl
theorem j21 : (Rows.tOIBoundsRow.loopsOut == Try.f12.resultTypes.toList.any (Try.prog.loopsFrom ·)) = true := by kernel_rfl
theorem j22 : (Rows.tOIBoundsRow.plainKeys == Try.prog.plainKeys) = true := by kernel_rfl
theorem j23 : Rows.tOIBoundsRow.shortTexts.isNone = true := by kernel_rfl
theorem j24 : Try.prog.stopsHeard = true := pfHeard
theorem j25 : Try.prog.mayEnter = true := pfMay
theorem j26 : (Rows.tOIBoundsRow.lifted == Try.prog.liftsFinal) = true := by rw [headIs.final]; kernel_rfl
theorem j27 : (Try.prog.make == some Rows.tOIBoundsRow.make) = true := by rw [pfMade]; kernel_rfl
theorem j28 : (Rows.tOIBoundsRow.kinds == (if Rows.tOIBoundsRow.domain.isEmpty then [] else Try.f12.params.toList.map fun t => match Try.prog.underlying t with | some (.int k) => some k | _ => none)) = true := by kernel_rfl
theorem j29 : (Rows.tOIBoundsRow.pinned == Rows.tOIBoundsRow.pinnedBy) = true := by kernel_rfl
theorem j30 : (Rows.tOIBoundsRow.veiled == (Try.f12.params.toList ++ Rows.tOIBoundsSpec.plain.varTypes Try.prog ++ Try.f12.resultTypes.toList).any (Try.prog.veiledRec ·)) = true := by kernel_rfl
theorem j31 : Rows.tOIBoundsRow.veiledFits Try.prog Try.f12.params.toList (Try.f12.params.toList ++ Rows.tOIBoundsSpec.plain.varTypes Try.prog ++ Try.f12.resultTypes.toList) = true := by kernel_rfl
theorem closed : joinedFacts Try.prog 12 Try.f12 Rows.tOIBoundsSpec Rows.tOIBoundsRow = true := (am (am (am (am (am (am (am (am (am (am (am (am (am (am (am (am (am (am (am (am (am (am (am (am (am (am (am (am (am (am (am j0 j1) j2) j3) j4) j5) j6) j7) j8) j9) j10) j11) j12) j13) j14) j15) j16) j17) j18) j19) j20) j21) j22) j23) j24) j25) j26) j27) j28) j29) j30) j31)
theorem over : Rows.tOIBoundsRow.holds Try.pinned (OpenSpec.ofChange Rows.tOIBoundsSpec) :=
  OpenClaim.holds_of_wide 12 Try.f12 rfl rfl rfl rfl rfl rfl rfl ⟨rfl, rfl, rfl, rfl, rfl⟩ rfl rfl rfl rfl rfl (by kernel_rfl) Try.func12 closed
    (of_decide_eq_true (by kernel_rfl)) (by unfold Func.isWrapper; first | (rw [if_pos (by decide +kernel)]; kernel_rfl) | (rw [if_neg (by decide +kernel)]; exact ⟨rfl, rfl⟩))
    (fun os started H enc _ => lifted os started H enc)
end Go.Proofs.Ytojkdbeodjanpaa.RTOIBounds
namespace Go.Proofs.Ytojkdbeodjanpaa
theorem tOIBounds_holds : Rows.TOIBoundsSaid := RTOIBounds.over
end Go.Proofs.Ytojkdbeodjanpaa
