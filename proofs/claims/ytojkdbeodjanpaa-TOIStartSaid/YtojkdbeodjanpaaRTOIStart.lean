/-
  Whatever the input, the law TOIStart answers true, and the input reads as it did. Conditions: none.
-/
import Derived.Test.YtojkdbeodjanpaaC14
import Derived.Test.YtojkdbeodjanpaaM16
import Derived.Test.YtojkdbeodjanpaaPF
set_option linter.all false
namespace Go.Proofs.Ytojkdbeodjanpaa.RTOIStart
open Go.ChangeShapes Go.WideShapes Go.ChangeAt Go.RowKit Go.AL Go.Carom

def shapes : List (Bool × List Sh) := [(true, [.int .i64, .int .i64, .sl true [.int .i64, .int .i64], .int .i64, .int .i64, .sl true [.int .i64, .int .i64], .int .i64, .int .i64, .int .i64, .int .i64, .int .i64, .int .i64, .int .i64, .int .i64, .int .i64, .int .i64, .int .i64, .int .i64])]
theorem shapes_are : shA Try.prog Try.f10.params.toList = some shapes := by kernel_rfl
theorem yes : Yes Rows.tOIStartSpec Try.f10.params.toList.length := by
  rw [show Try.f10.params.toList.length = 1 by kernel_rfl]
  refine ⟨rfl, fun H ds h => ?_⟩
  match ds, h with
  | [a], _ => exact ⟨rfl, rfl, rfl⟩
theorem law (av : List AV) (h : InA shapes av) : PCall Try.prog 10 av (.b true) := by
  obtain ⟨cs0, av0, h0, rfl, g0⟩ := inA_cons.1 h
  obtain rfl := inA_nil.1 g0
  obtain ⟨k, r, ps, k', r', qs, px, py, a, px', py', a', ux, uy, b, ux', uy', b', rfl, hl, hm'⟩ := in_motion h0
  exact l_tstart k r ps hl px py a px' py' a' k' r' qs hm' ux uy b ux' uy' b'
set_option maxRecDepth 100000 in
theorem lifted (os : Os) (started : os.Started) (H : Type) (enc : TypeId × Value → H) :
    ReturnsInHanded {} Try.checked os 10 .any (Rows.tOIStartSpec.pre6 enc Try.prog Try.f10 Rows.tOIStartRow.domain false) (Rows.tOIStartSpec.post enc Try.prog Try.f10 false true false false) :=
  row_lifted (C := Try.checked) (tb := 4) pfOwn started pfLaid (by kernel_rfl) Try.func10 (by kernel_rfl) (by kernel_rfl) shapes_are yes
    (ChangeSpec.witness6 (enc := enc) (C := Try.checked) false ⟨#[], #[.agg #[.int .i64 0, .int .i64 0, .slice none 0 0, .int .i64 0, .int .i64 0, .slice none 0 0, .int .i64 0, .int .i64 0, .int .i64 0, .int .i64 0, .int .i64 0, .int .i64 0, .int .i64 0, .int .i64 0, .int .i64 0, .int .i64 0, .int .i64 0, .int .i64 0]], []⟩ 8 (by kernel_rfl) (by kernel_rfl) (by kernel_rfl) (by kernel_rfl)) law
set_option maxRecDepth 100000
theorem am {a b : Bool} (h : a = true) (h' : b = true) : (a && b) = true := by rw [h, h']; rfl
theorem j0 : Rows.tOIStartRow.wf (OpenSpec.ofChange Rows.tOIStartSpec) = true := by kernel_rfl
theorem j1 : laidOutB Try.prog = true := pfLaid
theorem j2 : mapsRowed Try.prog = true := pfMaps
theorem j3 : Try.f10.params.all (Try.prog.readableRec ·) = true := by kernel_rfl
theorem j4 : namedTie Try.prog Rows.tOIStartRow.named Rows.tOIStartSpec.vars = true := by kernel_rfl
theorem j5 : (Rows.tOIStartRow.stops == []) = true := by kernel_rfl
theorem j6 : (Try.prog.stops == []) = true := pfStops
theorem j7 : (Rows.tOIStartRow.knobs == []) = true := by kernel_rfl
theorem j8 : (Try.prog.stopKnobs == []) = true := pfKnobs
theorem j9 : (Rows.tOIStartRow.inPlace == Try.prog.inPlace 10) = true := by kernel_rfl
theorem j10 : (Rows.tOIStartRow.unfollowed == Try.prog.unfollowed 10) = true := by kernel_rfl
theorem j11 : (Rows.tOIStartRow.recurses == Try.prog.recurses 10) = true := by kernel_rfl
theorem j12 : (Rows.tOIStartRow.named == Try.prog.varsNamed 10) = true := by kernel_rfl
theorem j13 : (Rows.tOIStartRow.maps == (Try.f10.params.toList ++ Rows.tOIStartSpec.plain.varTypes Try.prog).any (Try.prog.mapsRec ·)) = true := by kernel_rfl
theorem j14 : (Rows.tOIStartRow.ifaces == (Try.f10.params.toList ++ Rows.tOIStartSpec.plain.varTypes Try.prog).any (Try.prog.ifacesRec ·)) = true := by kernel_rfl
theorem j15 : (Rows.tOIStartRow.mapsOut == Try.prog.mapsAmong Try.f10.resultTypes.toList) = true := by kernel_rfl
theorem j16 : (Rows.tOIStartRow.loops == (Try.f10.params.toList ++ Rows.tOIStartSpec.plain.varTypes Try.prog).any (Try.prog.loopsFrom ·)) = true := by kernel_rfl
theorem j17 : (Rows.tOIStartRow.wideKeys == (Try.f10.params.toList ++ Rows.tOIStartSpec.plain.varTypes Try.prog ++ Try.f10.resultTypes.toList).any (Try.prog.wideKeysFrom ·)) = true := by kernel_rfl
theorem j18 : Rows.tOIStartSpec.vars.all (Try.prog.varReadable ·) = true := by kernel_rfl
theorem j19 : Try.f10.resultTypes.all (fun t => Try.prog.readableRec t && decide (t < Try.prog.types.size)) = true := by kernel_rfl
theorem j20 : (Rows.tOIStartRow.ifacesOut == Try.f10.resultTypes.toList.any (Try.prog.ifacesRec ·)) = true := by kernel_rfl
theorem j21 : (Rows.tOIStartRow.loopsOut == Try.f10.resultTypes.toList.any (Try.prog.loopsFrom ·)) = true := by kernel_rfl
theorem j22 : (Rows.tOIStartRow.plainKeys == Try.prog.plainKeys) = true := by kernel_rfl
theorem j23 : Rows.tOIStartRow.shortTexts.isNone = true := by kernel_rfl
theorem j24 : Try.prog.stopsHeard = true := pfHeard
theorem j25 : Try.prog.mayEnter = true := pfMay
theorem j26 : (Rows.tOIStartRow.lifted == Try.prog.liftsFinal) = true := by rw [headIs.final]; kernel_rfl
theorem j27 : (Try.prog.make == some Rows.tOIStartRow.make) = true := by rw [pfMade]; kernel_rfl
theorem j28 : (Rows.tOIStartRow.kinds == (if Rows.tOIStartRow.domain.isEmpty then [] else Try.f10.params.toList.map fun t => match Try.prog.underlying t with | some (.int k) => some k | _ => none)) = true := by kernel_rfl
theorem j29 : (Rows.tOIStartRow.pinned == Rows.tOIStartRow.pinnedBy) = true := by kernel_rfl
theorem j30 : (Rows.tOIStartRow.veiled == (Try.f10.params.toList ++ Rows.tOIStartSpec.plain.varTypes Try.prog ++ Try.f10.resultTypes.toList).any (Try.prog.veiledRec ·)) = true := by kernel_rfl
theorem j31 : Rows.tOIStartRow.veiledFits Try.prog Try.f10.params.toList (Try.f10.params.toList ++ Rows.tOIStartSpec.plain.varTypes Try.prog ++ Try.f10.resultTypes.toList) = true := by kernel_rfl
theorem closed : joinedFacts Try.prog 10 Try.f10 Rows.tOIStartSpec Rows.tOIStartRow = true := (am (am (am (am (am (am (am (am (am (am (am (am (am (am (am (am (am (am (am (am (am (am (am (am (am (am (am (am (am (am (am j0 j1) j2) j3) j4) j5) j6) j7) j8) j9) j10) j11) j12) j13) j14) j15) j16) j17) j18) j19) j20) j21) j22) j23) j24) j25) j26) j27) j28) j29) j30) j31)
theorem over : Rows.tOIStartRow.holds Try.pinned (OpenSpec.ofChange Rows.tOIStartSpec) :=
  OpenClaim.holds_of_wide 10 Try.f10 rfl rfl rfl rfl rfl rfl rfl ⟨rfl, rfl, rfl, rfl, rfl⟩ rfl rfl rfl rfl rfl (by kernel_rfl) Try.func10 closed
    (of_decide_eq_true (by kernel_rfl)) (by unfold Func.isWrapper; first | (rw [if_pos (by decide +kernel)]; kernel_rfl) | (rw [if_neg (by decide +kernel)]; exact ⟨rfl, rfl⟩))
    (fun os started H enc _ => lifted os started H enc)
end Go.Proofs.Ytojkdbeodjanpaa.RTOIStart
namespace Go.Proofs.Ytojkdbeodjanpaa
theorem tOIStart_holds : Rows.TOIStartSaid := RTOIStart.over
end Go.Proofs.Ytojkdbeodjanpaa
