/-
  Whatever the input, the law CCDChangesTransformsOnly answers true, and the input reads as it did. Conditions: none.
-/
import Derived.Test.YtgjmmipabpocdaaC49
import Derived.Test.YtgjmmipabpocdaaMA
import Derived.Test.YtgjmmipabpocdaaPF
set_option linter.all false
namespace Go.Proofs.Ytgjmmipabpocdaa.RCCDChangesTransformsOnly
open Go.ChangeShapes Go.WideShapes Go.ChangeAt Go.RowKit Go.AL Go.Carom

def shapes : List (Bool × List Sh) := [(true, [.sl true [.int .i64, .int .i64, .int .i64, .int .i64, .int .i64, .int .i64, .int .i64, .int .i64, .int .i64, .int .i64, .int .i64, .int .i64, .int .i64, .int .i64, .bool, .bool, .bool, .bool, .int .i64, .sl true [.int .i64, .int .i64, .sl true [.int .i64, .int .i64], .int .i64, .int .i64, .int .i64, .bool, .int .i64, .int .i64, .int .i64]], .sl true [.int .i64, .int .i64, .int .i64, .int .i64, .int .i64, .int .i64, .int .i64, .int .i64, .int .i64, .int .i64, .int .i64, .int .i64, .int .i64, .int .i64, .bool, .bool, .bool, .bool, .int .i64, .sl true [.int .i64, .int .i64, .sl true [.int .i64, .int .i64], .int .i64, .int .i64, .int .i64, .bool, .int .i64, .int .i64, .int .i64]], .sl true [.int .i64, .int .i64, .int .i64, .int .i64, .int .i64, .int .i64, .int .i64, .int .i64, .int .i64, .int .i64, .int .i64, .bool, .int .i64, .int .i64, .bool, .int .i64, .int .i64, .int .i64, .int .i64, .bool, .int .i64, .int .i64, .int .i64, .int .i64]])]
theorem shapes_are : shA Try.prog Try.f5.params.toList = some shapes := by kernel_rfl
theorem yes : Yes Rows.cCDChangesTransformsOnlySpec Try.f5.params.toList.length := by
  rw [show Try.f5.params.toList.length = 1 by kernel_rfl]
  refine ⟨rfl, fun H ds h => ?_⟩
  match ds, h with
  | [a], _ => exact ⟨rfl, rfl, rfl⟩
theorem law (av : List AV) (h : InA shapes av) : PCall Try.prog 5 av (.b true) := by
  obtain ⟨cs0, av0, h0, rfl, g0⟩ := inA_cons.1 h
  obtain rfl := inA_nil.1 g0
  obtain ⟨was0, now0, js0, rfl, hw0, hn0, hwF0, hnF0⟩ := in_mo39 h0
  exact k_only was0 now0 js0 hw0 hn0 hwF0 hnF0
set_option maxRecDepth 100000 in
theorem lifted (os : Os) (started : os.Started) (H : Type) (enc : TypeId × Value → H) :
    ReturnsInHanded {} Try.checked os 5 .any (Rows.cCDChangesTransformsOnlySpec.pre6 enc Try.prog Try.f5 Rows.cCDChangesTransformsOnlyRow.domain false) (Rows.cCDChangesTransformsOnlySpec.post enc Try.prog Try.f5 false true false false) :=
  row_lifted (C := Try.checked) (tb := 4) pfOwn started pfLaid (by kernel_rfl) Try.func5 (by kernel_rfl) (by kernel_rfl) shapes_are yes
    (ChangeSpec.witness6 (enc := enc) (C := Try.checked) false ⟨#[], #[.agg #[.slice none 0 0, .slice none 0 0, .slice none 0 0]], []⟩ 8 (by kernel_rfl) (by kernel_rfl) (by kernel_rfl) (by kernel_rfl)) law
set_option maxRecDepth 100000
theorem am {a b : Bool} (h : a = true) (h' : b = true) : (a && b) = true := by rw [h, h']; rfl
theorem j0 : Rows.cCDChangesTransformsOnlyRow.wf (OpenSpec.ofChange Rows.cCDChangesTransformsOnlySpec) = true := by kernel_rfl
theorem j1 : laidOutB Try.prog = true := pfLaid
theorem j2 : mapsRowed Try.prog = true := pfMaps
theorem j3 : Try.f5.params.all (Try.prog.readableRec ·) = true := by kernel_rfl
theorem j4 : namedTie Try.prog Rows.cCDChangesTransformsOnlyRow.named Rows.cCDChangesTransformsOnlySpec.vars = true := by kernel_rfl
theorem j5 : (Rows.cCDChangesTransformsOnlyRow.stops == []) = true := by kernel_rfl
theorem j6 : (Try.prog.stops == []) = true := pfStops
theorem j7 : (Rows.cCDChangesTransformsOnlyRow.knobs == []) = true := by kernel_rfl
theorem j8 : (Try.prog.stopKnobs == []) = true := pfKnobs
theorem j9 : (Rows.cCDChangesTransformsOnlyRow.inPlace == Try.prog.inPlace 5) = true := by kernel_rfl
theorem j10 : (Rows.cCDChangesTransformsOnlyRow.unfollowed == Try.prog.unfollowed 5) = true := by kernel_rfl
theorem j11 : (Rows.cCDChangesTransformsOnlyRow.recurses == Try.prog.recurses 5) = true := by kernel_rfl
theorem j12 : (Rows.cCDChangesTransformsOnlyRow.named == Try.prog.varsNamed 5) = true := by kernel_rfl
theorem j13 : (Rows.cCDChangesTransformsOnlyRow.maps == (Try.f5.params.toList ++ Rows.cCDChangesTransformsOnlySpec.plain.varTypes Try.prog).any (Try.prog.mapsRec ·)) = true := by kernel_rfl
theorem j14 : (Rows.cCDChangesTransformsOnlyRow.ifaces == (Try.f5.params.toList ++ Rows.cCDChangesTransformsOnlySpec.plain.varTypes Try.prog).any (Try.prog.ifacesRec ·)) = true := by kernel_rfl
theorem j15 : (Rows.cCDChangesTransformsOnlyRow.mapsOut == Try.prog.mapsAmong Try.f5.resultTypes.toList) = true := by kernel_rfl
theorem j16 : (Rows.cCDChangesTransformsOnlyRow.loops == (Try.f5.params.toList ++ Rows.cCDChangesTransformsOnlySpec.plain.varTypes Try.prog).any (Try.prog.loopsFrom ·)) = true := by kernel_rfl
theorem j17 : (Rows.cCDChangesTransformsOnlyRow.wideKeys == (Try.f5.params.toList ++ Rows.cCDChangesTransformsOnlySpec.plain.varTypes Try.prog ++ Try.f5.resultTypes.toList).any (Try.prog.wideKeysFrom ·)) = true := by kernel_rfl
theorem j18 : Rows.cCDChangesTransformsOnlySpec.vars.all (Try.prog.varReadable ·) = true := by kernel_rfl
theorem j19 : Try.f5.resultTypes.all (fun t => Try.prog.readableRec t && decide (t < Try.prog.types.size)) = true := by kernel_rfl
theorem j20 : (Rows.cCDChangesTransformsOnlyRow.ifacesOut == Try.f5.resultTypes.toList.any (Try.prog.ifacesRec ·)) = true := by kernel_rfl
theorem j21 : (Rows.cCDChangesTransformsOnlyRow.loopsOut == Try.f5.resultTypes.toList.any (Try.prog.loopsFrom ·)) = true := by kernel_rfl
theorem j22 : (Rows.cCDChangesTransformsOnlyRow.plainKeys == Try.prog.plainKeys) = true := by kernel_rfl
theorem j23 : Rows.cCDChangesTransformsOnlyRow.shortTexts.isNone = true := by kernel_rfl
theorem j24 : Try.prog.stopsHeard = true := pfHeard
theorem j25 : Try.prog.mayEnter = true := pfMay
theorem j26 : (Rows.cCDChangesTransformsOnlyRow.lifted == Try.prog.liftsFinal) = true := by rw [headIs.final]; kernel_rfl
theorem j27 : (Try.prog.make == some Rows.cCDChangesTransformsOnlyRow.make) = true := by rw [pfMade]; kernel_rfl
theorem j28 : (Rows.cCDChangesTransformsOnlyRow.kinds == (if Rows.cCDChangesTransformsOnlyRow.domain.isEmpty then [] else Try.f5.params.toList.map fun t => match Try.prog.underlying t with | some (.int k) => some k | _ => none)) = true := by kernel_rfl
theorem j29 : (Rows.cCDChangesTransformsOnlyRow.pinned == Rows.cCDChangesTransformsOnlyRow.pinnedBy) = true := by kernel_rfl
theorem j30 : (Rows.cCDChangesTransformsOnlyRow.veiled == (Try.f5.params.toList ++ Rows.cCDChangesTransformsOnlySpec.plain.varTypes Try.prog ++ Try.f5.resultTypes.toList).any (Try.prog.veiledRec ·)) = true := by kernel_rfl
theorem j31 : Rows.cCDChangesTransformsOnlyRow.veiledFits Try.prog Try.f5.params.toList (Try.f5.params.toList ++ Rows.cCDChangesTransformsOnlySpec.plain.varTypes Try.prog ++ Try.f5.resultTypes.toList) = true := by kernel_rfl
theorem closed : joinedFacts Try.prog 5 Try.f5 Rows.cCDChangesTransformsOnlySpec Rows.cCDChangesTransformsOnlyRow = true := (am (am (am (am (am (am (am (am (am (am (am (am (am (am (am (am (am (am (am (am (am (am (am (am (am (am (am (am (am (am (am j0 j1) j2) j3) j4) j5) j6) j7) j8) j9) j10) j11) j12) j13) j14) j15) j16) j17) j18) j19) j20) j21) j22) j23) j24) j25) j26) j27) j28) j29) j30) j31)
theorem over : Rows.cCDChangesTransformsOnlyRow.holds Try.pinned (OpenSpec.ofChange Rows.cCDChangesTransformsOnlySpec) :=
  OpenClaim.holds_of_wide 5 Try.f5 rfl rfl rfl rfl rfl rfl rfl ⟨rfl, rfl, rfl, rfl, rfl⟩ rfl rfl rfl rfl rfl (by kernel_rfl) Try.func5 closed
    (of_decide_eq_true (by kernel_rfl)) (by unfold Func.isWrapper; first | (rw [if_pos (by decide +kernel)]; kernel_rfl) | (rw [if_neg (by decide +kernel)]; exact ⟨rfl, rfl⟩))
    (fun os started H enc _ => lifted os started H enc)
end Go.Proofs.Ytgjmmipabpocdaa.RCCDChangesTransformsOnly
namespace Go.Proofs.Ytgjmmipabpocdaa
theorem cCDChangesTransformsOnly_holds : Rows.CCDChangesTransformsOnlySaid := RCCDChangesTransformsOnly.over
end Go.Proofs.Ytgjmmipabpocdaa
