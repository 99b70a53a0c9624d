/-
  Whatever the input, the law ContactFixtures answers true, and the input reads as it did. Conditions: none.
-/
import Derived.Test.YtehlfgikcipdaaaC40
import Derived.Test.YtehlfgikcipdaaaMA
import Derived.Test.YtehlfgikcipdaaaPF
set_option linter.all false
namespace Go.Proofs.Ytehlfgikcipdaaa.RContactFixtures
open Go.ChangeShapes Go.WideShapes Go.ChangeAt Go.RowKit Go.AL Go.Carom

def shapes : List (Bool × List Sh) := [(true, [.int .i64, .int .i64, .int .i64, .int .i64, .int .i64, .sl true [.int .i64, .int .i64, .int .i64, .int .i64, .int .i64, .int .i64, .int .i64, .int .i64, .int .i64, .int .i64, .int .i64, .int .i64, .int .i64, .int .i64, .bool, .bool, .bool, .bool, .int .i64, .sl true [.int .i64, .int .i64, .sl true [.int .i64, .int .i64], .int .i64, .int .i64, .int .i64, .bool, .int .i64, .int .i64, .int .i64]], .sl true [.int .i64, .int .i64, .int .i64, .int .i64, .int .i64, .int .i64, .int .i64, .int .i64, .int .i64, .int .i64, .int .i64, .bool, .int .i64, .int .i64, .bool, .int .i64, .int .i64, .int .i64, .int .i64, .bool, .int .i64, .int .i64, .int .i64, .int .i64], .sl true [.int .i64, .int .i64, .int .i64, .int .i64, .int .i64, .int .i64, .sl true [.int .i64, .int .i64, .int .i64, .int .i64, .int .i64, .int .i64]], .sl true [.int .i64, .int .i64, .int .i64, .int .i64], .int .i64, .int .i64]), (true, [.int .i64, .int .i64, .int .i64, .int .i64])]
theorem shapes_are : shA Try.prog Try.f6.params.toList = some shapes := by kernel_rfl
theorem yes : Yes Rows.contactFixturesSpec Try.f6.params.toList.length := by
  rw [show Try.f6.params.toList.length = 2 by kernel_rfl]
  refine ⟨rfl, fun H ds h => ?_⟩
  match ds, h with
  | [a, b], _ => exact ⟨rfl, rfl, rfl⟩
theorem law (av : List AV) (h : InA shapes av) : PCall Try.prog 6 av (.b true) := by
  obtain ⟨cs0, av0, h0, rfl, g0⟩ := inA_cons.1 h
  obtain ⟨cs1, av1, h1, rfl, g1⟩ := inA_cons.1 g0
  obtain rfl := inA_nil.1 g1
  obtain ⟨w0, rfl, q0⟩ := in_wd h0
  obtain ⟨k1, rfl, q1⟩ := in_k4 h1
  exact l_fxs w0 q0.1.1 q0.2.2.1.1 k1
set_option maxRecDepth 100000 in
theorem lifted (os : Os) (started : os.Started) (H : Type) (enc : TypeId × Value → H) :
    ReturnsInHanded {} Try.checked os 6 .any (Rows.contactFixturesSpec.pre6 enc Try.prog Try.f6 Rows.contactFixturesRow.domain false) (Rows.contactFixturesSpec.post enc Try.prog Try.f6 false true false false) :=
  row_lifted (C := Try.checked) (tb := 4) pfOwn started pfLaid (by kernel_rfl) Try.func6 (by kernel_rfl) (by kernel_rfl) shapes_are yes
    (ChangeSpec.witness6 (enc := enc) (C := Try.checked) false ⟨#[], #[.agg #[.int .i64 0, .int .i64 0, .int .i64 0, .int .i64 0, .int .i64 0, .slice none 0 0, .slice none 0 0, .slice none 0 0, .slice none 0 0, .int .i64 0, .int .i64 0], .agg #[.int .i64 0, .int .i64 0, .int .i64 0, .int .i64 0]], []⟩ 8 (by kernel_rfl) (by kernel_rfl) (by kernel_rfl) (by kernel_rfl)) law
set_option maxRecDepth 100000
theorem am {a b : Bool} (h : a = true) (h' : b = true) : (a && b) = true := by rw [h, h']; rfl
theorem j0 : Rows.contactFixturesRow.wf (OpenSpec.ofChange Rows.contactFixturesSpec) = true := by kernel_rfl
theorem j1 : laidOutB Try.prog = true := pfLaid
theorem j2 : mapsRowed Try.prog = true := pfMaps
theorem j3 : Try.f6.params.all (Try.prog.readableRec ·) = true := by kernel_rfl
theorem j4 : namedTie Try.prog Rows.contactFixturesRow.named Rows.contactFixturesSpec.vars = true := by kernel_rfl
theorem j5 : (Rows.contactFixturesRow.stops == []) = true := by kernel_rfl
theorem j6 : (Try.prog.stops == []) = true := pfStops
theorem j7 : (Rows.contactFixturesRow.knobs == []) = true := by kernel_rfl
theorem j8 : (Try.prog.stopKnobs == []) = true := pfKnobs
theorem j9 : (Rows.contactFixturesRow.inPlace == Try.prog.inPlace 6) = true := by kernel_rfl
theorem j10 : (Rows.contactFixturesRow.unfollowed == Try.prog.unfollowed 6) = true := by kernel_rfl
theorem j11 : (Rows.contactFixturesRow.recurses == Try.prog.recurses 6) = true := by kernel_rfl
theorem j12 : (Rows.contactFixturesRow.named == Try.prog.varsNamed 6) = true := by kernel_rfl
theorem j13 : (Rows.contactFixturesRow.maps == (Try.f6.params.toList ++ Rows.contactFixturesSpec.plain.varTypes Try.prog).any (Try.prog.mapsRec ·)) = true := by kernel_rfl
theorem j14 : (Rows.contactFixturesRow.ifaces == (Try.f6.params.toList ++ Rows.contactFixturesSpec.plain.varTypes Try.prog).any (Try.prog.ifacesRec ·)) = true := by kernel_rfl
theorem j15 : (Rows.contactFixturesRow.mapsOut == Try.prog.mapsAmong Try.f6.resultTypes.toList) = true := by kernel_rfl
theorem j16 : (Rows.contactFixturesRow.loops == (Try.f6.params.toList ++ Rows.contactFixturesSpec.plain.varTypes Try.prog).any (Try.prog.loopsFrom ·)) = true := by kernel_rfl
theorem j17 : (Rows.contactFixturesRow.wideKeys == (Try.f6.params.toList ++ Rows.contactFixturesSpec.plain.varTypes Try.prog ++ Try.f6.resultTypes.toList).any (Try.prog.wideKeysFrom ·)) = true := by kernel_rfl
theorem j18 : Rows.contactFixturesSpec.vars.all (Try.prog.varReadable ·) = true := by kernel_rfl
theorem j19 : Try.f6.resultTypes.all (fun t => Try.prog.readableRec t && decide (t < Try.prog.types.size)) = true := by kernel_rfl
theorem j20 : (Rows.contactFixturesRow.ifacesOut == Try.f6.resultTypes.toList.any (Try.prog.ifacesRec ·)) = true := by kernel_rfl
theorem j21 : (Rows.contactFixturesRow.loopsOut == Try.f6.resultTypes.toList.any (Try.prog.loopsFrom ·)) = true := by kernel_rfl
theorem j22 : (Rows.contactFixturesRow.plainKeys == Try.prog.plainKeys) = true := by kernel_rfl
theorem j23 : Rows.contactFixturesRow.shortTexts.isNone = true := by kernel_rfl
theorem j24 : Try.prog.stopsHeard = true := pfHeard
theorem j25 : Try.prog.mayEnter = true := pfMay
theorem j26 : (Rows.contactFixturesRow.lifted == Try.prog.liftsFinal) = true := by rw [headIs.final]; kernel_rfl
theorem j27 : (Try.prog.make == some Rows.contactFixturesRow.make) = true := by rw [pfMade]; kernel_rfl
theorem j28 : (Rows.contactFixturesRow.kinds == (if Rows.contactFixturesRow.domain.isEmpty then [] else Try.f6.params.toList.map fun t => match Try.prog.underlying t with | some (.int k) => some k | _ => none)) = true := by kernel_rfl
theorem j29 : (Rows.contactFixturesRow.pinned == Rows.contactFixturesRow.pinnedBy) = true := by kernel_rfl
theorem j30 : (Rows.contactFixturesRow.veiled == (Try.f6.params.toList ++ Rows.contactFixturesSpec.plain.varTypes Try.prog ++ Try.f6.resultTypes.toList).any (Try.prog.veiledRec ·)) = true := by kernel_rfl
theorem j31 : Rows.contactFixturesRow.veiledFits Try.prog Try.f6.params.toList (Try.f6.params.toList ++ Rows.contactFixturesSpec.plain.varTypes Try.prog ++ Try.f6.resultTypes.toList) = true := by kernel_rfl
theorem closed : joinedFacts Try.prog 6 Try.f6 Rows.contactFixturesSpec Rows.contactFixturesRow = true := (am (am (am (am (am (am (am (am (am (am (am (am (am (am (am (am (am (am (am (am (am (am (am (am (am (am (am (am (am (am (am j0 j1) j2) j3) j4) j5) j6) j7) j8) j9) j10) j11) j12) j13) j14) j15) j16) j17) j18) j19) j20) j21) j22) j23) j24) j25) j26) j27) j28) j29) j30) j31)
theorem over : Rows.contactFixturesRow.holds Try.pinned (OpenSpec.ofChange Rows.contactFixturesSpec) :=
  OpenClaim.holds_of_wide 6 Try.f6 rfl rfl rfl rfl rfl rfl rfl ⟨rfl, rfl, rfl, rfl, rfl⟩ rfl rfl rfl rfl rfl (by kernel_rfl) Try.func6 closed
    (of_decide_eq_true (by kernel_rfl)) (by unfold Func.isWrapper; first | (rw [if_pos (by decide +kernel)]; kernel_rfl) | (rw [if_neg (by decide +kernel)]; exact ⟨rfl, rfl⟩))
    (fun os started H enc _ => lifted os started H enc)
end Go.Proofs.Ytehlfgikcipdaaa.RContactFixtures
namespace Go.Proofs.Ytehlfgikcipdaaa
theorem contactFixtures_holds : Rows.ContactFixturesSaid := RContactFixtures.over
end Go.Proofs.Ytehlfgikcipdaaa
