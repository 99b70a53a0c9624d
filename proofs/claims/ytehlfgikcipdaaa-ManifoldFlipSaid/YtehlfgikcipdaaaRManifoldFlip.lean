/-
  Whatever the input, the law ManifoldFlip answers true, and the input reads as it did. Conditions: none.
-/
import Derived.Test.YtehlfgikcipdaaaC35
import Derived.Test.YtehlfgikcipdaaaMA
import Derived.Test.YtehlfgikcipdaaaPF
set_option linter.all false
namespace Go.Proofs.Ytehlfgikcipdaaa.RManifoldFlip
open Go.ChangeShapes Go.WideShapes Go.ChangeAt Go.RowKit Go.AL Go.Carom

def shapes : List (Bool × List Sh) := [(true, [.int .i64, .int .i64, .sl true [.int .i64, .int .i64, .int .i64, .int .i64, .int .i64, .int .i64]]), (true, [.int .i64, .int .i64, .sl true [.int .i64, .int .i64, .int .i64, .int .i64, .int .i64, .int .i64]])]
theorem shapes_are : shA Try.prog Try.f15.params.toList = some shapes := by kernel_rfl
theorem yes : Yes Rows.manifoldFlipSpec Try.f15.params.toList.length := by
  rw [show Try.f15.params.toList.length = 2 by kernel_rfl]
  refine ⟨rfl, fun H ds h => ?_⟩
  match ds, h with
  | [a, b], _ => exact ⟨rfl, rfl, rfl⟩
theorem law (av : List AV) (h : InA shapes av) : PCall Try.prog 15 av (.b true) := by
  obtain ⟨cs0, av0, h0, rfl, g0⟩ := inA_cons.1 h
  obtain ⟨cs1, av1, h1, rfl, g1⟩ := inA_cons.1 g0
  obtain rfl := inA_nil.1 g1
  obtain ⟨m0, rfl, q0⟩ := in_mn h0
  obtain ⟨m1, rfl, q1⟩ := in_mn h1
  exact l_mflip m0.x m0.y (in_mx h0).1 (in_mx h0).2 m0.ps q0.1 m1.x m1.y m1.ps q1.1
set_option maxRecDepth 100000 in
theorem lifted (os : Os) (started : os.Started) (H : Type) (enc : TypeId × Value → H) :
    ReturnsInHanded {} Try.checked os 15 .any (Rows.manifoldFlipSpec.pre6 enc Try.prog Try.f15 Rows.manifoldFlipRow.domain false) (Rows.manifoldFlipSpec.post enc Try.prog Try.f15 false true false false) :=
  row_lifted (C := Try.checked) (tb := 4) pfOwn started pfLaid (by kernel_rfl) Try.func15 (by kernel_rfl) (by kernel_rfl) shapes_are yes
    (ChangeSpec.witness6 (enc := enc) (C := Try.checked) false ⟨#[], #[.agg #[.int .i64 0, .int .i64 0, .slice none 0 0], .agg #[.int .i64 0, .int .i64 0, .slice none 0 0]], []⟩ 8 (by kernel_rfl) (by kernel_rfl) (by kernel_rfl) (by kernel_rfl)) law
set_option maxRecDepth 100000
theorem am {a b : Bool} (h : a = true) (h' : b = true) : (a && b) = true := by rw [h, h']; rfl
theorem j0 : Rows.manifoldFlipRow.wf (OpenSpec.ofChange Rows.manifoldFlipSpec) = true := by kernel_rfl
theorem j1 : laidOutB Try.prog = true := pfLaid
theorem j2 : mapsRowed Try.prog = true := pfMaps
theorem j3 : Try.f15.params.all (Try.prog.readableRec ·) = true := by kernel_rfl
theorem j4 : namedTie Try.prog Rows.manifoldFlipRow.named Rows.manifoldFlipSpec.vars = true := by kernel_rfl
theorem j5 : (Rows.manifoldFlipRow.stops == []) = true := by kernel_rfl
theorem j6 : (Try.prog.stops == []) = true := pfStops
theorem j7 : (Rows.manifoldFlipRow.knobs == []) = true := by kernel_rfl
theorem j8 : (Try.prog.stopKnobs == []) = true := pfKnobs
theorem j9 : (Rows.manifoldFlipRow.inPlace == Try.prog.inPlace 15) = true := by kernel_rfl
theorem j10 : (Rows.manifoldFlipRow.unfollowed == Try.prog.unfollowed 15) = true := by kernel_rfl
theorem j11 : (Rows.manifoldFlipRow.recurses == Try.prog.recurses 15) = true := by kernel_rfl
theorem j12 : (Rows.manifoldFlipRow.named == Try.prog.varsNamed 15) = true := by kernel_rfl
theorem j13 : (Rows.manifoldFlipRow.maps == (Try.f15.params.toList ++ Rows.manifoldFlipSpec.plain.varTypes Try.prog).any (Try.prog.mapsRec ·)) = true := by kernel_rfl
theorem j14 : (Rows.manifoldFlipRow.ifaces == (Try.f15.params.toList ++ Rows.manifoldFlipSpec.plain.varTypes Try.prog).any (Try.prog.ifacesRec ·)) = true := by kernel_rfl
theorem j15 : (Rows.manifoldFlipRow.mapsOut == Try.prog.mapsAmong Try.f15.resultTypes.toList) = true := by kernel_rfl
theorem j16 : (Rows.manifoldFlipRow.loops == (Try.f15.params.toList ++ Rows.manifoldFlipSpec.plain.varTypes Try.prog).any (Try.prog.loopsFrom ·)) = true := by kernel_rfl
theorem j17 : (Rows.manifoldFlipRow.wideKeys == (Try.f15.params.toList ++ Rows.manifoldFlipSpec.plain.varTypes Try.prog ++ Try.f15.resultTypes.toList).any (Try.prog.wideKeysFrom ·)) = true := by kernel_rfl
theorem j18 : Rows.manifoldFlipSpec.vars.all (Try.prog.varReadable ·) = true := by kernel_rfl
theorem j19 : Try.f15.resultTypes.all (fun t => Try.prog.readableRec t && decide (t < Try.prog.types.size)) = true := by kernel_rfl
theorem j20 : (Rows.manifoldFlipRow.ifacesOut == Try.f15.resultTypes.toList.any (Try.prog.ifacesRec ·)) = true := by kernel_rfl
theorem j21 : (Rows.manifoldFlipRow.loopsOut == Try.f15.resultTypes.toList.any (Try.prog.loopsFrom ·)) = true := by kernel_rfl
theorem j22 : (Rows.manifoldFlipRow.plainKeys == Try.prog.plainKeys) = true := by kernel_rfl
theorem j23 : Rows.manifoldFlipRow.shortTexts.isNone = true := by kernel_rfl
theorem j24 : Try.prog.stopsHeard = true := pfHeard
theorem j25 : Try.prog.mayEnter = true := pfMay
theorem j26 : (Rows.manifoldFlipRow.lifted == Try.prog.liftsFinal) = true := by rw [headIs.final]; kernel_rfl
theorem j27 : (Try.prog.make == some Rows.manifoldFlipRow.make) = true := by rw [pfMade]; kernel_rfl
theorem j28 : (Rows.manifoldFlipRow.kinds == (if Rows.manifoldFlipRow.domain.isEmpty then [] else Try.f15.params.toList.map fun t => match Try.prog.underlying t with | some (.int k) => some k | _ => none)) = true := by kernel_rfl
theorem j29 : (Rows.manifoldFlipRow.pinned == Rows.manifoldFlipRow.pinnedBy) = true := by kernel_rfl
theorem j30 : (Rows.manifoldFlipRow.veiled == (Try.f15.params.toList ++ Rows.manifoldFlipSpec.plain.varTypes Try.prog ++ Try.f15.resultTypes.toList).any (Try.prog.veiledRec ·)) = true := by kernel_rfl
theorem j31 : Rows.manifoldFlipRow.veiledFits Try.prog Try.f15.params.toList (Try.f15.params.toList ++ Rows.manifoldFlipSpec.plain.varTypes Try.prog ++ Try.f15.resultTypes.toList) = true := by kernel_rfl
theorem closed : joinedFacts Try.prog 15 Try.f15 Rows.manifoldFlipSpec Rows.manifoldFlipRow = true := (am (am (am (am (am (am (am (am (am (am (am (am (am (am (am (am (am (am (am (am (am (am (am (am (am (am (am (am (am (am (am j0 j1) j2) j3) j4) j5) j6) j7) j8) j9) j10) j11) j12) j13) j14) j15) j16) j17) j18) j19) j20) j21) j22) j23) j24) j25) j26) j27) j28) j29) j30) j31)
theorem over : Rows.manifoldFlipRow.holds Try.pinned (OpenSpec.ofChange Rows.manifoldFlipSpec) :=
  OpenClaim.holds_of_wide 15 Try.f15 rfl rfl rfl rfl rfl rfl rfl ⟨rfl, rfl, rfl, rfl, rfl⟩ rfl rfl rfl rfl rfl (by kernel_rfl) Try.func15 closed
    (of_decide_eq_true (by kernel_rfl)) (by unfold Func.isWrapper; first | (rw [if_pos (by decide +kernel)]; kernel_rfl) | (rw [if_neg (by decide +kernel)]; exact ⟨rfl, rfl⟩))
    (fun os started H enc _ => lifted os started H enc)
end Go.Proofs.Ytehlfgikcipdaaa.RManifoldFlip
namespace Go.Proofs.Ytehlfgikcipdaaa
theorem manifoldFlip_holds : Rows.ManifoldFlipSaid := RManifoldFlip.over
end Go.Proofs.Ytehlfgikcipdaaa
