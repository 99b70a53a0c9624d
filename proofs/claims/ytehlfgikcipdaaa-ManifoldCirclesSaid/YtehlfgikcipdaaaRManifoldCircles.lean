/-
  Whatever the input, the law ManifoldCircles answers true, and the input reads as it did. Conditions: none.
-/
import Derived.Test.YtehlfgikcipdaaaC33
import Derived.Test.YtehlfgikcipdaaaMA
import Derived.Test.YtehlfgikcipdaaaPF
set_option linter.all false
namespace Go.Proofs.Ytehlfgikcipdaaa.RManifoldCircles
open Go.ChangeShapes Go.WideShapes Go.ChangeAt Go.RowKit Go.AL Go.Carom

def shapes : List (Bool × List Sh) := [(false, [.int .i64]), (false, [.int .i64]), (true, [.int .i64, .int .i64]), (true, [.int .i64, .int .i64])]
theorem shapes_are : shA Try.prog Try.f14.params.toList = some shapes := by kernel_rfl
theorem yes : Yes Rows.manifoldCirclesSpec Try.f14.params.toList.length := by
  rw [show Try.f14.params.toList.length = 4 by kernel_rfl]
  refine ⟨rfl, fun H ds h => ?_⟩
  match ds, h with
  | [a, b, c, d], _ => exact ⟨rfl, rfl, rfl⟩
theorem law (av : List AV) (h : InA shapes av) : PCall Try.prog 14 av (.b true) := by
  obtain ⟨cs0, av0, h0, rfl, g0⟩ := inA_cons.1 h
  obtain ⟨cs1, av1, h1, rfl, g1⟩ := inA_cons.1 g0
  obtain ⟨cs2, av2, h2, rfl, g2⟩ := inA_cons.1 g1
  obtain ⟨cs3, av3, h3, rfl, g3⟩ := inA_cons.1 g2
  obtain rfl := inA_nil.1 g3
  obtain ⟨n0, e0⟩ := in_int h0
  rw [e0]
  obtain ⟨n1, e1⟩ := in_int h1
  rw [e1]
  obtain ⟨x2, y2, rfl⟩ := in_vec h2
  obtain ⟨x3, y3, rfl⟩ := in_vec h3
  exact l_mcirc n0 n1 x2 y2 x3 y3
set_option maxRecDepth 100000 in
theorem lifted (os : Os) (started : os.Started) (H : Type) (enc : TypeId × Value → H) :
    ReturnsInHanded {} Try.checked os 14 .any (Rows.manifoldCirclesSpec.pre6 enc Try.prog Try.f14 Rows.manifoldCirclesRow.domain false) (Rows.manifoldCirclesSpec.post enc Try.prog Try.f14 false true false false) :=
  row_lifted (C := Try.checked) (tb := 4) pfOwn started pfLaid (by kernel_rfl) Try.func14 (by kernel_rfl) (by kernel_rfl) shapes_are yes
    (ChangeSpec.witness6 (enc := enc) (C := Try.checked) false ⟨#[], #[.int .i64 0, .int .i64 0, .agg #[.int .i64 0, .int .i64 0], .agg #[.int .i64 0, .int .i64 0]], []⟩ 8 (by kernel_rfl) (by kernel_rfl) (by kernel_rfl) (by kernel_rfl)) law
set_option maxRecDepth 100000
theorem am {a b : Bool} (h : a = true) (h' : b = true) : (a && b) = true := by rw [h, h']; rfl
theorem j0 : Rows.manifoldCirclesRow.wf (OpenSpec.ofChange Rows.manifoldCirclesSpec) = true := by kernel_rfl
theorem j1 : laidOutB Try.prog = true := pfLaid
theorem j2 : mapsRowed Try.prog = true := pfMaps
theorem j3 : Try.f14.params.all (Try.prog.readableRec ·) = true := by kernel_rfl
theorem j4 : namedTie Try.prog Rows.manifoldCirclesRow.named Rows.manifoldCirclesSpec.vars = true := by kernel_rfl
theorem j5 : (Rows.manifoldCirclesRow.stops == []) = true := by kernel_rfl
theorem j6 : (Try.prog.stops == []) = true := pfStops
theorem j7 : (Rows.manifoldCirclesRow.knobs == []) = true := by kernel_rfl
theorem j8 : (Try.prog.stopKnobs == []) = true := pfKnobs
theorem j9 : (Rows.manifoldCirclesRow.inPlace == Try.prog.inPlace 14) = true := by kernel_rfl
theorem j10 : (Rows.manifoldCirclesRow.unfollowed == Try.prog.unfollowed 14) = true := by kernel_rfl
theorem j11 : (Rows.manifoldCirclesRow.recurses == Try.prog.recurses 14) = true := by kernel_rfl
theorem j12 : (Rows.manifoldCirclesRow.named == Try.prog.varsNamed 14) = true := by kernel_rfl
theorem j13 : (Rows.manifoldCirclesRow.maps == (Try.f14.params.toList ++ Rows.manifoldCirclesSpec.plain.varTypes Try.prog).any (Try.prog.mapsRec ·)) = true := by kernel_rfl
theorem j14 : (Rows.manifoldCirclesRow.ifaces == (Try.f14.params.toList ++ Rows.manifoldCirclesSpec.plain.varTypes Try.prog).any (Try.prog.ifacesRec ·)) = true := by kernel_rfl
theorem j15 : (Rows.manifoldCirclesRow.mapsOut == Try.prog.mapsAmong Try.f14.resultTypes.toList) = true := by kernel_rfl
theorem j16 : (Rows.manifoldCirclesRow.loops == (Try.f14.params.toList ++ Rows.manifoldCirclesSpec.plain.varTypes Try.prog).any (Try.prog.loopsFrom ·)) = true := by kernel_rfl
theorem j17 : (Rows.manifoldCirclesRow.wideKeys == (Try.f14.params.toList ++ Rows.manifoldCirclesSpec.plain.varTypes Try.prog ++ Try.f14.resultTypes.toList).any (Try.prog.wideKeysFrom ·)) = true := by kernel_rfl
theorem j18 : Rows.manifoldCirclesSpec.vars.all (Try.prog.varReadable ·) = true := by kernel_rfl
theorem j19 : Try.f14.resultTypes.all (fun t => Try.prog.readableRec t && decide (t < Try.prog.types.size)) = true := by kernel_rfl
theorem j20 : (Rows.manifoldCirclesRow.ifacesOut == Try.f14.resultTypes.toList.any (Try.prog.ifacesRec ·)) = true := by kernel_rfl
theorem j21 : (Rows.manifoldCirclesRow.loopsOut == Try.f14.resultTypes.toList.any (Try.prog.loopsFrom ·)) = true := by kernel_rfl
theorem j22 : (Rows.manifoldCirclesRow.plainKeys == Try.prog.plainKeys) = true := by kernel_rfl
theorem j23 : Rows.manifoldCirclesRow.shortTexts.isNone = true := by kernel_rfl
theorem j24 : Try.prog.stopsHeard = true := pfHeard
theorem j25 : Try.prog.mayEnter = true := pfMay
theorem j26 : (Rows.manifoldCirclesRow.lifted == Try.prog.liftsFinal) = true := by rw [headIs.final]; kernel_rfl
theorem j27 : (Try.prog.make == some Rows.manifoldCirclesRow.make) = true := by rw [pfMade]; kernel_rfl
theorem j28 : (Rows.manifoldCirclesRow.kinds == (if Rows.manifoldCirclesRow.domain.isEmpty then [] else Try.f14.params.toList.map fun t => match Try.prog.underlying t with | some (.int k) => some k | _ => none)) = true := by kernel_rfl
theorem j29 : (Rows.manifoldCirclesRow.pinned == Rows.manifoldCirclesRow.pinnedBy) = true := by kernel_rfl
theorem j30 : (Rows.manifoldCirclesRow.veiled == (Try.f14.params.toList ++ Rows.manifoldCirclesSpec.plain.varTypes Try.prog ++ Try.f14.resultTypes.toList).any (Try.prog.veiledRec ·)) = true := by kernel_rfl
theorem j31 : Rows.manifoldCirclesRow.veiledFits Try.prog Try.f14.params.toList (Try.f14.params.toList ++ Rows.manifoldCirclesSpec.plain.varTypes Try.prog ++ Try.f14.resultTypes.toList) = true := by kernel_rfl
theorem closed : joinedFacts Try.prog 14 Try.f14 Rows.manifoldCirclesSpec Rows.manifoldCirclesRow = true := (am (am (am (am (am (am (am (am (am (am (am (am (am (am (am (am (am (am (am (am (am (am (am (am (am (am (am (am (am (am (am j0 j1) j2) j3) j4) j5) j6) j7) j8) j9) j10) j11) j12) j13) j14) j15) j16) j17) j18) j19) j20) j21) j22) j23) j24) j25) j26) j27) j28) j29) j30) j31)
theorem over : Rows.manifoldCirclesRow.holds Try.pinned (OpenSpec.ofChange Rows.manifoldCirclesSpec) :=
  OpenClaim.holds_of_wide 14 Try.f14 rfl rfl rfl rfl rfl rfl rfl ⟨rfl, rfl, rfl, rfl, rfl⟩ rfl rfl rfl rfl rfl (by kernel_rfl) Try.func14 closed
    (of_decide_eq_true (by kernel_rfl)) (by unfold Func.isWrapper; first | (rw [if_pos (by decide +kernel)]; kernel_rfl) | (rw [if_neg (by decide +kernel)]; exact ⟨rfl, rfl⟩))
    (fun os started H enc _ => lifted os started H enc)
end Go.Proofs.Ytehlfgikcipdaaa.RManifoldCircles
namespace Go.Proofs.Ytehlfgikcipdaaa
theorem manifoldCircles_holds : Rows.ManifoldCirclesSaid := RManifoldCircles.over
end Go.Proofs.Ytehlfgikcipdaaa
