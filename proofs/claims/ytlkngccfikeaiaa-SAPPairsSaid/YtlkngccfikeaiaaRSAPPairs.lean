/-
  Whatever the input, the law SAPPairs answers true, and the input reads as it did. Conditions: none.
-/
import Derived.Test.YtlkngccfikeaiaaC147
import Derived.Test.YtlkngccfikeaiaaMA
import Derived.Test.YtlkngccfikeaiaaPF
set_option linter.all false
namespace Go.Proofs.Ytlkngccfikeaiaa.RSAPPairs
open Go.ChangeShapes Go.WideShapes Go.ChangeAt Go.RowKit Go.AL Go.Carom
def shapes : List (Bool × List Sh) := [(false, [.sl true [.int .i64, .int .i64, .int .i64, .int .i64, .int .i64]])]
theorem shapes_are : shA Try.prog Try.f3.params.toList = some shapes := by kernel_rfl
theorem yes : Yes Rows.sAPPairsSpec Try.f3.params.toList.length := by
  rw [show Try.f3.params.toList.length = 1 by kernel_rfl]
  refine ⟨rfl, fun H ds h => ?_⟩
  match ds, h with
  | [a], _ => exact ⟨rfl, rfl, rfl⟩
theorem law (av : List AV) (h : InA shapes av) : PCall Try.prog 3 av (.b true) := by
  obtain ⟨cs0, av0, h0, rfl, g0⟩ := inA_cons.1 h
  obtain rfl := inA_nil.1 g0
  obtain ⟨c0, z0, rfl, h0, _⟩ := inL_cons.1 h0
  obtain ⟨l0, rfl, hl0, q0⟩ := in_ens h0
  exact l_sprs l0
set_option maxRecDepth 100000 in
theorem lifted (os : Os) (started : os.Started) (H : Type) (enc : TypeId × Value → H) :
    ReturnsInHanded {} Try.checked os 3 .any (Rows.sAPPairsSpec.pre6 enc Try.prog Try.f3 Rows.sAPPairsRow.domain false) (Rows.sAPPairsSpec.post enc Try.prog Try.f3 false true false false) :=
  row_lifted (C := Try.checked) (tb := 4) pfOwn started pfLaid (by kernel_rfl) Try.func3 (by kernel_rfl) (by kernel_rfl) shapes_are yes
    (ChangeSpec.witness6 (enc := enc) (C := Try.checked) false ⟨#[], #[.slice none 0 0], []⟩ 8 (by kernel_rfl) (by kernel_rfl) (by kernel_rfl) (by kernel_rfl)) law
set_option maxRecDepth 100000
theorem am {a b : Bool} (h : a = true) (h' : b = true) : (a && b) = true := by rw [h, h']; rfl
theorem j0 : Rows.sAPPairsRow.wf (OpenSpec.ofChange Rows.sAPPairsSpec) = true := by kernel_rfl
theorem j1 : laidOutB Try.prog = true := pfLaid
theorem j2 : mapsRowed Try.prog = true := pfMaps
theorem j3 : Try.f3.params.all (Try.prog.readableRec ·) = true := by kernel_rfl
theorem j4 : namedTie Try.prog Rows.sAPPairsRow.named Rows.sAPPairsSpec.vars = true := by kernel_rfl
theorem j5 : (Rows.sAPPairsRow.stops == []) = true := by kernel_rfl
theorem j6 : (Try.prog.stops == []) = true := pfStops
theorem j7 : (Rows.sAPPairsRow.knobs == []) = true := by kernel_rfl
theorem j8 : (Try.prog.stopKnobs == []) = true := pfKnobs
theorem j9 : (Rows.sAPPairsRow.inPlace == Try.prog.inPlace 3) = true := by kernel_rfl
theorem j10 : (Rows.sAPPairsRow.unfollowed == Try.prog.unfollowed 3) = true := by kernel_rfl
theorem j11 : (Rows.sAPPairsRow.recurses == Try.prog.recurses 3) = true := by kernel_rfl
theorem j12 : (Rows.sAPPairsRow.named == Try.prog.varsNamed 3) = true := by kernel_rfl
theorem j13 : (Rows.sAPPairsRow.maps == (Try.f3.params.toList ++ Rows.sAPPairsSpec.plain.varTypes Try.prog).any (Try.prog.mapsRec ·)) = true := by kernel_rfl
theorem j14 : (Rows.sAPPairsRow.ifaces == (Try.f3.params.toList ++ Rows.sAPPairsSpec.plain.varTypes Try.prog).any (Try.prog.ifacesRec ·)) = true := by kernel_rfl
theorem j15 : (Rows.sAPPairsRow.mapsOut == Try.prog.mapsAmong Try.f3.resultTypes.toList) = true := by kernel_rfl
theorem j16 : (Rows.sAPPairsRow.loops == (Try.f3.params.toList ++ Rows.sAPPairsSpec.plain.varTypes Try.prog).any (Try.prog.loopsFrom ·)) = true := by kernel_rfl
theorem j17 : (Rows.sAPPairsRow.wideKeys == (Try.f3.params.toList ++ Rows.sAPPairsSpec.plain.varTypes Try.prog ++ Try.f3.resultTypes.toList).any (Try.prog.wideKeysFrom ·)) = true := by kernel_rfl
theorem j18 : Rows.sAPPairsSpec.vars.all (Try.prog.varReadable ·) = true := by kernel_rfl
theorem j19 : Try.f3.resultTypes.all (fun t => Try.prog.readableRec t && decide (t < Try.prog.types.size)) = true := by kernel_rfl
theorem j20 : (Rows.sAPPairsRow.ifacesOut == Try.f3.resultTypes.toList.any (Try.prog.ifacesRec ·)) = true := by kernel_rfl
theorem j21 : (Rows.sAPPairsRow.loopsOut == Try.f3.resultTypes.toList.any (Try.prog.loopsFrom ·)) = true := by kernel_rfl
theorem j22 : (Rows.sAPPairsRow.plainKeys == Try.prog.plainKeys) = true := by kernel_rfl
theorem j23 : Rows.sAPPairsRow.shortTexts.isNone = true := by kernel_rfl
theorem j24 : Try.prog.stopsHeard = true := pfHeard
theorem j25 : Try.prog.mayEnter = true := pfMay
theorem j26 : (Rows.sAPPairsRow.lifted == Try.prog.liftsFinal) = true := by rw [headIs.final]; kernel_rfl
theorem j27 : (Try.prog.make == some Rows.sAPPairsRow.make) = true := by rw [pfMade]; kernel_rfl
theorem j28 : (Rows.sAPPairsRow.kinds == (if Rows.sAPPairsRow.domain.isEmpty then [] else Try.f3.params.toList.map fun t => match Try.prog.underlying t with | some (.int k) => some k | _ => none)) = true := by kernel_rfl
theorem j29 : (Rows.sAPPairsRow.pinned == Rows.sAPPairsRow.pinnedBy) = true := by kernel_rfl
theorem j30 : (Rows.sAPPairsRow.veiled == (Try.f3.params.toList ++ Rows.sAPPairsSpec.plain.varTypes Try.prog ++ Try.f3.resultTypes.toList).any (Try.prog.veiledRec ·)) = true := by kernel_rfl
theorem j31 : Rows.sAPPairsRow.veiledFits Try.prog Try.f3.params.toList (Try.f3.params.toList ++ Rows.sAPPairsSpec.plain.varTypes Try.prog ++ Try.f3.resultTypes.toList) = true := by kernel_rfl
theorem closed : joinedFacts Try.prog 3 Try.f3 Rows.sAPPairsSpec Rows.sAPPairsRow = true := (am (am (am (am (am (am (am (am (am (am (am (am (am (am (am (am (am (am (am (am (am (am (am (am (am (am (am (am (am (am (am j0 j1) j2) j3) j4) j5) j6) j7) j8) j9) j10) j11) j12) j13) j14) j15) j16) j17) j18) j19) j20) j21) j22) j23) j24) j25) j26) j27) j28) j29) j30) j31)
theorem over : Rows.sAPPairsRow.holds Try.pinned (OpenSpec.ofChange Rows.sAPPairsSpec) :=
  OpenClaim.holds_of_wide 3 Try.f3 rfl rfl rfl rfl rfl rfl rfl ⟨rfl, rfl, rfl, rfl, rfl⟩ rfl rfl rfl rfl rfl (by kernel_rfl) Try.func3 closed
    (of_decide_eq_true (by kernel_rfl)) (by unfold Func.isWrapper; first | (rw [if_pos (by decide +kernel)]; kernel_rfl) | (rw [if_neg (by decide +kernel)]; exact ⟨rfl, rfl⟩))
    (fun os started H enc _ => lifted os started H enc)
end Go.Proofs.Ytlkngccfikeaiaa.RSAPPairs
namespace Go.Proofs.Ytlkngccfikeaiaa
theorem sAPPairs_holds : Rows.SAPPairsSaid := RSAPPairs.over
end Go.Proofs.Ytlkngccfikeaiaa
