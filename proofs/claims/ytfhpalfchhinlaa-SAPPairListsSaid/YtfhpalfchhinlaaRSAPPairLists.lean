/-
  Whatever the input, the law SAPPairLists answers true, and the input reads as it did. Conditions: none.
-/
import Derived.Test.YtfhpalfchhinlaaC108
import Derived.Test.YtfhpalfchhinlaaMA
import Derived.Test.YtfhpalfchhinlaaPF
set_option linter.all false
namespace Go.Proofs.Ytfhpalfchhinlaa.RSAPPairLists
open Go.ChangeShapes Go.WideShapes Go.ChangeAt Go.RowKit Go.AL Go.Carom

def shapes : List (Bool × List Sh) := [(false, [.sl true [.int .i64, .int .i64]]), (false, [.sl true [.int .i64, .int .i64]])]
theorem shapes_are : shA Try.prog Try.f6.params.toList = some shapes := by kernel_rfl
theorem yes : Yes Rows.sAPPairListsSpec Try.f6.params.toList.length := by
  rw [show Try.f6.params.toList.length = 2 by kernel_rfl]
  refine ⟨rfl, fun H ds h => ?_⟩
  match ds, h with
  | [a, b], _ => exact ⟨rfl, rfl, rfl⟩
theorem law (av : List AV) (h : InA shapes av) : PCall Try.prog 6 av (.b true) := by
  obtain ⟨cs0, av0, h0, rfl, g0⟩ := inA_cons.1 h
  obtain ⟨cs1, av1, h1, rfl, g1⟩ := inA_cons.1 g0
  obtain rfl := inA_nil.1 g1
  obtain ⟨c0, z0, rfl, h0, _⟩ := inL_cons.1 h0
  obtain ⟨l0, rfl, hl0, q0⟩ := in_p2s h0
  obtain ⟨c1, z1, rfl, h1, _⟩ := inL_cons.1 h1
  obtain ⟨l1, rfl, hl1, q1⟩ := in_p2s h1
  exact l_lists l0 l1
set_option maxRecDepth 100000 in
theorem lifted (os : Os) (started : os.Started) (H : Type) (enc : TypeId × Value → H) :
    ReturnsInHanded {} Try.checked os 6 .any (Rows.sAPPairListsSpec.pre6 enc Try.prog Try.f6 Rows.sAPPairListsRow.domain false) (Rows.sAPPairListsSpec.post enc Try.prog Try.f6 false true false false) :=
  row_lifted (C := Try.checked) (tb := 4) pfOwn started pfLaid (by kernel_rfl) Try.func6 (by kernel_rfl) (by kernel_rfl) shapes_are yes
    (ChangeSpec.witness6 (enc := enc) (C := Try.checked) false ⟨#[], #[.slice none 0 0, .slice none 0 0], []⟩ 8 (by kernel_rfl) (by kernel_rfl) (by kernel_rfl) (by kernel_rfl)) law
set_option maxRecDepth 100000
theorem am {a b : Bool} (h : a = true) (h' : b = true) : (a && b) = true := by rw [h, h']; rfl
theorem j0 : Rows.sAPPairListsRow.wf (OpenSpec.ofChange Rows.sAPPairListsSpec) = true := by kernel_rfl
theorem j1 : laidOutB Try.prog = true := pfLaid
theorem j2 : mapsRowed Try.prog = true := pfMaps
theorem j3 : Try.f6.params.all (Try.prog.readableRec ·) = true := by kernel_rfl
theorem j4 : namedTie Try.prog Rows.sAPPairListsRow.named Rows.sAPPairListsSpec.vars = true := by kernel_rfl
theorem j5 : (Rows.sAPPairListsRow.stops == []) = true := by kernel_rfl
theorem j6 : (Try.prog.stops == []) = true := pfStops
theorem j7 : (Rows.sAPPairListsRow.knobs == []) = true := by kernel_rfl
theorem j8 : (Try.prog.stopKnobs == []) = true := pfKnobs
theorem j9 : (Rows.sAPPairListsRow.inPlace == Try.prog.inPlace 6) = true := by kernel_rfl
theorem j10 : (Rows.sAPPairListsRow.unfollowed == Try.prog.unfollowed 6) = true := by kernel_rfl
theorem j11 : (Rows.sAPPairListsRow.recurses == Try.prog.recurses 6) = true := by kernel_rfl
theorem j12 : (Rows.sAPPairListsRow.named == Try.prog.varsNamed 6) = true := by kernel_rfl
theorem j13 : (Rows.sAPPairListsRow.maps == (Try.f6.params.toList ++ Rows.sAPPairListsSpec.plain.varTypes Try.prog).any (Try.prog.mapsRec ·)) = true := by kernel_rfl
theorem j14 : (Rows.sAPPairListsRow.ifaces == (Try.f6.params.toList ++ Rows.sAPPairListsSpec.plain.varTypes Try.prog).any (Try.prog.ifacesRec ·)) = true := by kernel_rfl
theorem j15 : (Rows.sAPPairListsRow.mapsOut == Try.prog.mapsAmong Try.f6.resultTypes.toList) = true := by kernel_rfl
theorem j16 : (Rows.sAPPairListsRow.loops == (Try.f6.params.toList ++ Rows.sAPPairListsSpec.plain.varTypes Try.prog).any (Try.prog.loopsFrom ·)) = true := by kernel_rfl
theorem j17 : (Rows.sAPPairListsRow.wideKeys == (Try.f6.params.toList ++ Rows.sAPPairListsSpec.plain.varTypes Try.prog ++ Try.f6.resultTypes.toList).any (Try.prog.wideKeysFrom ·)) = true := by kernel_rfl
theorem j18 : Rows.sAPPairListsSpec.vars.all (Try.prog.varReadable ·) = true := by kernel_rfl
theorem j19 : Try.f6.resultTypes.all (fun t => Try.prog.readableRec t && decide (t < Try.prog.types.size)) = true := by kernel_rfl
theorem j20 : (Rows.sAPPairListsRow.ifacesOut == Try.f6.resultTypes.toList.any (Try.prog.ifacesRec ·)) = true := by kernel_rfl
theorem j21 : (Rows.sAPPairListsRow.loopsOut == Try.f6.resultTypes.toList.any (Try.prog.loopsFrom ·)) = true := by kernel_rfl
theorem j22 : (Rows.sAPPairListsRow.plainKeys == Try.prog.plainKeys) = true := by kernel_rfl
theorem j23 : Rows.sAPPairListsRow.shortTexts.isNone = true := by kernel_rfl
theorem j24 : Try.prog.stopsHeard = true := pfHeard
theorem j25 : Try.prog.mayEnter = true := pfMay
theorem j26 : (Rows.sAPPairListsRow.lifted == Try.prog.liftsFinal) = true := by rw [headIs.final]; kernel_rfl
theorem j27 : (Try.prog.make == some Rows.sAPPairListsRow.make) = true := by rw [pfMade]; kernel_rfl
theorem j28 : (Rows.sAPPairListsRow.kinds == (if Rows.sAPPairListsRow.domain.isEmpty then [] else Try.f6.params.toList.map fun t => match Try.prog.underlying t with | some (.int k) => some k | _ => none)) = true := by kernel_rfl
theorem j29 : (Rows.sAPPairListsRow.pinned == Rows.sAPPairListsRow.pinnedBy) = true := by kernel_rfl
theorem j30 : (Rows.sAPPairListsRow.veiled == (Try.f6.params.toList ++ Rows.sAPPairListsSpec.plain.varTypes Try.prog ++ Try.f6.resultTypes.toList).any (Try.prog.veiledRec ·)) = true := by kernel_rfl
theorem j31 : Rows.sAPPairListsRow.veiledFits Try.prog Try.f6.params.toList (Try.f6.params.toList ++ Rows.sAPPairListsSpec.plain.varTypes Try.prog ++ Try.f6.resultTypes.toList) = true := by kernel_rfl
theorem closed : joinedFacts Try.prog 6 Try.f6 Rows.sAPPairListsSpec Rows.sAPPairListsRow = true := (am (am (am (am (am (am (am (am (am (am (am (am (am (am (am (am (am (am (am (am (am (am (am (am (am (am (am (am (am (am (am j0 j1) j2) j3) j4) j5) j6) j7) j8) j9) j10) j11) j12) j13) j14) j15) j16) j17) j18) j19) j20) j21) j22) j23) j24) j25) j26) j27) j28) j29) j30) j31)
theorem over : Rows.sAPPairListsRow.holds Try.pinned (OpenSpec.ofChange Rows.sAPPairListsSpec) :=
  OpenClaim.holds_of_wide 6 Try.f6 rfl rfl rfl rfl rfl rfl rfl ⟨rfl, rfl, rfl, rfl, rfl⟩ rfl rfl rfl rfl rfl (by kernel_rfl) Try.func6 closed
    (of_decide_eq_true (by kernel_rfl)) (by unfold Func.isWrapper; first | (rw [if_pos (by decide +kernel)]; kernel_rfl) | (rw [if_neg (by decide +kernel)]; exact ⟨rfl, rfl⟩))
    (fun os started H enc _ => lifted os started H enc)
end Go.Proofs.Ytfhpalfchhinlaa.RSAPPairLists
namespace Go.Proofs.Ytfhpalfchhinlaa
theorem sAPPairLists_holds : Rows.SAPPairListsSaid := RSAPPairLists.over
end Go.Proofs.Ytfhpalfchhinlaa
