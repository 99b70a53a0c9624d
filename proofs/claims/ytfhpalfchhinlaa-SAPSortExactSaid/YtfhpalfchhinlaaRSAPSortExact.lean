/-
  Whatever the input, the law SAPSortExact answers true, and the input reads as it did. Conditions: none.
-/
import Derived.Test.YtfhpalfchhinlaaC99
import Derived.Test.YtfhpalfchhinlaaMA
import Derived.Test.YtfhpalfchhinlaaPF
set_option linter.all false
namespace Go.Proofs.Ytfhpalfchhinlaa.RSAPSortExact
open Go.ChangeShapes Go.WideShapes Go.ChangeAt Go.RowKit Go.AL Go.Carom

def shapes : List (Bool × List Sh) := [(false, [.sl true [.int .i64, .int .i64, .int .i64, .int .i64, .int .i64]])]
theorem shapes_are : shA Try.prog Try.f3.params.toList = some shapes := by kernel_rfl
theorem yes : Yes Rows.sAPSortExactSpec Try.f3.params.toList.length := by
  rw [show Try.f3.params.toList.length = 1 by kernel_rfl]
  refine ⟨rfl, fun H ds h => ?_⟩
  match ds, h with
  | [a], _ => exact ⟨rfl, rfl, rfl⟩
theorem law (av : List AV) (h : InA shapes av) : PCall Try.prog 3 av (.b true) := by
  obtain ⟨cs0, av0, h0, rfl, g0⟩ := inA_cons.1 h
  obtain rfl := inA_nil.1 g0
  obtain ⟨c0, z0, rfl, h0, _⟩ := inL_cons.1 h0
  obtain ⟨l0, rfl, hl0, q0⟩ := in_ens h0
  exact l_sort l0
set_option maxRecDepth 100000 in
theorem lifted (os : Os) (started : os.Started) (H : Type) (enc : TypeId × Value → H) :
    ReturnsInHanded {} Try.checked os 3 .any (Rows.sAPSortExactSpec.pre6 enc Try.prog Try.f3 Rows.sAPSortExactRow.domain false) (Rows.sAPSortExactSpec.post enc Try.prog Try.f3 false true false false) :=
  row_lifted (C := Try.checked) (tb := 4) pfOwn started pfLaid (by kernel_rfl) Try.func3 (by kernel_rfl) (by kernel_rfl) shapes_are yes
    (ChangeSpec.witness6 (enc := enc) (C := Try.checked) false ⟨#[], #[.slice none 0 0], []⟩ 8 (by kernel_rfl) (by kernel_rfl) (by kernel_rfl) (by kernel_rfl)) law
set_option maxRecDepth 100000
theorem am {a b : Bool} (h : a = true) (h' : b = true) : (a && b) = true := by rw [h, h']; rfl
theorem j0 : Rows.sAPSortExactRow.wf (OpenSpec.ofChange Rows.sAPSortExactSpec) = true := by kernel_rfl
theorem j1 : laidOutB Try.prog = true := pfLaid
theorem j2 : mapsRowed Try.prog = true := pfMaps
theorem j3 : Try.f3.params.all (Try.prog.readableRec ·) = true := by kernel_rfl
theorem j4 : namedTie Try.prog Rows.sAPSortExactRow.named Rows.sAPSortExactSpec.vars = true := by kernel_rfl
theorem j5 : (Rows.sAPSortExactRow.stops == []) = true := by kernel_rfl
theorem j6 : (Try.prog.stops == []) = true := pfStops
theorem j7 : (Rows.sAPSortExactRow.knobs == []) = true := by kernel_rfl
theorem j8 : (Try.prog.stopKnobs == []) = true := pfKnobs
theorem j9 : (Rows.sAPSortExactRow.inPlace == Try.prog.inPlace 3) = true := by kernel_rfl
theorem j10 : (Rows.sAPSortExactRow.unfollowed == Try.prog.unfollowed 3) = true := by kernel_rfl
theorem j11 : (Rows.sAPSortExactRow.recurses == Try.prog.recurses 3) = true := by kernel_rfl
theorem j12 : (Rows.sAPSortExactRow.named == Try.prog.varsNamed 3) = true := by kernel_rfl
theorem j13 : (Rows.sAPSortExactRow.maps == (Try.f3.params.toList ++ Rows.sAPSortExactSpec.plain.varTypes Try.prog).any (Try.prog.mapsRec ·)) = true := by kernel_rfl
theorem j14 : (Rows.sAPSortExactRow.ifaces == (Try.f3.params.toList ++ Rows.sAPSortExactSpec.plain.varTypes Try.prog).any (Try.prog.ifacesRec ·)) = true := by kernel_rfl
theorem j15 : (Rows.sAPSortExactRow.mapsOut == Try.prog.mapsAmong Try.f3.resultTypes.toList) = true := by kernel_rfl
theorem j16 : (Rows.sAPSortExactRow.loops == (Try.f3.params.toList ++ Rows.sAPSortExactSpec.plain.varTypes Try.prog).any (Try.prog.loopsFrom ·)) = true := by kernel_rfl
theorem j17 : (Rows.sAPSortExactRow.wideKeys == (Try.f3.params.toList ++ Rows.sAPSortExactSpec.plain.varTypes Try.prog ++ Try.f3.resultTypes.toList).any (Try.prog.wideKeysFrom ·)) = true := by kernel_rfl
theorem j18 : Rows.sAPSortExactSpec.vars.all (Try.prog.varReadable ·) = true := by kernel_rfl
theorem j19 : Try.f3.resultTypes.all (fun t => Try.prog.readableRec t && decide (t < Try.prog.types.size)) = true := by kernel_rfl
theorem j20 : (Rows.sAPSortExactRow.ifacesOut == Try.f3.resultTypes.toList.any (Try.prog.ifacesRec ·)) = true := by kernel_rfl
theorem j21 : (Rows.sAPSortExactRow.loopsOut == Try.f3.resultTypes.toList.any (Try.prog.loopsFrom ·)) = true := by kernel_rfl
theorem j22 : (Rows.sAPSortExactRow.plainKeys == Try.prog.plainKeys) = true := by kernel_rfl
theorem j23 : Rows.sAPSortExactRow.shortTexts.isNone = true := by kernel_rfl
theorem j24 : Try.prog.stopsHeard = true := pfHeard
theorem j25 : Try.prog.mayEnter = true := pfMay
theorem j26 : (Rows.sAPSortExactRow.lifted == Try.prog.liftsFinal) = true := by rw [headIs.final]; kernel_rfl
theorem j27 : (Try.prog.make == some Rows.sAPSortExactRow.make) = true := by rw [pfMade]; kernel_rfl
theorem j28 : (Rows.sAPSortExactRow.kinds == (if Rows.sAPSortExactRow.domain.isEmpty then [] else Try.f3.params.toList.map fun t => match Try.prog.underlying t with | some (.int k) => some k | _ => none)) = true := by kernel_rfl
theorem j29 : (Rows.sAPSortExactRow.pinned == Rows.sAPSortExactRow.pinnedBy) = true := by kernel_rfl
theorem j30 : (Rows.sAPSortExactRow.veiled == (Try.f3.params.toList ++ Rows.sAPSortExactSpec.plain.varTypes Try.prog ++ Try.f3.resultTypes.toList).any (Try.prog.veiledRec ·)) = true := by kernel_rfl
theorem j31 : Rows.sAPSortExactRow.veiledFits Try.prog Try.f3.params.toList (Try.f3.params.toList ++ Rows.sAPSortExactSpec.plain.varTypes Try.prog ++ Try.f3.resultTypes.toList) = true := by kernel_rfl
theorem closed : joinedFacts Try.prog 3 Try.f3 Rows.sAPSortExactSpec Rows.sAPSortExactRow = true := (am (am (am (am (am (am (am (am (am (am (am (am (am (am (am (am (am (am (am (am (am (am (am (am (am (am (am (am (am (am (am j0 j1) j2) j3) j4) j5) j6) j7) j8) j9) j10) j11) j12) j13) j14) j15) j16) j17) j18) j19) j20) j21) j22) j23) j24) j25) j26) j27) j28) j29) j30) j31)
theorem over : Rows.sAPSortExactRow.holds Try.pinned (OpenSpec.ofChange Rows.sAPSortExactSpec) :=
  OpenClaim.holds_of_wide 3 Try.f3 rfl rfl rfl rfl rfl rfl rfl ⟨rfl, rfl, rfl, rfl, rfl⟩ rfl rfl rfl rfl rfl (by kernel_rfl) Try.func3 closed
    (of_decide_eq_true (by kernel_rfl)) (by unfold Func.isWrapper; first | (rw [if_pos (by decide +kernel)]; kernel_rfl) | (rw [if_neg (by decide +kernel)]; exact ⟨rfl, rfl⟩))
    (fun os started H enc _ => lifted os started H enc)
end Go.Proofs.Ytfhpalfchhinlaa.RSAPSortExact
namespace Go.Proofs.Ytfhpalfchhinlaa
theorem sAPSortExact_holds : Rows.SAPSortExactSaid := RSAPSortExact.over
end Go.Proofs.Ytfhpalfchhinlaa
