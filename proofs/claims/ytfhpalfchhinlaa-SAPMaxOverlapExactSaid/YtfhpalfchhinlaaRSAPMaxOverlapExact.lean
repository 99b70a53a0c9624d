/-
  Whatever the input, the law SAPMaxOverlapExact answers true, and the input reads as it did. Conditions: none.
-/
import Derived.Test.YtfhpalfchhinlaaC99
import Derived.Test.YtfhpalfchhinlaaMA
import Derived.Test.YtfhpalfchhinlaaPF
set_option linter.all false
namespace Go.Proofs.Ytfhpalfchhinlaa.RSAPMaxOverlapExact
open Go.ChangeShapes Go.WideShapes Go.ChangeAt Go.RowKit Go.AL Go.Carom

def shapes : List (Bool × List Sh) := [(false, [.sl true [.int .i64, .int .i64, .int .i64, .int .i64, .int .i64]])]
theorem shapes_are : shA Try.prog Try.f4.params.toList = some shapes := by kernel_rfl
theorem yes : Yes Rows.sAPMaxOverlapExactSpec Try.f4.params.toList.length := by
  rw [show Try.f4.params.toList.length = 1 by kernel_rfl]
  refine ⟨rfl, fun H ds h => ?_⟩
  match ds, h with
  | [a], _ => exact ⟨rfl, rfl, rfl⟩
theorem law (av : List AV) (h : InA shapes av) : PCall Try.prog 4 av (.b true) := by
  obtain ⟨cs0, av0, h0, rfl, g0⟩ := inA_cons.1 h
  obtain rfl := inA_nil.1 g0
  obtain ⟨c0, z0, rfl, h0, _⟩ := inL_cons.1 h0
  obtain ⟨l0, rfl, hl0, q0⟩ := in_ens h0
  exact l_max l0
set_option maxRecDepth 100000 in
theorem lifted (os : Os) (started : os.Started) (H : Type) (enc : TypeId × Value → H) :
    ReturnsInHanded {} Try.checked os 4 .any (Rows.sAPMaxOverlapExactSpec.pre6 enc Try.prog Try.f4 Rows.sAPMaxOverlapExactRow.domain false) (Rows.sAPMaxOverlapExactSpec.post enc Try.prog Try.f4 false true false false) :=
  row_lifted (C := Try.checked) (tb := 4) pfOwn started pfLaid (by kernel_rfl) Try.func4 (by kernel_rfl) (by kernel_rfl) shapes_are yes
    (ChangeSpec.witness6 (enc := enc) (C := Try.checked) false ⟨#[], #[.slice none 0 0], []⟩ 8 (by kernel_rfl) (by kernel_rfl) (by kernel_rfl) (by kernel_rfl)) law
set_option maxRecDepth 100000
theorem am {a b : Bool} (h : a = true) (h' : b = true) : (a && b) = true := by rw [h, h']; rfl
theorem j0 : Rows.sAPMaxOverlapExactRow.wf (OpenSpec.ofChange Rows.sAPMaxOverlapExactSpec) = true := by kernel_rfl
theorem j1 : laidOutB Try.prog = true := pfLaid
theorem j2 : mapsRowed Try.prog = true := pfMaps
theorem j3 : Try.f4.params.all (Try.prog.readableRec ·) = true := by kernel_rfl
theorem j4 : namedTie Try.prog Rows.sAPMaxOverlapExactRow.named Rows.sAPMaxOverlapExactSpec.vars = true := by kernel_rfl
theorem j5 : (Rows.sAPMaxOverlapExactRow.stops == []) = true := by kernel_rfl
theorem j6 : (Try.prog.stops == []) = true := pfStops
theorem j7 : (Rows.sAPMaxOverlapExactRow.knobs == []) = true := by kernel_rfl
theorem j8 : (Try.prog.stopKnobs == []) = true := pfKnobs
theorem j9 : (Rows.sAPMaxOverlapExactRow.inPlace == Try.prog.inPlace 4) = true := by kernel_rfl
theorem j10 : (Rows.sAPMaxOverlapExactRow.unfollowed == Try.prog.unfollowed 4) = true := by kernel_rfl
theorem j11 : (Rows.sAPMaxOverlapExactRow.recurses == Try.prog.recurses 4) = true := by kernel_rfl
theorem j12 : (Rows.sAPMaxOverlapExactRow.named == Try.prog.varsNamed 4) = true := by kernel_rfl
theorem j13 : (Rows.sAPMaxOverlapExactRow.maps == (Try.f4.params.toList ++ Rows.sAPMaxOverlapExactSpec.plain.varTypes Try.prog).any (Try.prog.mapsRec ·)) = true := by kernel_rfl
theorem j14 : (Rows.sAPMaxOverlapExactRow.ifaces == (Try.f4.params.toList ++ Rows.sAPMaxOverlapExactSpec.plain.varTypes Try.prog).any (Try.prog.ifacesRec ·)) = true := by kernel_rfl
theorem j15 : (Rows.sAPMaxOverlapExactRow.mapsOut == Try.prog.mapsAmong Try.f4.resultTypes.toList) = true := by kernel_rfl
theorem j16 : (Rows.sAPMaxOverlapExactRow.loops == (Try.f4.params.toList ++ Rows.sAPMaxOverlapExactSpec.plain.varTypes Try.prog).any (Try.prog.loopsFrom ·)) = true := by kernel_rfl
theorem j17 : (Rows.sAPMaxOverlapExactRow.wideKeys == (Try.f4.params.toList ++ Rows.sAPMaxOverlapExactSpec.plain.varTypes Try.prog ++ Try.f4.resultTypes.toList).any (Try.prog.wideKeysFrom ·)) = true := by kernel_rfl
theorem j18 : Rows.sAPMaxOverlapExactSpec.vars.all (Try.prog.varReadable ·) = true := by kernel_rfl
theorem j19 : Try.f4.resultTypes.all (fun t => Try.prog.readableRec t && decide (t < Try.prog.types.size)) = true := by kernel_rfl
theorem j20 : (Rows.sAPMaxOverlapExactRow.ifacesOut == Try.f4.resultTypes.toList.any (Try.prog.ifacesRec ·)) = true := by kernel_rfl
theorem j21 : (Rows.sAPMaxOverlapExactRow.loopsOut == Try.f4.resultTypes.toList.any (Try.prog.loopsFrom ·)) = true := by kernel_rfl
theorem j22 : (Rows.sAPMaxOverlapExactRow.plainKeys == Try.prog.plainKeys) = true := by kernel_rfl
theorem j23 : Rows.sAPMaxOverlapExactRow.shortTexts.isNone = true := by kernel_rfl
theorem j24 : Try.prog.stopsHeard = true := pfHeard
theorem j25 : Try.prog.mayEnter = true := pfMay
theorem j26 : (Rows.sAPMaxOverlapExactRow.lifted == Try.prog.liftsFinal) = true := by rw [headIs.final]; kernel_rfl
theorem j27 : (Try.prog.make == some Rows.sAPMaxOverlapExactRow.make) = true := by rw [pfMade]; kernel_rfl
theorem j28 : (Rows.sAPMaxOverlapExactRow.kinds == (if Rows.sAPMaxOverlapExactRow.domain.isEmpty then [] else Try.f4.params.toList.map fun t => match Try.prog.underlying t with | some (.int k) => some k | _ => none)) = true := by kernel_rfl
theorem j29 : (Rows.sAPMaxOverlapExactRow.pinned == Rows.sAPMaxOverlapExactRow.pinnedBy) = true := by kernel_rfl
theorem j30 : (Rows.sAPMaxOverlapExactRow.veiled == (Try.f4.params.toList ++ Rows.sAPMaxOverlapExactSpec.plain.varTypes Try.prog ++ Try.f4.resultTypes.toList).any (Try.prog.veiledRec ·)) = true := by kernel_rfl
theorem j31 : Rows.sAPMaxOverlapExactRow.veiledFits Try.prog Try.f4.params.toList (Try.f4.params.toList ++ Rows.sAPMaxOverlapExactSpec.plain.varTypes Try.prog ++ Try.f4.resultTypes.toList) = true := by kernel_rfl
theorem closed : joinedFacts Try.prog 4 Try.f4 Rows.sAPMaxOverlapExactSpec Rows.sAPMaxOverlapExactRow = true := (am (am (am (am (am (am (am (am (am (am (am (am (am (am (am (am (am (am (am (am (am (am (am (am (am (am (am (am (am (am (am j0 j1) j2) j3) j4) j5) j6) j7) j8) j9) j10) j11) j12) j13) j14) j15) j16) j17) j18) j19) j20) j21) j22) j23) j24) j25) j26) j27) j28) j29) j30) j31)
theorem over : Rows.sAPMaxOverlapExactRow.holds Try.pinned (OpenSpec.ofChange Rows.sAPMaxOverlapExactSpec) :=
  OpenClaim.holds_of_wide 4 Try.f4 rfl rfl rfl rfl rfl rfl rfl ⟨rfl, rfl, rfl, rfl, rfl⟩ rfl rfl rfl rfl rfl (by kernel_rfl) Try.func4 closed
    (of_decide_eq_true (by kernel_rfl)) (by unfold Func.isWrapper; first | (rw [if_pos (by decide +kernel)]; kernel_rfl) | (rw [if_neg (by decide +kernel)]; exact ⟨rfl, rfl⟩))
    (fun os started H enc _ => lifted os started H enc)
end Go.Proofs.Ytfhpalfchhinlaa.RSAPMaxOverlapExact
namespace Go.Proofs.Ytfhpalfchhinlaa
theorem sAPMaxOverlapExact_holds : Rows.SAPMaxOverlapExactSaid := RSAPMaxOverlapExact.over
end Go.Proofs.Ytfhpalfchhinlaa
