/-
  Whatever the input, the law ContactEvents answers true, and the input reads as it did. Conditions: none.
-/
import Derived.Test.YtehlfgikcipdaaaC32
import Derived.Test.YtehlfgikcipdaaaMA
import Derived.Test.YtehlfgikcipdaaaPF
set_option linter.all false
namespace Go.Proofs.Ytehlfgikcipdaaa.RContactEvents
open Go.ChangeShapes Go.WideShapes Go.ChangeAt Go.RowKit Go.AL Go.Carom

def shapes : List (Bool × List Sh) := [(false, [.sl true [.int .i64, .int .i64, .int .i64, .int .i64, .int .i64, .int .i64, .sl true [.int .i64, .int .i64, .int .i64, .int .i64, .int .i64, .int .i64]]]), (false, [.sl true [.int .i64, .int .i64, .int .i64, .int .i64, .int .i64, .int .i64, .sl true [.int .i64, .int .i64, .int .i64, .int .i64, .int .i64, .int .i64]]])]
theorem shapes_are : shA Try.prog Try.f4.params.toList = some shapes := by kernel_rfl
theorem yes : Yes Rows.contactEventsSpec Try.f4.params.toList.length := by
  rw [show Try.f4.params.toList.length = 2 by kernel_rfl]
  refine ⟨rfl, fun H ds h => ?_⟩
  match ds, h with
  | [a, b], _ => exact ⟨rfl, rfl, rfl⟩
theorem law (av : List AV) (h : InA shapes av) : PCall Try.prog 4 av (.b true) := by
  obtain ⟨cs0, av0, h0, rfl, g0⟩ := inA_cons.1 h
  obtain ⟨cs1, av1, h1, rfl, g1⟩ := inA_cons.1 g0
  obtain rfl := inA_nil.1 g1
  obtain ⟨c0, e0, h0⟩ := in_one h0
  obtain ⟨l0, rfl, hl0, q0⟩ := in_cts h0
  rw [e0]
  obtain ⟨c1, e1, h1⟩ := in_one h1
  obtain ⟨l1, rfl, hl1, q1⟩ := in_cts h1
  rw [e1]
  exact l_evts l0 hl0 l1 hl1
set_option maxRecDepth 100000 in
theorem lifted (os : Os) (started : os.Started) (H : Type) (enc : TypeId × Value → H) :
    ReturnsInHanded {} Try.checked os 4 .any (Rows.contactEventsSpec.pre6 enc Try.prog Try.f4 Rows.contactEventsRow.domain false) (Rows.contactEventsSpec.post enc Try.prog Try.f4 false true false false) :=
  row_lifted (C := Try.checked) (tb := 4) pfOwn started pfLaid (by kernel_rfl) Try.func4 (by kernel_rfl) (by kernel_rfl) shapes_are yes
    (ChangeSpec.witness6 (enc := enc) (C := Try.checked) false ⟨#[], #[.slice none 0 0, .slice none 0 0], []⟩ 8 (by kernel_rfl) (by kernel_rfl) (by kernel_rfl) (by kernel_rfl)) law
set_option maxRecDepth 100000
theorem am {a b : Bool} (h : a = true) (h' : b = true) : (a && b) = true := by rw [h, h']; rfl
theorem j0 : Rows.contactEventsRow.wf (OpenSpec.ofChange Rows.contactEventsSpec) = true := by kernel_rfl
theorem j1 : laidOutB Try.prog = true := pfLaid
theorem j2 : mapsRowed Try.prog = true := pfMaps
theorem j3 : Try.f4.params.all (Try.prog.readableRec ·) = true := by kernel_rfl
theorem j4 : namedTie Try.prog Rows.contactEventsRow.named Rows.contactEventsSpec.vars = true := by kernel_rfl
theorem j5 : (Rows.contactEventsRow.stops == []) = true := by kernel_rfl
theorem j6 : (Try.prog.stops == []) = true := pfStops
theorem j7 : (Rows.contactEventsRow.knobs == []) = true := by kernel_rfl
theorem j8 : (Try.prog.stopKnobs == []) = true := pfKnobs
theorem j9 : (Rows.contactEventsRow.inPlace == Try.prog.inPlace 4) = true := by kernel_rfl
theorem j10 : (Rows.contactEventsRow.unfollowed == Try.prog.unfollowed 4) = true := by kernel_rfl
theorem j11 : (Rows.contactEventsRow.recurses == Try.prog.recurses 4) = true := by kernel_rfl
theorem j12 : (Rows.contactEventsRow.named == Try.prog.varsNamed 4) = true := by kernel_rfl
theorem j13 : (Rows.contactEventsRow.maps == (Try.f4.params.toList ++ Rows.contactEventsSpec.plain.varTypes Try.prog).any (Try.prog.mapsRec ·)) = true := by kernel_rfl
theorem j14 : (Rows.contactEventsRow.ifaces == (Try.f4.params.toList ++ Rows.contactEventsSpec.plain.varTypes Try.prog).any (Try.prog.ifacesRec ·)) = true := by kernel_rfl
theorem j15 : (Rows.contactEventsRow.mapsOut == Try.prog.mapsAmong Try.f4.resultTypes.toList) = true := by kernel_rfl
theorem j16 : (Rows.contactEventsRow.loops == (Try.f4.params.toList ++ Rows.contactEventsSpec.plain.varTypes Try.prog).any (Try.prog.loopsFrom ·)) = true := by kernel_rfl
theorem j17 : (Rows.contactEventsRow.wideKeys == (Try.f4.params.toList ++ Rows.contactEventsSpec.plain.varTypes Try.prog ++ Try.f4.resultTypes.toList).any (Try.prog.wideKeysFrom ·)) = true := by kernel_rfl
theorem j18 : Rows.contactEventsSpec.vars.all (Try.prog.varReadable ·) = true := by kernel_rfl
theorem j19 : Try.f4.resultTypes.all (fun t => Try.prog.readableRec t && decide (t < Try.prog.types.size)) = true := by kernel_rfl
theorem j20 : (Rows.contactEventsRow.ifacesOut == Try.f4.resultTypes.toList.any (Try.prog.ifacesRec ·)) = true := by kernel_rfl
theorem j21 : (Rows.contactEventsRow.loopsOut == Try.f4.resultTypes.toList.any (Try.prog.loopsFrom ·)) = true := by kernel_rfl
theorem j22 : (Rows.contactEventsRow.plainKeys == Try.prog.plainKeys) = true := by kernel_rfl
theorem j23 : Rows.contactEventsRow.shortTexts.isNone = true := by kernel_rfl
theorem j24 : Try.prog.stopsHeard = true := pfHeard
theorem j25 : Try.prog.mayEnter = true := pfMay
theorem j26 : (Rows.contactEventsRow.lifted == Try.prog.liftsFinal) = true := by rw [headIs.final]; kernel_rfl
theorem j27 : (Try.prog.make == some Rows.contactEventsRow.make) = true := by rw [pfMade]; kernel_rfl
theorem j28 : (Rows.contactEventsRow.kinds == (if Rows.contactEventsRow.domain.isEmpty then [] else Try.f4.params.toList.map fun t => match Try.prog.underlying t with | some (.int k) => some k | _ => none)) = true := by kernel_rfl
theorem j29 : (Rows.contactEventsRow.pinned == Rows.contactEventsRow.pinnedBy) = true := by kernel_rfl
theorem j30 : (Rows.contactEventsRow.veiled == (Try.f4.params.toList ++ Rows.contactEventsSpec.plain.varTypes Try.prog ++ Try.f4.resultTypes.toList).any (Try.prog.veiledRec ·)) = true := by kernel_rfl
theorem j31 : Rows.contactEventsRow.veiledFits Try.prog Try.f4.params.toList (Try.f4.params.toList ++ Rows.contactEventsSpec.plain.varTypes Try.prog ++ Try.f4.resultTypes.toList) = true := by kernel_rfl
theorem closed : joinedFacts Try.prog 4 Try.f4 Rows.contactEventsSpec Rows.contactEventsRow = true := (am (am (am (am (am (am (am (am (am (am (am (am (am (am (am (am (am (am (am (am (am (am (am (am (am (am (am (am (am (am (am j0 j1) j2) j3) j4) j5) j6) j7) j8) j9) j10) j11) j12) j13) j14) j15) j16) j17) j18) j19) j20) j21) j22) j23) j24) j25) j26) j27) j28) j29) j30) j31)
theorem over : Rows.contactEventsRow.holds Try.pinned (OpenSpec.ofChange Rows.contactEventsSpec) :=
  OpenClaim.holds_of_wide 4 Try.f4 rfl rfl rfl rfl rfl rfl rfl ⟨rfl, rfl, rfl, rfl, rfl⟩ rfl rfl rfl rfl rfl (by kernel_rfl) Try.func4 closed
    (of_decide_eq_true (by kernel_rfl)) (by unfold Func.isWrapper; first | (rw [if_pos (by decide +kernel)]; kernel_rfl) | (rw [if_neg (by decide +kernel)]; exact ⟨rfl, rfl⟩))
    (fun os started H enc _ => lifted os started H enc)
end Go.Proofs.Ytehlfgikcipdaaa.RContactEvents
namespace Go.Proofs.Ytehlfgikcipdaaa
theorem contactEvents_holds : Rows.ContactEventsSaid := RContactEvents.over
end Go.Proofs.Ytehlfgikcipdaaa
