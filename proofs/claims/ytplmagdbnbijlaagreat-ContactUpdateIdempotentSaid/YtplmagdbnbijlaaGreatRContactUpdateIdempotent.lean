/-
  Whatever the input, the law ContactUpdateIdempotent answers true, and the input reads as it did. Conditions: none.
-/
import Derived.Test.YtplmagdbnbijlaaGreatC127
import Derived.Test.YtplmagdbnbijlaaGreatMA
import Derived.Test.YtplmagdbnbijlaaGreatPF
set_option linter.all false
namespace Go.Proofs.YtplmagdbnbijlaaGreat.RContactUpdateIdempotent
open Go.ChangeShapes Go.WideShapes Go.ChangeAt Go.RowKit Go.AL Go.Carom
def shapes : List (Bool × List Sh) := [(true, [.int .i64, .int .i64, .int .i64, .int .i64, .int .i64, .sl true [.int .i64, .int .i64, .int .i64, .int .i64, .int .i64, .int .i64, .int .i64, .int .i64, .int .i64, .int .i64, .int .i64, .int .i64, .int .i64, .int .i64, .bool, .bool, .bool, .bool, .int .i64, .sl true [.int .i64, .int .i64, .sl true [.int .i64, .int .i64], .int .i64, .int .i64, .int .i64, .bool, .int .i64, .int .i64, .int .i64]], .sl true [.int .i64, .int .i64, .int .i64, .int .i64, .int .i64, .int .i64, .int .i64, .int .i64, .int .i64, .int .i64, .int .i64, .bool, .int .i64, .int .i64, .bool, .int .i64, .int .i64, .int .i64, .int .i64, .bool, .int .i64, .int .i64, .int .i64, .int .i64], .sl true [.int .i64, .int .i64, .int .i64, .int .i64, .int .i64, .int .i64, .sl true [.int .i64, .int .i64, .int .i64, .int .i64, .int .i64, .int .i64]], .sl true [.int .i64, .int .i64, .int .i64, .int .i64], .int .i64, .int .i64])]
theorem shapes_are : shA Tryz.prog Tryz.f14.params.toList = some shapes := by kernel_rfl
theorem yes : Yes Rows.contactUpdateIdempotentSpec Tryz.f14.params.toList.length := by
  rw [show Tryz.f14.params.toList.length = 1 by kernel_rfl]
  refine ⟨rfl, fun H ds h => ?_⟩
  match ds, h with
  | [a], _ => exact ⟨rfl, rfl, rfl⟩
theorem law (av : List AV) (h : InA shapes av) : PCall Tryz.prog 14 av (.b true) := by
  obtain ⟨cs0, av0, h0, rfl, g0⟩ := inA_cons.1 h
  obtain rfl := inA_nil.1 g0
  obtain ⟨w0, rfl, q0⟩ := in_wd h0
  exact l_cidm w0 q0.1.1 q0.2.2.1.1
set_option maxRecDepth 100000 in
theorem lifted (os : Os) (started : os.Started) (H : Type) (enc : TypeId × Value → H) :
    ReturnsInHanded {} Tryz.checked os 14 .any (Rows.contactUpdateIdempotentSpec.pre6 enc Tryz.prog Tryz.f14 Rows.contactUpdateIdempotentRow.domain false) (Rows.contactUpdateIdempotentSpec.post enc Tryz.prog Tryz.f14 false true false false) :=
  row_lifted (C := Tryz.checked) (tb := 4) pfOwn started pfLaid (by kernel_rfl) Tryz.func14 (by kernel_rfl) (by kernel_rfl) shapes_are yes
    (ChangeSpec.witness6 (enc := enc) (C := Tryz.checked) false ⟨#[], #[.agg #[.int .i64 0, .int .i64 0, .int .i64 0, .int .i64 0, .int .i64 0, .slice none 0 0, .slice none 0 0, .slice none 0 0, .slice none 0 0, .int .i64 0, .int .i64 0]], []⟩ 8 (by kernel_rfl) (by kernel_rfl) (by kernel_rfl) (by kernel_rfl)) law
set_option maxRecDepth 100000
theorem am {a b : Bool} (h : a = true) (h' : b = true) : (a && b) = true := by rw [h, h']; rfl
theorem j0 : Rows.contactUpdateIdempotentRow.wf (OpenSpec.ofChange Rows.contactUpdateIdempotentSpec) = true := by kernel_rfl
theorem j1 : laidOutB Tryz.prog = true := pfLaid
theorem j2 : mapsRowed Tryz.prog = true := pfMaps
theorem j3 : Tryz.f14.params.all (Tryz.prog.readableRec ·) = true := by kernel_rfl
theorem j4 : namedTie Tryz.prog Rows.contactUpdateIdempotentRow.named Rows.contactUpdateIdempotentSpec.vars = true := by kernel_rfl
theorem j5 : (Rows.contactUpdateIdempotentRow.stops == []) = true := by kernel_rfl
theorem j6 : (Tryz.prog.stops == []) = true := pfStops
theorem j7 : (Rows.contactUpdateIdempotentRow.knobs == []) = true := by kernel_rfl
theorem j8 : (Tryz.prog.stopKnobs == []) = true := pfKnobs
theorem j9 : (Rows.contactUpdateIdempotentRow.inPlace == Tryz.prog.inPlace 14) = true := by kernel_rfl
theorem j10 : (Rows.contactUpdateIdempotentRow.unfollowed == Tryz.prog.unfollowed 14) = true := by kernel_rfl
theorem j11 : (Rows.contactUpdateIdempotentRow.recurses == Tryz.prog.recurses 14) = true := by kernel_rfl
theorem j12 : (Rows.contactUpdateIdempotentRow.named == Tryz.prog.varsNamed 14) = true := by kernel_rfl
theorem j13 : (Rows.contactUpdateIdempotentRow.maps == (Tryz.f14.params.toList ++ Rows.contactUpdateIdempotentSpec.plain.varTypes Tryz.prog).any (Tryz.prog.mapsRec ·)) = true := by kernel_rfl
theorem j14 : (Rows.contactUpdateIdempotentRow.ifaces == (Tryz.f14.params.toList ++ Rows.contactUpdateIdempotentSpec.plain.varTypes Tryz.prog).any (Tryz.prog.ifacesRec ·)) = true := by kernel_rfl
theorem j15 : (Rows.contactUpdateIdempotentRow.mapsOut == Tryz.prog.mapsAmong Tryz.f14.resultTypes.toList) = true := by kernel_rfl
theorem j16 : (Rows.contactUpdateIdempotentRow.loops == (Tryz.f14.params.toList ++ Rows.contactUpdateIdempotentSpec.plain.varTypes Tryz.prog).any (Tryz.prog.loopsFrom ·)) = true := by kernel_rfl
theorem j17 : (Rows.contactUpdateIdempotentRow.wideKeys == (Tryz.f14.params.toList ++ Rows.contactUpdateIdempotentSpec.plain.varTypes Tryz.prog ++ Tryz.f14.resultTypes.toList).any (Tryz.prog.wideKeysFrom ·)) = true := by kernel_rfl
theorem j18 : Rows.contactUpdateIdempotentSpec.vars.all (Tryz.prog.varReadable ·) = true := by kernel_rfl
theorem j19 : Tryz.f14.resultTypes.all (fun t => Tryz.prog.readableRec t && decide (t < Tryz.prog.types.size)) = true := by kernel_rfl
theorem j20 : (Rows.contactUpdateIdempotentRow.ifacesOut == Tryz.f14.resultTypes.toList.any (Tryz.prog.ifacesRec ·)) = true := by kernel_rfl
theorem j21 : (Rows.contactUpdateIdempotentRow.loopsOut == Tryz.f14.resultTypes.toList.any (Tryz.prog.loopsFrom ·)) = true := by kernel_rfl
theorem j22 : (Rows.contactUpdateIdempotentRow.plainKeys == Tryz.prog.plainKeys) = true := by kernel_rfl
theorem j23 : Rows.contactUpdateIdempotentRow.shortTexts.isNone = true := by kernel_rfl
theorem j24 : Tryz.prog.stopsHeard = true := pfHeard
theorem j25 : Tryz.prog.mayEnter = true := pfMay
theorem j26 : (Rows.contactUpdateIdempotentRow.lifted == Tryz.prog.liftsFinal) = true := by rw [headIs.final]; kernel_rfl
theorem j27 : (Tryz.prog.make == some Rows.contactUpdateIdempotentRow.make) = true := by rw [pfMade]; kernel_rfl
theorem j28 : (Rows.contactUpdateIdempotentRow.kinds == (if Rows.contactUpdateIdempotentRow.domain.isEmpty then [] else Tryz.f14.params.toList.map fun t => match Tryz.prog.underlying t with | some (.int k) => some k | _ => none)) = true := by kernel_rfl
theorem j29 : (Rows.contactUpdateIdempotentRow.pinned == Rows.contactUpdateIdempotentRow.pinnedBy) = true := by kernel_rfl
theorem j30 : (Rows.contactUpdateIdempotentRow.veiled == (Tryz.f14.params.toList ++ Rows.contactUpdateIdempotentSpec.plain.varTypes Tryz.prog ++ Tryz.f14.resultTypes.toList).any (Tryz.prog.veiledRec ·)) = true := by kernel_rfl
theorem j31 : Rows.contactUpdateIdempotentRow.veiledFits Tryz.prog Tryz.f14.params.toList (Tryz.f14.params.toList ++ Rows.contactUpdateIdempotentSpec.plain.varTypes Tryz.prog ++ Tryz.f14.resultTypes.toList) = true := by kernel_rfl
theorem closed : joinedFacts Tryz.prog 14 Tryz.f14 Rows.contactUpdateIdempotentSpec Rows.contactUpdateIdempotentRow = true := (am (am (am (am (am (am (am (am (am (am (am (am (am (am (am (am (am (am (am (am (am (am (am (am (am (am (am (am (am (am (am j0 j1) j2) j3) j4) j5) j6) j7) j8) j9) j10) j11) j12) j13) j14) j15) j16) j17) j18) j19) j20) j21) j22) j23) j24) j25) j26) j27) j28) j29) j30) j31)
theorem over : Rows.contactUpdateIdempotentRow.holds Tryz.pinned (OpenSpec.ofChange Rows.contactUpdateIdempotentSpec) :=
  OpenClaim.holds_of_wide 14 Tryz.f14 rfl rfl rfl rfl rfl rfl rfl ⟨rfl, rfl, rfl, rfl, rfl⟩ rfl rfl rfl rfl rfl (by kernel_rfl) Tryz.func14 closed
    (of_decide_eq_true (by kernel_rfl)) (by unfold Func.isWrapper; first | (rw [if_pos (by decide +kernel)]; kernel_rfl) | (rw [if_neg (by decide +kernel)]; exact ⟨rfl, rfl⟩))
    (fun os started H enc _ => lifted os started H enc)
end Go.Proofs.YtplmagdbnbijlaaGreat.RContactUpdateIdempotent
namespace Go.Proofs.YtplmagdbnbijlaaGreat
theorem contactUpdateIdempotent_holds : Rows.ContactUpdateIdempotentSaid := RContactUpdateIdempotent.over
end Go.Proofs.YtplmagdbnbijlaaGreat
