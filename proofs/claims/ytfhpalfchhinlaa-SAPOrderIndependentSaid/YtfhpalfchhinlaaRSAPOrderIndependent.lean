/-
  Whatever the input, the law SAPOrderIndependent answers true, and the input reads as it did. Conditions: none.
-/
import Derived.Test.YtfhpalfchhinlaaC100
import Derived.Test.YtfhpalfchhinlaaMA
import Derived.Test.YtfhpalfchhinlaaPF
set_option linter.all false
namespace Go.Proofs.Ytfhpalfchhinlaa.RSAPOrderIndependent
open Go.ChangeShapes Go.WideShapes Go.ChangeAt Go.RowKit Go.AL Go.Carom

def shapes : List (Bool × List Sh) := [(false, [.sl true [.int .i64, .int .i64, .int .i64, .int .i64, .int .i64]]), (false, [.int .u8])]
theorem shapes_are : shA Try.prog Try.f5.params.toList = some shapes := by kernel_rfl
theorem yes : Yes Rows.sAPOrderIndependentSpec Try.f5.params.toList.length := by
  rw [show Try.f5.params.toList.length = 2 by kernel_rfl]
  refine ⟨rfl, fun H ds h => ?_⟩
  match ds, h with
  | [a, b], _ => exact ⟨rfl, rfl, rfl⟩
theorem law (av : List AV) (h : InA shapes av) : PCall Try.prog 5 av (.b true) := by
  obtain ⟨cs0, av0, h0, rfl, g0⟩ := inA_cons.1 h
  obtain ⟨cs1, av1, h1, rfl, g1⟩ := inA_cons.1 g0
  obtain rfl := inA_nil.1 g1
  obtain ⟨c0, z0, rfl, h0, _⟩ := inL_cons.1 h0
  obtain ⟨l0, rfl, hl0, q0⟩ := in_ens h0
  obtain ⟨c1, z1, rfl, h1, _⟩ := inL_cons.1 h1
  obtain ⟨n1, rfl, r1⟩ := inC_int.1 h1
  obtain ⟨t1, et1, ht1⟩ : ∃ t : Nat, n1 = (t : Int) ∧ t < 256 := by
    have r' : IntKind.min .u8 ≤ n1 ∧ n1 ≤ IntKind.max .u8 := by
      simp only [Lit.wf, Bool.and_eq_true, decide_eq_true_eq] at r1; exact r1
    have e1 : IntKind.min .u8 = 0 := by kernel_rfl
    have e2 : IntKind.max .u8 = 255 := by kernel_rfl
    rw [e1, e2] at r'
    exact ⟨n1.toNat, by omega, by omega⟩
  subst et1
  exact l_ord l0 t1 ht1
set_option maxRecDepth 100000 in
theorem lifted (os : Os) (started : os.Started) (H : Type) (enc : TypeId × Value → H) :
    ReturnsInHanded {} Try.checked os 5 .any (Rows.sAPOrderIndependentSpec.pre6 enc Try.prog Try.f5 Rows.sAPOrderIndependentRow.domain false) (Rows.sAPOrderIndependentSpec.post enc Try.prog Try.f5 false true false false) :=
  row_lifted (C := Try.checked) (tb := 4) pfOwn started pfLaid (by kernel_rfl) Try.func5 (by kernel_rfl) (by kernel_rfl) shapes_are yes
    (ChangeSpec.witness6 (enc := enc) (C := Try.checked) false ⟨#[], #[.slice none 0 0, .int .u8 0], []⟩ 8 (by kernel_rfl) (by kernel_rfl) (by kernel_rfl) (by kernel_rfl)) law
set_option maxRecDepth 100000
theorem am {a b : Bool} (h : a = true) (h' : b = true) : (a && b) = true := by rw [h, h']; rfl
theorem j0 : Rows.sAPOrderIndependentRow.wf (OpenSpec.ofChange Rows.sAPOrderIndependentSpec) = true := by kernel_rfl
theorem j1 : laidOutB Try.prog = true := pfLaid
theorem j2 : mapsRowed Try.prog = true := pfMaps
theorem j3 : Try.f5.params.all (Try.prog.readableRec ·) = true := by kernel_rfl
theorem j4 : namedTie Try.prog Rows.sAPOrderIndependentRow.named Rows.sAPOrderIndependentSpec.vars = true := by kernel_rfl
theorem j5 : (Rows.sAPOrderIndependentRow.stops == []) = true := by kernel_rfl
theorem j6 : (Try.prog.stops == []) = true := pfStops
theorem j7 : (Rows.sAPOrderIndependentRow.knobs == []) = true := by kernel_rfl
theorem j8 : (Try.prog.stopKnobs == []) = true := pfKnobs
theorem j9 : (Rows.sAPOrderIndependentRow.inPlace == Try.prog.inPlace 5) = true := by kernel_rfl
theorem j10 : (Rows.sAPOrderIndependentRow.unfollowed == Try.prog.unfollowed 5) = true := by kernel_rfl
theorem j11 : (Rows.sAPOrderIndependentRow.recurses == Try.prog.recurses 5) = true := by kernel_rfl
theorem j12 : (Rows.sAPOrderIndependentRow.named == Try.prog.varsNamed 5) = true := by kernel_rfl
theorem j13 : (Rows.sAPOrderIndependentRow.maps == (Try.f5.params.toList ++ Rows.sAPOrderIndependentSpec.plain.varTypes Try.prog).any (Try.prog.mapsRec ·)) = true := by kernel_rfl
theorem j14 : (Rows.sAPOrderIndependentRow.ifaces == (Try.f5.params.toList ++ Rows.sAPOrderIndependentSpec.plain.varTypes Try.prog).any (Try.prog.ifacesRec ·)) = true := by kernel_rfl
theorem j15 : (Rows.sAPOrderIndependentRow.mapsOut == Try.prog.mapsAmong Try.f5.resultTypes.toList) = true := by kernel_rfl
theorem j16 : (Rows.sAPOrderIndependentRow.loops == (Try.f5.params.toList ++ Rows.sAPOrderIndependentSpec.plain.varTypes Try.prog).any (Try.prog.loopsFrom ·)) = true := by kernel_rfl
theorem j17 : (Rows.sAPOrderIndependentRow.wideKeys == (Try.f5.params.toList ++ Rows.sAPOrderIndependentSpec.plain.varTypes Try.prog ++ Try.f5.resultTypes.toList).any (Try.prog.wideKeysFrom ·)) = true := by kernel_rfl
theorem j18 : Rows.sAPOrderIndependentSpec.vars.all (Try.prog.varReadable ·) = true := by kernel_rfl
theorem j19 : Try.f5.resultTypes.all (fun t => Try.prog.readableRec t && decide (t < Try.prog.types.size)) = true := by kernel_rfl
theorem j20 : (Rows.sAPOrderIndependentRow.ifacesOut == Try.f5.resultTypes.toList.any (Try.prog.ifacesRec ·)) = true := by kernel_rfl
theorem j21 : (Rows.sAPOrderIndependentRow.loopsOut == Try.f5.resultTypes.toList.any (Try.prog.loopsFrom ·)) = true := by kernel_rfl
theorem j22 : (Rows.sAPOrderIndependentRow.plainKeys == Try.prog.plainKeys) = true := by kernel_rfl
theorem j23 : Rows.sAPOrderIndependentRow.shortTexts.isNone = true := by kernel_rfl
theorem j24 : Try.prog.stopsHeard = true := pfHeard
theorem j25 : Try.prog.mayEnter = true := pfMay
theorem j26 : (Rows.sAPOrderIndependentRow.lifted == Try.prog.liftsFinal) = true := by rw [headIs.final]; kernel_rfl
theorem j27 : (Try.prog.make == some Rows.sAPOrderIndependentRow.make) = true := by rw [pfMade]; kernel_rfl
theorem j28 : (Rows.sAPOrderIndependentRow.kinds == (if Rows.sAPOrderIndependentRow.domain.isEmpty then [] else Try.f5.params.toList.map fun t => match Try.prog.underlying t with | some (.int k) => some k | _ => none)) = true := by kernel_rfl
theorem j29 : (Rows.sAPOrderIndependentRow.pinned == Rows.sAPOrderIndependentRow.pinnedBy) = true := by kernel_rfl
theorem j30 : (Rows.sAPOrderIndependentRow.veiled == (Try.f5.params.toList ++ Rows.sAPOrderIndependentSpec.plain.varTypes Try.prog ++ Try.f5.resultTypes.toList).any (Try.prog.veiledRec ·)) = true := by kernel_rfl
theorem j31 : Rows.sAPOrderIndependentRow.veiledFits Try.prog Try.f5.params.toList (Try.f5.params.toList ++ Rows.sAPOrderIndependentSpec.plain.varTypes Try.prog ++ Try.f5.resultTypes.toList) = true := by kernel_rfl
theorem closed : joinedFacts Try.prog 5 Try.f5 Rows.sAPOrderIndependentSpec Rows.sAPOrderIndependentRow = true := (am (am (am (am (am (am (am (am (am (am (am (am (am (am (am (am (am (am (am (am (am (am (am (am (am (am (am (am (am (am (am j0 j1) j2) j3) j4) j5) j6) j7) j8) j9) j10) j11) j12) j13) j14) j15) j16) j17) j18) j19) j20) j21) j22) j23) j24) j25) j26) j27) j28) j29) j30) j31)
theorem over : Rows.sAPOrderIndependentRow.holds Try.pinned (OpenSpec.ofChange Rows.sAPOrderIndependentSpec) :=
  OpenClaim.holds_of_wide 5 Try.f5 rfl rfl rfl rfl rfl rfl rfl ⟨rfl, rfl, rfl, rfl, rfl⟩ rfl rfl rfl rfl rfl (by kernel_rfl) Try.func5 closed
    (of_decide_eq_true (by kernel_rfl)) (by unfold Func.isWrapper; first | (rw [if_pos (by decide +kernel)]; kernel_rfl) | (rw [if_neg (by decide +kernel)]; exact ⟨rfl, rfl⟩))
    (fun os started H enc _ => lifted os started H enc)
end Go.Proofs.Ytfhpalfchhinlaa.RSAPOrderIndependent
namespace Go.Proofs.Ytfhpalfchhinlaa
theorem sAPOrderIndependent_holds : Rows.SAPOrderIndependentSaid := RSAPOrderIndependent.over
end Go.Proofs.Ytfhpalfchhinlaa
