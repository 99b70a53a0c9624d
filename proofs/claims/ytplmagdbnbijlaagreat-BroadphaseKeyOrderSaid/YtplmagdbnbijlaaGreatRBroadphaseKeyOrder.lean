/-
  Whatever the input, the law BroadphaseKeyOrder answers true, and the input reads as it did. Conditions: none.
-/
import Derived.Test.YtplmagdbnbijlaaGreatC115
import Derived.Test.YtplmagdbnbijlaaGreatMA
import Derived.Test.YtplmagdbnbijlaaGreatPF
set_option linter.all false
namespace Go.Proofs.YtplmagdbnbijlaaGreat.RBroadphaseKeyOrder
open Go.ChangeShapes Go.WideShapes Go.ChangeAt Go.RowKit Go.AL Go.Carom
def shapes : List (Bool × List Sh) := [(false, [.sl true [.int .i64, .int .i64, .int .i64, .int .i64]]), (true, [.int .i64, .int .i64, .int .i64, .int .i64]), (true, [.int .i64, .int .i64, .int .i64, .int .i64])]
theorem shapes_are : shA Tryz.prog Tryz.f5.params.toList = some shapes := by kernel_rfl
theorem yes : Yes Rows.broadphaseKeyOrderSpec Tryz.f5.params.toList.length := by
  rw [show Tryz.f5.params.toList.length = 3 by kernel_rfl]
  refine ⟨rfl, fun H ds h => ?_⟩
  match ds, h with
  | [a, b, c], _ => exact ⟨rfl, rfl, rfl⟩
theorem law (av : List AV) (h : InA shapes av) : PCall Tryz.prog 5 av (.b true) := by
  obtain ⟨cs0, av0, h0, rfl, g0⟩ := inA_cons.1 h
  obtain ⟨cs1, av1, h1, rfl, g1⟩ := inA_cons.1 g0
  obtain ⟨cs2, av2, h2, rfl, g2⟩ := inA_cons.1 g1
  obtain rfl := inA_nil.1 g2
  obtain ⟨c0, e0, h0⟩ := in_one h0
  obtain ⟨l0, rfl, hl0, q0⟩ := in_k4s h0
  rw [e0]
  obtain ⟨k1, rfl, q1⟩ := in_k4 h1
  obtain ⟨k2, rfl, q2⟩ := in_k4 h2
  exact l_bpk l0 hl0 k1 k2
set_option maxRecDepth 100000 in
theorem lifted (os : Os) (started : os.Started) (H : Type) (enc : TypeId × Value → H) :
    ReturnsInHanded {} Tryz.checked os 5 .any (Rows.broadphaseKeyOrderSpec.pre6 enc Tryz.prog Tryz.f5 Rows.broadphaseKeyOrderRow.domain false) (Rows.broadphaseKeyOrderSpec.post enc Tryz.prog Tryz.f5 false true false false) :=
  row_lifted (C := Tryz.checked) (tb := 4) pfOwn started pfLaid (by kernel_rfl) Tryz.func5 (by kernel_rfl) (by kernel_rfl) shapes_are yes
    (ChangeSpec.witness6 (enc := enc) (C := Tryz.checked) false ⟨#[], #[.slice none 0 0, .agg #[.int .i64 0, .int .i64 0, .int .i64 0, .int .i64 0], .agg #[.int .i64 0, .int .i64 0, .int .i64 0, .int .i64 0]], []⟩ 8 (by kernel_rfl) (by kernel_rfl) (by kernel_rfl) (by kernel_rfl)) law
set_option maxRecDepth 100000
theorem am {a b : Bool} (h : a = true) (h' : b = true) : (a && b) = true := by rw [h, h']; rfl
theorem j0 : Rows.broadphaseKeyOrderRow.wf (OpenSpec.ofChange Rows.broadphaseKeyOrderSpec) = true := by kernel_rfl
theorem j1 : laidOutB Tryz.prog = true := pfLaid
theorem j2 : mapsRowed Tryz.prog = true := pfMaps
theorem j3 : Tryz.f5.params.all (Tryz.prog.readableRec ·) = true := by kernel_rfl
theorem j4 : namedTie Tryz.prog Rows.broadphaseKeyOrderRow.named Rows.broadphaseKeyOrderSpec.vars = true := by kernel_rfl
theorem j5 : (Rows.broadphaseKeyOrderRow.stops == []) = true := by kernel_rfl
theorem j6 : (Tryz.prog.stops == []) = true := pfStops
theorem j7 : (Rows.broadphaseKeyOrderRow.knobs == []) = true := by kernel_rfl
theorem j8 : (Tryz.prog.stopKnobs == []) = true := pfKnobs
theorem j9 : (Rows.broadphaseKeyOrderRow.inPlace == Tryz.prog.inPlace 5) = true := by kernel_rfl
theorem j10 : (Rows.broadphaseKeyOrderRow.unfollowed == Tryz.prog.unfollowed 5) = true := by kernel_rfl
theorem j11 : (Rows.broadphaseKeyOrderRow.recurses == Tryz.prog.recurses 5) = true := by kernel_rfl
theorem j12 : (Rows.broadphaseKeyOrderRow.named == Tryz.prog.varsNamed 5) = true := by kernel_rfl
theorem j13 : (Rows.broadphaseKeyOrderRow.maps == (Tryz.f5.params.toList ++ Rows.broadphaseKeyOrderSpec.plain.varTypes Tryz.prog).any (Tryz.prog.mapsRec ·)) = true := by kernel_rfl
theorem j14 : (Rows.broadphaseKeyOrderRow.ifaces == (Tryz.f5.params.toList ++ Rows.broadphaseKeyOrderSpec.plain.varTypes Tryz.prog).any (Tryz.prog.ifacesRec ·)) = true := by kernel_rfl
theorem j15 : (Rows.broadphaseKeyOrderRow.mapsOut == Tryz.prog.mapsAmong Tryz.f5.resultTypes.toList) = true := by kernel_rfl
theorem j16 : (Rows.broadphaseKeyOrderRow.loops == (Tryz.f5.params.toList ++ Rows.broadphaseKeyOrderSpec.plain.varTypes Tryz.prog).any (Tryz.prog.loopsFrom ·)) = true := by kernel_rfl
theorem j17 : (Rows.broadphaseKeyOrderRow.wideKeys == (Tryz.f5.params.toList ++ Rows.broadphaseKeyOrderSpec.plain.varTypes Tryz.prog ++ Tryz.f5.resultTypes.toList).any (Tryz.prog.wideKeysFrom ·)) = true := by kernel_rfl
theorem j18 : Rows.broadphaseKeyOrderSpec.vars.all (Tryz.prog.varReadable ·) = true := by kernel_rfl
theorem j19 : Tryz.f5.resultTypes.all (fun t => Tryz.prog.readableRec t && decide (t < Tryz.prog.types.size)) = true := by kernel_rfl
theorem j20 : (Rows.broadphaseKeyOrderRow.ifacesOut == Tryz.f5.resultTypes.toList.any (Tryz.prog.ifacesRec ·)) = true := by kernel_rfl
theorem j21 : (Rows.broadphaseKeyOrderRow.loopsOut == Tryz.f5.resultTypes.toList.any (Tryz.prog.loopsFrom ·)) = true := by kernel_rfl
theorem j22 : (Rows.broadphaseKeyOrderRow.plainKeys == Tryz.prog.plainKeys) = true := by kernel_rfl
theorem j23 : Rows.broadphaseKeyOrderRow.shortTexts.isNone = true := by kernel_rfl
theorem j24 : Tryz.prog.stopsHeard = true := pfHeard
theorem j25 : Tryz.prog.mayEnter = true := pfMay
theorem j26 : (Rows.broadphaseKeyOrderRow.lifted == Tryz.prog.liftsFinal) = true := by rw [headIs.final]; kernel_rfl
theorem j27 : (Tryz.prog.make == some Rows.broadphaseKeyOrderRow.make) = true := by rw [pfMade]; kernel_rfl
theorem j28 : (Rows.broadphaseKeyOrderRow.kinds == (if Rows.broadphaseKeyOrderRow.domain.isEmpty then [] else Tryz.f5.params.toList.map fun t => match Tryz.prog.underlying t with | some (.int k) => some k | _ => none)) = true := by kernel_rfl
theorem j29 : (Rows.broadphaseKeyOrderRow.pinned == Rows.broadphaseKeyOrderRow.pinnedBy) = true := by kernel_rfl
theorem j30 : (Rows.broadphaseKeyOrderRow.veiled == (Tryz.f5.params.toList ++ Rows.broadphaseKeyOrderSpec.plain.varTypes Tryz.prog ++ Tryz.f5.resultTypes.toList).any (Tryz.prog.veiledRec ·)) = true := by kernel_rfl
theorem j31 : Rows.broadphaseKeyOrderRow.veiledFits Tryz.prog Tryz.f5.params.toList (Tryz.f5.params.toList ++ Rows.broadphaseKeyOrderSpec.plain.varTypes Tryz.prog ++ Tryz.f5.resultTypes.toList) = true := by kernel_rfl
theorem closed : joinedFacts Tryz.prog 5 Tryz.f5 Rows.broadphaseKeyOrderSpec Rows.broadphaseKeyOrderRow = true := (am (am (am (am (am (am (am (am (am (am (am (am (am (am (am (am (am (am (am (am (am (am (am (am (am (am (am (am (am (am (am j0 j1) j2) j3) j4) j5) j6) j7) j8) j9) j10) j11) j12) j13) j14) j15) j16) j17) j18) j19) j20) j21) j22) j23) j24) j25) j26) j27) j28) j29) j30) j31)
theorem over : Rows.broadphaseKeyOrderRow.holds Tryz.pinned (OpenSpec.ofChange Rows.broadphaseKeyOrderSpec) :=
  OpenClaim.holds_of_wide 5 Tryz.f5 rfl rfl rfl rfl rfl rfl rfl ⟨rfl, rfl, rfl, rfl, rfl⟩ rfl rfl rfl rfl rfl (by kernel_rfl) Tryz.func5 closed
    (of_decide_eq_true (by kernel_rfl)) (by unfold Func.isWrapper; first | (rw [if_pos (by decide +kernel)]; kernel_rfl) | (rw [if_neg (by decide +kernel)]; exact ⟨rfl, rfl⟩))
    (fun os started H enc _ => lifted os started H enc)
end Go.Proofs.YtplmagdbnbijlaaGreat.RBroadphaseKeyOrder
namespace Go.Proofs.YtplmagdbnbijlaaGreat
theorem broadphaseKeyOrder_holds : Rows.BroadphaseKeyOrderSaid := RBroadphaseKeyOrder.over
end Go.Proofs.YtplmagdbnbijlaaGreat
