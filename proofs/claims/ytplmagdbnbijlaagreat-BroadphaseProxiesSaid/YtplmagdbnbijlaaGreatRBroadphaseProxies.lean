/-
  Whatever the input, the law BroadphaseProxies answers true, and the input reads as it did. Conditions: none.
-/
import Derived.Test.YtplmagdbnbijlaaGreatC116
import Derived.Test.YtplmagdbnbijlaaGreatMA
import Derived.Test.YtplmagdbnbijlaaGreatPF
set_option linter.all false
namespace Go.Proofs.YtplmagdbnbijlaaGreat.RBroadphaseProxies
open Go.ChangeShapes Go.WideShapes Go.ChangeAt Go.RowKit Go.AL Go.Carom
def shapes : List (Bool × List Sh) := [(false, [.sl true [.int .i64, .int .i64, .int .i64, .int .i64, .int .i64, .int .i64, .int .i64, .int .i64, .int .i64, .int .i64, .int .i64, .int .i64, .int .i64, .int .i64, .bool, .bool, .bool, .bool, .int .i64, .sl true [.int .i64, .int .i64, .sl true [.int .i64, .int .i64], .int .i64, .int .i64, .int .i64, .bool, .int .i64, .int .i64, .int .i64]]])]
theorem shapes_are : shA Tryz.prog Tryz.f8.params.toList = some shapes := by kernel_rfl
theorem yes : Yes Rows.broadphaseProxiesSpec Tryz.f8.params.toList.length := by
  rw [show Tryz.f8.params.toList.length = 1 by kernel_rfl]
  refine ⟨rfl, fun H ds h => ?_⟩
  match ds, h with
  | [a], _ => exact ⟨rfl, rfl, rfl⟩
theorem law (av : List AV) (h : InA shapes av) : PCall Tryz.prog 8 av (.b true) := by
  obtain ⟨cs0, av0, h0, rfl, g0⟩ := inA_cons.1 h
  obtain rfl := inA_nil.1 g0
  obtain ⟨c0, e0, h0⟩ := in_one h0
  obtain ⟨l0, rfl, hl0, q0⟩ := in_bds h0
  rw [e0]
  exact l_bpp l0 hl0
set_option maxRecDepth 100000 in
theorem lifted (os : Os) (started : os.Started) (H : Type) (enc : TypeId × Value → H) :
    ReturnsInHanded {} Tryz.checked os 8 .any (Rows.broadphaseProxiesSpec.pre6 enc Tryz.prog Tryz.f8 Rows.broadphaseProxiesRow.domain false) (Rows.broadphaseProxiesSpec.post enc Tryz.prog Tryz.f8 false true false false) :=
  row_lifted (C := Tryz.checked) (tb := 4) pfOwn started pfLaid (by kernel_rfl) Tryz.func8 (by kernel_rfl) (by kernel_rfl) shapes_are yes
    (ChangeSpec.witness6 (enc := enc) (C := Tryz.checked) false ⟨#[], #[.slice none 0 0], []⟩ 8 (by kernel_rfl) (by kernel_rfl) (by kernel_rfl) (by kernel_rfl)) law
set_option maxRecDepth 100000
theorem am {a b : Bool} (h : a = true) (h' : b = true) : (a && b) = true := by rw [h, h']; rfl
theorem j0 : Rows.broadphaseProxiesRow.wf (OpenSpec.ofChange Rows.broadphaseProxiesSpec) = true := by kernel_rfl
theorem j1 : laidOutB Tryz.prog = true := pfLaid
theorem j2 : mapsRowed Tryz.prog = true := pfMaps
theorem j3 : Tryz.f8.params.all (Tryz.prog.readableRec ·) = true := by kernel_rfl
theorem j4 : namedTie Tryz.prog Rows.broadphaseProxiesRow.named Rows.broadphaseProxiesSpec.vars = true := by kernel_rfl
theorem j5 : (Rows.broadphaseProxiesRow.stops == []) = true := by kernel_rfl
theorem j6 : (Tryz.prog.stops == []) = true := pfStops
theorem j7 : (Rows.broadphaseProxiesRow.knobs == []) = true := by kernel_rfl
theorem j8 : (Tryz.prog.stopKnobs == []) = true := pfKnobs
theorem j9 : (Rows.broadphaseProxiesRow.inPlace == Tryz.prog.inPlace 8) = true := by kernel_rfl
theorem j10 : (Rows.broadphaseProxiesRow.unfollowed == Tryz.prog.unfollowed 8) = true := by kernel_rfl
theorem j11 : (Rows.broadphaseProxiesRow.recurses == Tryz.prog.recurses 8) = true := by kernel_rfl
theorem j12 : (Rows.broadphaseProxiesRow.named == Tryz.prog.varsNamed 8) = true := by kernel_rfl
theorem j13 : (Rows.broadphaseProxiesRow.maps == (Tryz.f8.params.toList ++ Rows.broadphaseProxiesSpec.plain.varTypes Tryz.prog).any (Tryz.prog.mapsRec ·)) = true := by kernel_rfl
theorem j14 : (Rows.broadphaseProxiesRow.ifaces == (Tryz.f8.params.toList ++ Rows.broadphaseProxiesSpec.plain.varTypes Tryz.prog).any (Tryz.prog.ifacesRec ·)) = true := by kernel_rfl
theorem j15 : (Rows.broadphaseProxiesRow.mapsOut == Tryz.prog.mapsAmong Tryz.f8.resultTypes.toList) = true := by kernel_rfl
theorem j16 : (Rows.broadphaseProxiesRow.loops == (Tryz.f8.params.toList ++ Rows.broadphaseProxiesSpec.plain.varTypes Tryz.prog).any (Tryz.prog.loopsFrom ·)) = true := by kernel_rfl
theorem j17 : (Rows.broadphaseProxiesRow.wideKeys == (Tryz.f8.params.toList ++ Rows.broadphaseProxiesSpec.plain.varTypes Tryz.prog ++ Tryz.f8.resultTypes.toList).any (Tryz.prog.wideKeysFrom ·)) = true := by kernel_rfl
theorem j18 : Rows.broadphaseProxiesSpec.vars.all (Tryz.prog.varReadable ·) = true := by kernel_rfl
theorem j19 : Tryz.f8.resultTypes.all (fun t => Tryz.prog.readableRec t && decide (t < Tryz.prog.types.size)) = true := by kernel_rfl
theorem j20 : (Rows.broadphaseProxiesRow.ifacesOut == Tryz.f8.resultTypes.toList.any (Tryz.prog.ifacesRec ·)) = true := by kernel_rfl
theorem j21 : (Rows.broadphaseProxiesRow.loopsOut == Tryz.f8.resultTypes.toList.any (Tryz.prog.loopsFrom ·)) = true := by kernel_rfl
theorem j22 : (Rows.broadphaseProxiesRow.plainKeys == Tryz.prog.plainKeys) = true := by kernel_rfl
theorem j23 : Rows.broadphaseProxiesRow.shortTexts.isNone = true := by kernel_rfl
theorem j24 : Tryz.prog.stopsHeard = true := pfHeard
theorem j25 : Tryz.prog.mayEnter = true := pfMay
theorem j26 : (Rows.broadphaseProxiesRow.lifted == Tryz.prog.liftsFinal) = true := by rw [headIs.final]; kernel_rfl
theorem j27 : (Tryz.prog.make == some Rows.broadphaseProxiesRow.make) = true := by rw [pfMade]; kernel_rfl
theorem j28 : (Rows.broadphaseProxiesRow.kinds == (if Rows.broadphaseProxiesRow.domain.isEmpty then [] else Tryz.f8.params.toList.map fun t => match Tryz.prog.underlying t with | some (.int k) => some k | _ => none)) = true := by kernel_rfl
theorem j29 : (Rows.broadphaseProxiesRow.pinned == Rows.broadphaseProxiesRow.pinnedBy) = true := by kernel_rfl
theorem j30 : (Rows.broadphaseProxiesRow.veiled == (Tryz.f8.params.toList ++ Rows.broadphaseProxiesSpec.plain.varTypes Tryz.prog ++ Tryz.f8.resultTypes.toList).any (Tryz.prog.veiledRec ·)) = true := by kernel_rfl
theorem j31 : Rows.broadphaseProxiesRow.veiledFits Tryz.prog Tryz.f8.params.toList (Tryz.f8.params.toList ++ Rows.broadphaseProxiesSpec.plain.varTypes Tryz.prog ++ Tryz.f8.resultTypes.toList) = true := by kernel_rfl
theorem closed : joinedFacts Tryz.prog 8 Tryz.f8 Rows.broadphaseProxiesSpec Rows.broadphaseProxiesRow = true := (am (am (am (am (am (am (am (am (am (am (am (am (am (am (am (am (am (am (am (am (am (am (am (am (am (am (am (am (am (am (am j0 j1) j2) j3) j4) j5) j6) j7) j8) j9) j10) j11) j12) j13) j14) j15) j16) j17) j18) j19) j20) j21) j22) j23) j24) j25) j26) j27) j28) j29) j30) j31)
theorem over : Rows.broadphaseProxiesRow.holds Tryz.pinned (OpenSpec.ofChange Rows.broadphaseProxiesSpec) :=
  OpenClaim.holds_of_wide 8 Tryz.f8 rfl rfl rfl rfl rfl rfl rfl ⟨rfl, rfl, rfl, rfl, rfl⟩ rfl rfl rfl rfl rfl (by kernel_rfl) Tryz.func8 closed
    (of_decide_eq_true (by kernel_rfl)) (by unfold Func.isWrapper; first | (rw [if_pos (by decide +kernel)]; kernel_rfl) | (rw [if_neg (by decide +kernel)]; exact ⟨rfl, rfl⟩))
    (fun os started H enc _ => lifted os started H enc)
end Go.Proofs.YtplmagdbnbijlaaGreat.RBroadphaseProxies
namespace Go.Proofs.YtplmagdbnbijlaaGreat
theorem broadphaseProxies_holds : Rows.BroadphaseProxiesSaid := RBroadphaseProxies.over
end Go.Proofs.YtplmagdbnbijlaaGreat
