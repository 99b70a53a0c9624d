/-
  Chapter 38: the example; laws SensorOverlaps, SensorEvents. Conditions: none.
-/
import Derived.Test.YtplmagdbnbijlaaGreatC119
import Derived.Outline
import Derived.Test.YtplmagdbnbijlaaGreatC121
import Derived.Test.YtplmagdbnbijlaaGreatCW
import Derived.Test.YtplmagdbnbijlaaGreatMC
set_option linter.all false
namespace Go.Proofs.YtplmagdbnbijlaaGreat
open Go.RowKit Go.AL Go.Carom
def sw1 : Fx := ⟨3, 0, [(-65536, -65536), (65536, -65536), (65536, 65536), (-65536, 65536)], 0, 0, 0, true, 1, 1, 0⟩
def sw2 : Fx := ⟨1, 65536, [(0, 0)], 65536, 0, 0, false, 1, 1, 0⟩
def swB (i k : Int) (f : Fx) : Bd := ⟨i, k, 0, 0, 0, 0, 0, 0, 0, 0, 0, 0, 0, 0, false, false, false, false, 0, [f]⟩
def swW : Wd := ⟨1092, 0, 0, 8, 0, [swB 1 1 sw1, swB 2 3 sw2], [], [], [], 3, 0⟩
theorem swS : WS swW := by
  refine ⟨by decide, by decide, by decide, by decide, fun b hb => ?_, fun c hc => by cases hc⟩
  rcases List.mem_cons.1 hb with rfl | hb
  · exact ⟨by decide, fun f hf => by have := List.mem_singleton.1 hf; subst this; decide⟩
  · have := List.mem_singleton.1 hb
    subst this
    exact ⟨by decide, fun f hf => by have := List.mem_singleton.1 hf; subst this; decide⟩
theorem sw_ovs : ovs swW = [⟨1, 0, 2, 0⟩] := by kernel_rfl
theorem sw_e1 : sevs [] [⟨1, 0, 2, 0⟩] = [⟨3, 1, 0, 2, 0⟩] := by kernel_rfl
theorem sw_e2 : sevs [⟨1, 0, 2, 0⟩] [] = [⟨4, 1, 0, 2, 0⟩] := by kernel_rfl
theorem sw_o2 : ovw [⟨1, 0, 2, 0⟩] 2 1 = [1] := by kernel_rfl
theorem sw_o3 : ovw [⟨1, 0, 2, 0⟩] 3 1 = [] := by kernel_rfl
theorem ovs_len {w : Wd} (hs : WS w) : (ovs w).length ≤ 1000000 := by
  unfold ovs
  split
  · exact Nat.le_trans (List.length_filter_le _ _) (fpR_len (ws_fw hs) w.js)
  · simp
set_option maxRecDepth 20000 in
set_option maxHeartbeats 4000000 in
theorem c_sw  : PCall Tryz.prog 76 [] (.agg [.i 1092, .i 0, .i 0, .i 8, .i 0, .sl [.agg [.i 1, .i 1, .i 0, .i 0, .i 0, .i 0, .i 0, .i 0, .i 0, .i 0, .i 0, .i 0, .i 0, .i 0, .b false, .b false, .b false, .b false, .i 0, .sl [.agg [.i 3, .i 0, .sl [.agg [.i (-65536), .i (-65536)], .agg [.i 65536, .i (-65536)], .agg [.i 65536, .i 65536], .agg [.i (-65536), .i 65536]], .i 0, .i 0, .i 0, .b true, .i 1, .i 1, .i 0]]], .agg [.i 2, .i 3, .i 0, .i 0, .i 0, .i 0, .i 0, .i 0, .i 0, .i 0, .i 0, .i 0, .i 0, .i 0, .b false, .b false, .b false, .b false, .i 0, .sl [.agg [.i 1, .i 65536, .sl [.agg [.i 0, .i 0]], .i 65536, .i 0, .i 0, .b false, .i 1, .i 1, .i 0]]]], .sl [], .sl [], .sl [], .i 3, .i 0]) := by
  refine pcall_of hm Tryz.func76 rfl (by kernel_rfl) (by rw [Tryz.ntmps76]; exact Nat.le_of_ble_eq_true rfl) lt_nil (lt_agg (lt_cons (lt_i _ _) (lt_cons (lt_i _ _) (lt_cons (lt_i _ _) (lt_cons (lt_i _ _) (lt_cons (lt_i _ _) (lt_cons (.sl _ (lt_cons (lt_agg (lt_cons (lt_i _ _) (lt_cons (lt_i _ _) (lt_cons (lt_i _ _) (lt_cons (lt_i _ _) (lt_cons (lt_i _ _) (lt_cons (lt_i _ _) (lt_cons (lt_i _ _) (lt_cons (lt_i _ _) (lt_cons (lt_i _ _) (lt_cons (lt_i _ _) (lt_cons (lt_i _ _) (lt_cons (lt_i _ _) (lt_cons (lt_i _ _) (lt_cons (lt_i _ _) (lt_cons (lt_b _ _) (lt_cons (lt_b _ _) (lt_cons (lt_b _ _) (lt_cons (lt_b _ _) (lt_cons (lt_i _ _) (lt_cons (.sl _ (lt_cons (lt_agg (lt_cons (lt_i _ _) (lt_cons (lt_i _ _) (lt_cons (.sl _ (lt_cons (lt_agg (lt_cons (lt_i _ _) (lt_cons (lt_i _ _) lt_nil))) (lt_cons (lt_agg (lt_cons (lt_i _ _) (lt_cons (lt_i _ _) lt_nil))) (lt_cons (lt_agg (lt_cons (lt_i _ _) (lt_cons (lt_i _ _) lt_nil))) (lt_cons (lt_agg (lt_cons (lt_i _ _) (lt_cons (lt_i _ _) lt_nil))) lt_nil))))) (lt_cons (lt_i _ _) (lt_cons (lt_i _ _) (lt_cons (lt_i _ _) (lt_cons (lt_b _ _) (lt_cons (lt_i _ _) (lt_cons (lt_i _ _) (lt_cons (lt_i _ _) lt_nil))))))))))) lt_nil)) lt_nil))))))))))))))))))))) (lt_cons (lt_agg (lt_cons (lt_i _ _) (lt_cons (lt_i _ _) (lt_cons (lt_i _ _) (lt_cons (lt_i _ _) (lt_cons (lt_i _ _) (lt_cons (lt_i _ _) (lt_cons (lt_i _ _) (lt_cons (lt_i _ _) (lt_cons (lt_i _ _) (lt_cons (lt_i _ _) (lt_cons (lt_i _ _) (lt_cons (lt_i _ _) (lt_cons (lt_i _ _) (lt_cons (lt_i _ _) (lt_cons (lt_b _ _) (lt_cons (lt_b _ _) (lt_cons (lt_b _ _) (lt_cons (lt_b _ _) (lt_cons (lt_i _ _) (lt_cons (.sl _ (lt_cons (lt_agg (lt_cons (lt_i _ _) (lt_cons (lt_i _ _) (lt_cons (.sl _ (lt_cons (lt_agg (lt_cons (lt_i _ _) (lt_cons (lt_i _ _) lt_nil))) lt_nil)) (lt_cons (lt_i _ _) (lt_cons (lt_i _ _) (lt_cons (lt_i _ _) (lt_cons (lt_b _ _) (lt_cons (lt_i _ _) (lt_cons (lt_i _ _) (lt_cons (lt_i _ _) lt_nil))))))))))) lt_nil)) lt_nil))))))))))))))))))))) lt_nil))) (lt_cons (.sl _ lt_nil) (lt_cons (.sl _ lt_nil) (lt_cons (.sl _ lt_nil) (lt_cons (lt_i _ _) (lt_cons (lt_i _ _) lt_nil)))))))))))) ?_
  rw [Tryz.ntmps76, Tryz.results76]
  repeat' (first | simp only [go_sem, ↓reduceIte, Nat.reduceLT, Nat.reduceEqDiff, Nat.reduceAdd, Nat.reduceLeDiff, Nat.reduceMul, reduceCtorEq, Int.reduceNeg] | refine aext_litsl el_22 z_51 ?_ ?_)
  all_goals (try rfl)
  all_goals (try decide)
set_option maxRecDepth 20000 in
set_option maxHeartbeats 4000000 in
theorem c_ex38  : PCall Tryz.prog 34 [] (.b true) := by
  refine pcall_of hm Tryz.func34 rfl (by kernel_rfl) (by rw [Tryz.ntmps34]; exact Nat.le_of_ble_eq_true rfl) lt_nil (lt_b _ _) ?_
  rw [Tryz.ntmps34, Tryz.results34]
  have i1 : HasC Tryz.prog 76 [] (.agg [.i 1092, .i 0, .i 0, .i 8, .i 0, .sl [.agg [.i 1, .i 1, .i 0, .i 0, .i 0, .i 0, .i 0, .i 0, .i 0, .i 0, .i 0, .i 0, .i 0, .i 0, .b false, .b false, .b false, .b false, .i 0, .sl [.agg [.i 3, .i 0, .sl [.agg [.i (-65536), .i (-65536)], .agg [.i 65536, .i (-65536)], .agg [.i 65536, .i 65536], .agg [.i (-65536), .i 65536]], .i 0, .i 0, .i 0, .b true, .i 1, .i 1, .i 0]]], .agg [.i 2, .i 3, .i 0, .i 0, .i 0, .i 0, .i 0, .i 0, .i 0, .i 0, .i 0, .i 0, .i 0, .i 0, .b false, .b false, .b false, .b false, .i 0, .sl [.agg [.i 1, .i 65536, .sl [.agg [.i 0, .i 0]], .i 65536, .i 0, .i 0, .b false, .i 1, .i 1, .i 0]]]], .sl [], .sl [], .sl [], .i 3, .i 0]) := ⟨by have h := c_sw; exact h⟩
  have i2 : HasC Tryz.prog 36 [.agg [.i 1092, .i 0, .i 0, .i 8, .i 0, .sl [.agg [.i 1, .i 1, .i 0, .i 0, .i 0, .i 0, .i 0, .i 0, .i 0, .i 0, .i 0, .i 0, .i 0, .i 0, .b false, .b false, .b false, .b false, .i 0, .sl [.agg [.i 3, .i 0, .sl [.agg [.i (-65536), .i (-65536)], .agg [.i 65536, .i (-65536)], .agg [.i 65536, .i 65536], .agg [.i (-65536), .i 65536]], .i 0, .i 0, .i 0, .b true, .i 1, .i 1, .i 0]]], .agg [.i 2, .i 3, .i 0, .i 0, .i 0, .i 0, .i 0, .i 0, .i 0, .i 0, .i 0, .i 0, .i 0, .i 0, .b false, .b false, .b false, .b false, .i 0, .sl [.agg [.i 1, .i 65536, .sl [.agg [.i 0, .i 0]], .i 65536, .i 0, .i 0, .b false, .i 1, .i 1, .i 0]]]], .sl [], .sl [], .sl [], .i 3, .i 0]] (.sl [.agg [.i 1, .i 0, .i 2, .i 0]]) := ⟨by have h := c_sov swW swS; rw [sw_ovs] at h; exact h⟩
  have i3 : HasC Tryz.prog 35 [.sl [.agg [.i 1, .i 0, .i 2, .i 0]], .sl [.agg [.i 1, .i 0, .i 2, .i 0]]] (.b true) := ⟨by have h := c_eqk38 [(⟨1, 0, 2, 0⟩ : K4)] (by decide); exact h⟩
  have i4 : HasC Tryz.prog 44 [.sl [], .sl [.agg [.i 1, .i 0, .i 2, .i 0]]] (.sl [.agg [.i 3, .i 1, .i 0, .i 2, .i 0]]) := ⟨by have h := c_sevs [] (by decide) [(⟨1, 0, 2, 0⟩ : K4)] (by decide); rw [sw_e1] at h; exact h⟩
  have i5 : HasC Tryz.prog 44 [.sl [.agg [.i 1, .i 0, .i 2, .i 0]], .sl []] (.sl [.agg [.i 4, .i 1, .i 0, .i 2, .i 0]]) := ⟨by have h := c_sevs [(⟨1, 0, 2, 0⟩ : K4)] (by decide) [] (by decide); rw [sw_e2] at h; exact h⟩
  have i6 : HasC Tryz.prog 43 [.sl [.agg [.i 3, .i 1, .i 0, .i 2, .i 0]], .sl [.agg [.i 3, .i 1, .i 0, .i 2, .i 0]]] (.b true) := ⟨by have h := c_eqev1 [⟨3, 1, 0, 2, 0⟩] (by decide); exact h⟩
  have i7 : HasC Tryz.prog 43 [.sl [.agg [.i 4, .i 1, .i 0, .i 2, .i 0]], .sl [.agg [.i 4, .i 1, .i 0, .i 2, .i 0]]] (.b true) := ⟨by have h := c_eqev1 [⟨4, 1, 0, 2, 0⟩] (by decide); exact h⟩
  have i8 : HasC Tryz.prog 47 [.sl [.agg [.i 1, .i 0, .i 2, .i 0]], .i 2] (.sl [.i 1]) := ⟨by have h := c_sow [(⟨1, 0, 2, 0⟩ : K4)] (by decide) 2; rw [show ovw [(⟨1, 0, 2, 0⟩ : K4)] 2 ([(⟨1, 0, 2, 0⟩ : K4)]).length = [1] from sw_o2] at h; exact h⟩
  have i9 : HasC Tryz.prog 47 [.sl [.agg [.i 1, .i 0, .i 2, .i 0]], .i 3] (.sl []) := ⟨by have h := c_sow [(⟨1, 0, 2, 0⟩ : K4)] (by decide) 3; rw [show ovw [(⟨1, 0, 2, 0⟩ : K4)] 3 ([(⟨1, 0, 2, 0⟩ : K4)]).length = [] from sw_o3] at h; exact h⟩
  have i10 : HasC Tryz.prog 46 [.sl [.i 1], .sl [.i 1]] (.b true) := ⟨by have h := c_eqi1 [1] (by decide); exact h⟩
  repeat' (first | simp only [go_sem, ↓reduceIte, Nat.reduceLT, Nat.reduceEqDiff, Nat.reduceAdd, Nat.reduceLeDiff, Nat.reduceMul, reduceCtorEq, Int.reduceLE, Int.reduceNeg, Int.reduceToNat, nc0] | refine cst_go ?_ | refine gcst_go ?_ | (refine regOk_go ?_; kernel_rfl) | refine And.intro ?_ ?_)
  all_goals (try rfl)
  all_goals (try decide)
end Go.Proofs.YtplmagdbnbijlaaGreat
