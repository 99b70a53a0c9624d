/-
  The abstract logic: an element of an array behind a pointer to content. Conditions: none.
-/
import Derived.Test.YtfhpalfchhinlaaAlC
set_option linter.all false
namespace Go.AL
open Go.RowKit

theorem aext_ixcp {P : Program} {T : Nat → AV} {H : Nat → Option ABox} {nx : Nat} {K : Res → Prop} {t m n : Nat} {ag : Bool} {x y : Operand} {cs cs' : List AV} {k : IntKind} {i : Int} (hc : (evO T x).cond = true) (hc' : (evO T y).cond = true) (hx : ev T x = .cp cs) (hy : ev T y = .sc (.int k i))
    (he : arI P t = some (m, n, ag)) (h0 : 0 ≤ i) (hi : i < m) (hr : cs.drop (i.toNat * n) = cs') (hK : K ⟨.cp cs', [], 0, []⟩) : aext P (.indexAddr t x y) T H nx K := by
  subst hr
  refine ⟨_, hK, fun C o hP h => opS_pure fun T' H' D g a w hr hT hH => ?_⟩
  subst hP
  have r1 := one_rep hr (hT x (by simp [h, Op.operands])) hc
  have r2 := one_rep hr (hT y (by simp [h, Op.operands])) hc'
  rw [hx] at r1; rw [hy] at r2
  obtain ⟨blk, off, f', hv, hO, hlt, h1, h2⟩ := r1.cp_inv
  have hv2 := r2.sc_inv
  obtain ⟨e, k1, k2, k3, k4⟩ := arI_some he
  obtain ⟨inf, d, k5, k6, k7, k8⟩ := tyI_some k2
  refine ⟨_, ?_, .cp _ blk (off + i.toNat * n) (fun j => f' (i.toNat * n + j)) hO hlt (fun j hj => ?_) (fun j hj => ?_)⟩
  · unfold execOp
    simp only [h, hv, hv2, Instr.indexAt, asIntOf, Instr.sureAddr, Sem.run_bind, Sem.run_pure, Result.andThen_ok, run_underlying k1]
    rw [if_pos ⟨h0, hi⟩]
    simp only [Sem.run_bind, run_sizeOf' k5, Result.andThen_ok, Sem.run_pure, k7, add_addr]
  · rw [Nat.add_assoc]; exact h1 _ (by simp at hj; omega)
  · have := h2 (i.toNat * n + j) (by simp at hj; omega)
    rwa [List.getD_eq_getElem?_getD, List.getElem?_drop, ← List.getD_eq_getElem?_getD]
end Go.AL
