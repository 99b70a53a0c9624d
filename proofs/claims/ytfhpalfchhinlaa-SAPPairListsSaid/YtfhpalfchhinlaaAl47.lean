/-
  The abstract logic: an element of the tail of an own row, and the tail's length. Conditions: none.
-/
import Derived.Test.YtfhpalfchhinlaaAl32
set_option linter.all false
namespace Go.AL
open Go.RowKit

section
variable {P : Program} {T : Nat → AV} {H : Nat → Option ABox} {nx : Nat} {K : Res → Prop}
theorem aext_index_rs {t e e' n by_ b ver i0 : Nat} {ag : Bool} {x y : Operand} {es : List AV} {k : IntKind} {j : Int} (he : elI P t = some (e', n, by_, ag)) (hc : (evO T x).cond = true) (hc' : (evO T y).cond = true) (hx : ev T x = .rs b ver n i0)
    (hb : H b = some (.row e n ver es)) (hy : ev T y = .sc (.int k j)) (h0 : 0 ≤ j ∧ (i0 : Int) + j < es.length) (hK : K ⟨.rp b ver n (i0 + j.toNat) 0, [], 0, [b]⟩) : aext P (.indexAddr t x y) T H nx K := by
  refine ⟨_, hK, fun C o hP h => opS_pure fun T' H' D g a w hr hT hH => ?_⟩
  subst hP
  have r1 := one_rep hr (hT x (by simp [h, Op.operands])) hc
  have r2 := one_rep hr (hT y (by simp [h, Op.operands])) hc'
  rw [hx] at r1; rw [hy] at r2
  obtain ⟨blk, m, c, off, mm, hv, hg, ho⟩ := r1.rs_inv
  have hv2 := r2.sc_inv
  obtain ⟨blk', cap, cur, g1, _⟩ := row_open (hr.bx b _ ((hH b (by simp)).trans hb)) (by omega)
  rw [hg] at g1
  injection g1 with g1
  injection g1 with e1 e2 e3
  injection e1 with e1
  injection e1 with e1
  subst e1; subst e2; subst e3
  have ho' := ho (by omega)
  subst ho'
  obtain ⟨inf, k1, k2, k3, k4, k5, k6, k7⟩ := elI_some he
  refine ⟨.pointer (some ⟨blk, (i0 + j.toNat) * n + 0, none⟩), ?_, .rp b ver n (i0 + j.toNat) 0 blk _ _ hg⟩
  unfold execOp
  simp only [h, hv, hv2, Instr.indexAt, asIntOf, Sem.run_bind, Sem.run_pure, Result.andThen_ok, run_underlying k1]
  rw [if_pos ⟨h0.1, by omega⟩]
  simp only [Sem.run_bind, run_sizeOf' k2, Result.andThen_ok, Sem.run_pure, k3, add_addr, Nat.zero_add, Nat.add_zero, Nat.add_mul]
theorem aext_len_rs {t e e' n by_ b ver i0 : Nat} {ag : Bool} {x : Operand} {es : List AV} (he : elI P t = some (e', n, by_, ag)) (hc : (evO T x).cond = true) (hx : ev T x = .rs b ver n i0) (hb : H b = some (.row e n ver es)) (hpos : 0 < es.length)
    (hK : K ⟨.sc (.int .i64 ((es.length - i0 : Nat) : Int)), [], 0, [b]⟩) : aext P (.call { callee := .builtin .len, args := #[x], argTypes := #[t] }) T H nx K := by
  refine ⟨_, hK, fun C o hP h => opS_pure fun T' H' D g a w hr hT hH => ⟨.int .i64 ((es.length - i0 : Nat) : Int), ?_, .sc _⟩⟩
  subst hP
  have r1 := one_rep hr (hT x (by simp [h, Op.operands, Call.operands])) hc
  rw [hx] at r1
  obtain ⟨blk, m, c, off, mm, hv, hg, ho⟩ := r1.rs_inv
  obtain ⟨blk', cap, cur, g1, _⟩ := row_open (hr.bx b _ ((hH b (by simp)).trans hb)) hpos
  rw [hg] at g1
  injection g1 with g1
  injection g1 with e1 e2 e3
  subst e2
  obtain ⟨inf, k1, k2, k3, k4, k5, k6, k7⟩ := elI_some he
  have hu : C.P.underlying t = some (.slice (C.P.elem t)) := by rw [k1]; simp [Program.elem, k1]
  generalize a.eval = ev0 at hv ⊢
  unfold execOp
  simp [h, hv, go_sem, run_len_slice (h := hu), goInt]
end
end Go.AL
