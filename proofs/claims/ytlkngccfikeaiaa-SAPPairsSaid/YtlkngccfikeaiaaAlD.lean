/-
  The abstract logic: a callee that is walked in its place and leaves its caller's boxes as they were: only the new boxes count as written. Conditions: the program follows the mixed orders.
-/
import Derived.Test.YtlkngccfikeaiaaAlC
import Derived.Test.YtlkngccfikeaiaaAlB
import Derived.Test.YtlkngccfikeaiaaAlA
import Derived.ChangeKeysEq
set_option linter.all false
namespace Go.AL
open Go.RowKit
theorem updL_self {Hl : HH} {H' : Nat → Option ABox} (hk0 : keysOk Hl = true) (h : ∀ b ∈ Hl.map (·.1), H' b = hk Hl b) : updL H' Hl = H' := by
  funext b
  by_cases hb : b ∈ Hl.map (·.1)
  · rw [updL_hk Hl H' b hk0 hb, h b hb]
  · exact updL_other Hl H' b hb
end Go.AL
/-
  The abstract logic: a choice whose condition is known. Conditions: none.
-/
namespace Go.AL
open Go.RowKit
section
open Go Go.RowKit
theorem aext_pickf {P : Program} {T : Nat → AV} {H : Nat → Option ABox} {nx : Nat} {K : Res → Prop} {c x y : Operand} {p : Bool} (h1 : (evO T c).cond = true) (h2 : (evO T c).get = .sc (.bool false)) (h3 : (evO T y).cond = true) (h4 : (evO T y).get = .sc (.bool p))
    (hk : K ⟨.sc (.bool p), [], 0, []⟩) : aext P (.pick c x y) T H nx K := by
  refine ⟨_, hk, fun C o _ ho => opS_pure fun T' H' D g a w hr hT _ => ?_⟩
  have e1 : evO T' c = evO T c := hT c (by simp [ho, Op.operands])
  have e2 : evO T' y = evO T y := hT y (by simp [ho, Op.operands])
  have r1 := hr.evO c
  have r2 := hr.evO y
  rw [e1] at r1; rw [e2] at r2
  have r1' := r1.get h1
  rw [h2] at r1'
  have hcv : a.eval c = .bool false := r1'.sc_inv
  have r2' := r2.get h3
  rw [h4] at r2'
  refine ⟨a.eval y, ?_, ?_⟩
  · unfold execOp; simp only [ho, hcv]; rfl
  · simpa using r2'
theorem gcst_deadb {P : Program} {H : Nat → Option ABox} {nx : Nat} {f : AV} {as : List AV} {K : Res → Prop} (h : K ⟨.gd false (.b true), [], 0, []⟩) : gcst false P H nx f as K :=
  .inr (.inr ⟨.b true, [], (fun h => by cases h), h⟩)
end
end Go.AL
/-
  The abstract logic: the tail of a row of one's own, cleared; the head of a row of one's own. Conditions: none.
-/
namespace Go.AL
open Go Go.RowKit
section
variable {C : Cx} {o : Oper} {T : Nat → AV} {H : Nat → Option ABox} {nx : Nat}
theorem run_bound {P : Program} {w : World} {k : IntKind} {i : Int} {y : Nat} (code : BoundsCode) (h0 : 0 ≤ i) (h1 : i ≤ y) : (Instr.sliceBound (.int k i) y code).run P w = .ok i.toNat w := by
  simp only [Instr.sliceBound, asIntOf, Sem.run_bind, Sem.run_pure, Result.andThen_ok]
  rw [if_pos ⟨h0, h1⟩]; rfl
end
section
variable {P : Program} {T : Nat → AV} {H : Nat → Option ABox} {nx : Nat} {K : Res → Prop} {t e z by_ b ver : Nat} {ag : Bool}
end
end Go.AL
/-
  The abstract logic: '==' of arrays of two integers. Conditions: none.
-/
namespace Go.AL
open Go Go.RowKit
theorem eqt_arr2 {P : Program} {t e : TypeId} {k : IntKind} (ht : P.underlying t = some (.array 2 e)) (he : P.underlying e = some (.int k)) (hi : (P.info? e).isSome = true) (hs : P.cellsOf e = 1) (hty : tyI P e = some (1, false)) (hg : P.eqGuardType P.depth t = false) :
    EqT P t [some k, some k] := by
  obtain ⟨i, hi⟩ := Option.isSome_iff_exists.1 hi
  refine ⟨hg, fun w xs ys hx hy => ?_⟩
  have hxl := congrArg List.length hx
  have hyl := congrArg List.length hy
  simp only [List.length_map, Array.length_toList, List.length_cons, List.length_nil] at hxl hyl
  obtain ⟨⟨x⟩, rfl⟩ : ∃ a, xs = a := ⟨_, rfl⟩
  obtain ⟨⟨y⟩, rfl⟩ : ∃ a, ys = a := ⟨_, rfl⟩
  match x, y, hxl, hyl, hx, hy with
  | [a, b], [c, d], _, _, hx, hy =>
    simp only [List.map_cons, List.map_nil, List.cons.injEq] at hx hy
    obtain ⟨a, rfl⟩ := kind_int hx.1
    obtain ⟨b, rfl⟩ := kind_int hx.2.1
    obtain ⟨c, rfl⟩ := kind_int hy.1
    obtain ⟨d, rfl⟩ := kind_int hy.2.1
    have p0 : ∀ u v : Value, (part e ⟨[u, v]⟩ 0).run P w = .ok u w := fun u v => run_part hty (fun _ => rfl) w ⟨[u, v]⟩ (off := 0) (by simp)
    have p1 : ∀ u v : Value, (part e ⟨[u, v]⟩ 1).run P w = .ok v w := fun u v => run_part hty (fun _ => rfl) w ⟨[u, v]⟩ (off := 1) (by simp)
    have hq := fun (m n : Int) => run_equalIn_int (P := P) w 9998 e k k m n he
    rw [run_equalIn_array w 9999 _ _ ht hi, hs]
    show (Op.eqItems 9999 e 1 _ _ [0, 1]).run P w = _
    simp only [Op.eqItems, Nat.zero_mul, Nat.one_mul, Sem.run_bind, p0, p1, Result.andThen_ok, Bool.false_eq_true, if_false]
    simp [hq, veqs, veq]
    by_cases h1 : a = c <;> by_cases h2 : b = d <;> simp [h1, h2, hq, p0, p1]
end Go.AL
