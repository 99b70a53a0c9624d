/-
  The abstract logic: a callee that is walked in its place and leaves its caller's boxes as they were: only the new boxes count as written. Conditions: the program follows the mixed orders.
-/
import Derived.Test.YtplmagdbnbijlaaGreatAlC
import Derived.Test.YtplmagdbnbijlaaGreatAlB
import Derived.Test.YtplmagdbnbijlaaGreatAlA
import Derived.ChangeKeysEq
set_option linter.all false
namespace Go.AL
open Go.RowKit
end Go.AL
/-
  The abstract logic: a choice whose condition is known. Conditions: none.
-/
namespace Go.AL
open Go.RowKit
section
open Go Go.RowKit
theorem aext_pick {P : Program} {T : Nat → AV} {H : Nat → Option ABox} {nx : Nat} {K : Res → Prop} {c x y : Operand} {p : Bool} (h1 : (evO T c).cond = true) (h2 : (evO T c).get = .sc (.bool true)) (h3 : (evO T x).cond = true) (h4 : (evO T x).get = .sc (.bool p))
    (hk : K ⟨.sc (.bool p), [], 0, []⟩) : aext P (.pick c x y) T H nx K := by
  refine ⟨_, hk, fun C o _ ho => opS_pure fun T' H' D g a w hr hT _ => ?_⟩
  have e1 : evO T' c = evO T c := hT c (by simp [ho, Op.operands])
  have e2 : evO T' x = evO T x := hT x (by simp [ho, Op.operands])
  have r1 := hr.evO c
  have r2 := hr.evO x
  rw [e1] at r1; rw [e2] at r2
  have r1' := r1.get h1
  rw [h2] at r1'
  have hcv : a.eval c = .bool true := r1'.sc_inv
  have r2' := r2.get h3
  rw [h4] at r2'
  refine ⟨a.eval x, ?_, ?_⟩
  · unfold execOp; simp only [ho, hcv]; rfl
  · simpa using r2'
theorem aext_pickf {P : Program} {T : Nat → AV} {H : Nat → Option ABox} {nx : Nat} {K : Res → Prop} {c x y : Operand} {p : Bool} (h1 : (evO T c).cond = true) (h2 : (evO T c).get = .sc (.bool false)) (h3 : (evO T y).cond = true) (h4 : (evO T y).get = .sc (.bool p))
    (hk : K ⟨.sc (.bool p), [], 0, []⟩) : aext P (.pick c x y) T H nx K := by
  refine ⟨_, hk, fun C o _ ho => opS_pure fun T' H' D g a w hr hT _ => ?_⟩
  have e1 : evO T' c = evO T c := hT c (by simp [ho, Op.operands])
  have e2 : evO T' y = evO T y := hT y (by simp [ho, Op.operands])
  have r1 := hr.evO c
  have r2 := hr.evO y
  rw [e1] at r1; rw [e2] at r2
  have r1' := r1.get h1
  rw [h2] at r1'
  have hcv : a.eval c = .bool false := r1'.sc_inv
  have r2' := r2.get h3
  rw [h4] at r2'
  refine ⟨a.eval y, ?_, ?_⟩
  · unfold execOp; simp only [ho, hcv]; rfl
  · simpa using r2'
theorem gcst_deadb {P : Program} {H : Nat → Option ABox} {nx : Nat} {f : AV} {as : List AV} {K : Res → Prop} (h : K ⟨.gd false (.b true), [], 0, []⟩) : gcst false P H nx f as K :=
  .inr (.inr ⟨.b true, [], (fun h => by cases h), h⟩)
end
end Go.AL
/-
  The abstract logic: the tail of a row of one's own, cleared; the head of a row of one's own. Conditions: none.
-/
namespace Go.AL
open Go Go.RowKit
section
variable {C : Cx} {o : Oper} {T : Nat → AV} {H : Nat → Option ABox} {nx : Nat}
end
section
variable {P : Program} {T : Nat → AV} {H : Nat → Option ABox} {nx : Nat} {K : Res → Prop} {t e z by_ b ver : Nat} {ag : Bool}
end
end Go.AL
/-
  The abstract logic: '==' of arrays of two integers. Conditions: none.
-/
namespace Go.AL
open Go Go.RowKit
theorem eqt_arr2 {P : Program} {t e : TypeId} {k : IntKind} (ht : P.underlying t = some (.array 2 e)) (he : P.underlying e = some (.int k)) (hi : (P.info? e).isSome = true) (hs : P.cellsOf e = 1) (hty : tyI P e = some (1, false)) (hg : P.eqGuardType P.depth t = false) :
    EqT P t [some k, some k] := by
  obtain ⟨i, hi⟩ := Option.isSome_iff_exists.1 hi
  refine ⟨hg, fun w xs ys hx hy => ?_⟩
  have hxl := congrArg List.length hx
  have hyl := congrArg List.length hy
  simp only [List.length_map, Array.length_toList, List.length_cons, List.length_nil] at hxl hyl
  obtain ⟨⟨x⟩, rfl⟩ : ∃ a, xs = a := ⟨_, rfl⟩
  obtain ⟨⟨y⟩, rfl⟩ : ∃ a, ys = a := ⟨_, rfl⟩
  match x, y, hxl, hyl, hx, hy with
  | [a, b], [c, d], _, _, hx, hy =>
    simp only [List.map_cons, List.map_nil, List.cons.injEq] at hx hy
    obtain ⟨a, rfl⟩ := kind_int hx.1
    obtain ⟨b, rfl⟩ := kind_int hx.2.1
    obtain ⟨c, rfl⟩ := kind_int hy.1
    obtain ⟨d, rfl⟩ := kind_int hy.2.1
    have p0 : ∀ u v : Value, (part e ⟨[u, v]⟩ 0).run P w = .ok u w := fun u v => run_part hty (fun _ => rfl) w ⟨[u, v]⟩ (off := 0) (by simp)
    have p1 : ∀ u v : Value, (part e ⟨[u, v]⟩ 1).run P w = .ok v w := fun u v => run_part hty (fun _ => rfl) w ⟨[u, v]⟩ (off := 1) (by simp)
    have hq := fun (m n : Int) => run_equalIn_int (P := P) w 9998 e k k m n he
    rw [run_equalIn_array w 9999 _ _ ht hi, hs]
    show (Op.eqItems 9999 e 1 _ _ [0, 1]).run P w = _
    simp only [Op.eqItems, Nat.zero_mul, Nat.one_mul, Sem.run_bind, p0, p1, Result.andThen_ok, Bool.false_eq_true, if_false]
    simp [hq, veqs, veq]
    by_cases h1 : a = c <;> by_cases h2 : b = d <;> simp [h1, h2, hq, p0, p1]
end Go.AL
/-
  The abstract logic: nested blocks walked with what comes behind out of sight. Conditions: none.
-/
namespace Go.AL
open Go.RowKit
section
variable {P : Program} {n : Nat} {T : TT} {H : HH} {nx : Nat} {Q : Exit → TT → HH → Nat → Prop}
theorem seq_gen {a b : Code} (h : ∀ Q' : Exit → TT → HH → Nat → Prop, (∀ T H nx, Q' .normal T H nx = KCode P n b Q T H nx) → (∀ T H nx, Q' .ret T H nx = Q .ret T H nx) → (∀ id T H nx, Q' (.exit id) T H nx = Q (.exit id) T H nx) → acode P n a T H nx Q') :
    acode P n (.seq a b) T H nx Q := h _ (fun _ _ _ => rfl) (fun _ _ _ => rfl) (fun _ _ _ _ => rfl)
theorem blk_gen {id : Nat} {c : Code} (h : ∀ Q' : Exit → TT → HH → Nat → Prop, (∀ T H nx, Q' .normal T H nx = Q .normal T H nx) → (∀ T H nx, Q' .ret T H nx = Q .ret T H nx) → (∀ id' T H nx, Q' (.exit id') T H nx = if id' = id then Q .normal T H nx else Q (.exit id') T H nx) → acode P n c T H nx Q') :
    acode P n (.block id c) T H nx Q := h (QBlk id Q) (fun _ _ _ => rfl) (fun _ _ _ => rfl) (fun id' T H nx => by unfold QBlk inB; simp only []; split <;> rfl)
theorem seq_cut {a b : Code} (h : ∀ KB : TT → HH → Nat → Prop, (∀ T H nx, KB T H nx = acode P n b T H nx Q) → acode P n a T H nx (nextQ KB Q)) : acode P n (.seq a b) T H nx Q := h _ (fun _ _ _ => rfl)
end
end Go.AL
/-
  The abstract logic: a slice literal told as content, under a guard. Conditions: none.
-/
namespace Go.AL
open Go.RowKit
@[go_sem] theorem aresGX_one (c : Bool) (P : Program) (op : Op) (T : Nat → AV) (H : Nat → Option ABox) (nx : Nat) (p : Prop) (v : AV) (rb : List Nat) (K : Res → Prop) : aresGX c P op T H nx (some (p, ⟨v, [], 1, rb⟩)) K = effG c (p ∧ K ⟨v, [], 1, rb⟩) (K ⟨.gd c .und, [], 0, []⟩) := by simp [aresGX]
end Go.AL
