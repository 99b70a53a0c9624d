/-
  The abstract logic: a callee that is walked in its place and leaves its caller's boxes as they were: only the new boxes count as written. Conditions: the program follows the mixed orders.
-/
import Derived.Test.YtplmagdbnbijlaaGreatAlC
import Derived.Test.YtplmagdbnbijlaaGreatAlB
import Derived.Test.YtplmagdbnbijlaaGreatAlA
import Derived.ChangeKeysEq
set_option linter.all false
namespace Go.AL
open Go.RowKit
end Go.AL
/-
  The abstract logic: a choice whose condition is known. Conditions: none.
-/
namespace Go.AL
open Go.RowKit
section
open Go Go.RowKit
theorem gcst_deadb {P : Program} {H : Nat → Option ABox} {nx : Nat} {f : AV} {as : List AV} {K : Res → Prop} (h : K ⟨.gd false (.b true), [], 0, []⟩) : gcst false P H nx f as K :=
  .inr (.inr ⟨.b true, [], (fun h => by cases h), h⟩)
end
end Go.AL
/-
  The abstract logic: the tail of a row of one's own, cleared; the head of a row of one's own. Conditions: none.
-/
namespace Go.AL
open Go Go.RowKit
section
variable {C : Cx} {o : Oper} {T : Nat → AV} {H : Nat → Option ABox} {nx : Nat}
end
section
variable {P : Program} {T : Nat → AV} {H : Nat → Option ABox} {nx : Nat} {K : Res → Prop} {t e z by_ b ver : Nat} {ag : Bool}
theorem aext_litsl {len : Nat} {ps : Array (Nat × Operand)} {zs : List Value} (he : elI P t = some (e, z, by_, ag)) (hz : zI P e = some zs) (hp : zs.length = z ∧ len * z ≤ 16777216 ∧ (∀ p ∈ ps.toList, (evO T p.2).cond = true) ∧ afP ((List.range len).map fun i => (i * z, z)) ((List.replicate len (zs.map avCell)).flatten) (ps.toList.map fun p => (p.1, ev T p.2)) ∧ ones (afV ((List.range len).map fun i => (i * z, z)) ((List.replicate len (zs.map avCell)).flatten) (ps.toList.map fun p => (p.1, ev T p.2))) = true ∧ (∀ p ∈ ps.toList, p.1 < len))
    (hK : K ⟨.sl (chunks z ag len (afV ((List.range len).map fun i => (i * z, z)) ((List.replicate len (zs.map avCell)).flatten) (ps.toList.map fun p => (p.1, ev T p.2)))), [], 1, []⟩) : aext P (.buildSlice t len ps) T H nx K :=
  ⟨_, hK, fun C o hP ho => by subst hP; exact (opS_buildSlice (H := H) (nx := nx) ho he hz hp.1 hp.2.1 hp.2.2.1 hp.2.2.2.1 hp.2.2.2.2.1 hp.2.2.2.2.2).freeze⟩
end
end Go.AL
/-
  The abstract logic: '==' of arrays of two integers. Conditions: none.
-/
namespace Go.AL
open Go Go.RowKit
theorem eqt_arr2 {P : Program} {t e : TypeId} {k : IntKind} (ht : P.underlying t = some (.array 2 e)) (he : P.underlying e = some (.int k)) (hi : (P.info? e).isSome = true) (hs : P.cellsOf e = 1) (hty : tyI P e = some (1, false)) (hg : P.eqGuardType P.depth t = false) :
    EqT P t [some k, some k] := by
  obtain ⟨i, hi⟩ := Option.isSome_iff_exists.1 hi
  refine ⟨hg, fun w xs ys hx hy => ?_⟩
  have hxl := congrArg List.length hx
  have hyl := congrArg List.length hy
  simp only [List.length_map, Array.length_toList, List.length_cons, List.length_nil] at hxl hyl
  obtain ⟨⟨x⟩, rfl⟩ : ∃ a, xs = a := ⟨_, rfl⟩
  obtain ⟨⟨y⟩, rfl⟩ : ∃ a, ys = a := ⟨_, rfl⟩
  match x, y, hxl, hyl, hx, hy with
  | [a, b], [c, d], _, _, hx, hy =>
    simp only [List.map_cons, List.map_nil, List.cons.injEq] at hx hy
    obtain ⟨a, rfl⟩ := kind_int hx.1
    obtain ⟨b, rfl⟩ := kind_int hx.2.1
    obtain ⟨c, rfl⟩ := kind_int hy.1
    obtain ⟨d, rfl⟩ := kind_int hy.2.1
    have p0 : ∀ u v : Value, (part e ⟨[u, v]⟩ 0).run P w = .ok u w := fun u v => run_part hty (fun _ => rfl) w ⟨[u, v]⟩ (off := 0) (by simp)
    have p1 : ∀ u v : Value, (part e ⟨[u, v]⟩ 1).run P w = .ok v w := fun u v => run_part hty (fun _ => rfl) w ⟨[u, v]⟩ (off := 1) (by simp)
    have hq := fun (m n : Int) => run_equalIn_int (P := P) w 9998 e k k m n he
    rw [run_equalIn_array w 9999 _ _ ht hi, hs]
    show (Op.eqItems 9999 e 1 _ _ [0, 1]).run P w = _
    simp only [Op.eqItems, Nat.zero_mul, Nat.one_mul, Sem.run_bind, p0, p1, Result.andThen_ok, Bool.false_eq_true, if_false]
    simp [hq, veqs, veq]
    by_cases h1 : a = c <;> by_cases h2 : b = d <;> simp [h1, h2, hq, p0, p1]
end Go.AL
