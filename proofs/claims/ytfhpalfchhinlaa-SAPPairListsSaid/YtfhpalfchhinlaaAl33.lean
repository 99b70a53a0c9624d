/-
  The abstract logic: '==' of arrays of two integers. Conditions: none.
-/
import Derived.Test.YtfhpalfchhinlaaAlB
import Derived.ChangeKeysEq
set_option linter.all false
namespace Go.AL
open Go Go.RowKit

theorem eqt_arr2 {P : Program} {t e : TypeId} {k : IntKind} (ht : P.underlying t = some (.array 2 e)) (he : P.underlying e = some (.int k)) (hi : (P.info? e).isSome = true) (hs : P.cellsOf e = 1) (hty : tyI P e = some (1, false)) (hg : P.eqGuardType P.depth t = false) :
    EqT P t [some k, some k] := by
  obtain ⟨i, hi⟩ := Option.isSome_iff_exists.1 hi
  refine ⟨hg, fun w xs ys hx hy => ?_⟩
  have hxl := congrArg List.length hx
  have hyl := congrArg List.length hy
  simp only [List.length_map, Array.length_toList, List.length_cons, List.length_nil] at hxl hyl
  obtain ⟨⟨x⟩, rfl⟩ : ∃ a, xs = a := ⟨_, rfl⟩
  obtain ⟨⟨y⟩, rfl⟩ : ∃ a, ys = a := ⟨_, rfl⟩
  match x, y, hxl, hyl, hx, hy with
  | [a, b], [c, d], _, _, hx, hy =>
    simp only [List.map_cons, List.map_nil, List.cons.injEq] at hx hy
    obtain ⟨a, rfl⟩ := kind_int hx.1
    obtain ⟨b, rfl⟩ := kind_int hx.2.1
    obtain ⟨c, rfl⟩ := kind_int hy.1
    obtain ⟨d, rfl⟩ := kind_int hy.2.1
    have p0 : ∀ u v : Value, (part e ⟨[u, v]⟩ 0).run P w = .ok u w := fun u v => run_part hty (fun _ => rfl) w ⟨[u, v]⟩ (off := 0) (by simp)
    have p1 : ∀ u v : Value, (part e ⟨[u, v]⟩ 1).run P w = .ok v w := fun u v => run_part hty (fun _ => rfl) w ⟨[u, v]⟩ (off := 1) (by simp)
    have hq := fun (m n : Int) => run_equalIn_int (P := P) w 9998 e k k m n he
    rw [run_equalIn_array w 9999 _ _ ht hi, hs]
    show (Op.eqItems 9999 e 1 _ _ [0, 1]).run P w = _
    simp only [Op.eqItems, Nat.zero_mul, Nat.one_mul, Sem.run_bind, p0, p1, Result.andThen_ok, Bool.false_eq_true, if_false]
    simp [hq, veqs, veq]
    by_cases h1 : a = c <;> by_cases h2 : b = d <;> simp [h1, h2, hq, p0, p1]
end Go.AL
