/-
  The reference's filter and its insertion. Conditions: none.
-/
import Derived.Test.YtfhpalfchhinlaaM58
set_option linter.all false
namespace Go.Carom
open Go.RowKit Go.AL

/-- valid, and with another ID than the first k of those that count. -/
def nd (acc : List En) (e : En) (k : Nat) : Bool := vE e && (acc.take k).all fun o => !decide (o.id = e.id)
theorem nd_zero (acc : List En) (e : En) : nd acc e 0 = vE e := by simp [nd]
theorem nd_next {acc : List En} {e : En} {k : Nat} (h : k < acc.length) : nd acc e (k + 1) = (nd acc e k && !decide ((acc.getD k En.o).id = e.id)) := by
  unfold nd
  rw [take_succ_getD _ En.o h, List.all_append]
  simp only [List.all_cons, List.all_nil, Bool.and_true]
  rw [Bool.and_assoc]
theorem nd_all (acc : List En) (e : En) : nd acc e acc.length = newE acc e := by unfold nd newE; rw [List.take_length]
theorem fltI_yes {l : List En} {i : Nat} (h : i < l.length) (hn : newE (fltI l i) (l.getD i En.o) = true) : fltI l (i + 1) = fltI l i ++ [l.getD i En.o] := by rw [fltI_next l i h]; unfold addE; rw [if_pos hn]
theorem fltI_no {l : List En} {i : Nat} (h : i < l.length) (hn : newE (fltI l i) (l.getD i En.o) = false) : fltI l (i + 1) = fltI l i := by rw [fltI_next l i h]; unfold addE; rw [if_neg (by rw [hn]; decide)]
/-- the reference's sorted list out of the first i. -/
def insI (l : List En) (i : Nat) : List En := (l.take i).foldl (fun acc e => insS enl e acc) []
theorem insI_zero (l : List En) : insI l 0 = [] := rfl
theorem insI_next {l : List En} {i : Nat} (h : i < l.length) : insI l (i + 1) = insS enl (l.getD i En.o) (insI l i) := by
  unfold insI; exact foldl_take' _ _ _ _ _ h
theorem insI_all (l : List En) : insI l l.length = insE l := by unfold insI insE; rw [List.take_length]
theorem insS_len {α : Type} (lt : α → α → Bool) (x : α) (l : List α) : (insS lt x l).length = l.length + 1 := by
  have h := congrArg List.length (List.takeWhile_append_dropWhile (p := fun y => lt y x) (l := l))
  rw [List.length_append] at h
  unfold insS
  rw [List.length_append, List.length_cons]
  omega
theorem insI_len (l : List En) : ∀ i, i ≤ l.length → (insI l i).length = i
  | 0, _ => rfl
  | i + 1, h => by rw [insI_next (by omega), insS_len, insI_len l i (by omega)]
/-- where the new one goes. -/
def posE (e : En) (l : List En) : Nat := (l.takeWhile fun y => enl y e).length
theorem posE_le (e : En) (l : List En) : posE e l ≤ l.length := tw_len _ _
theorem posE_in {e : En} {l : List En} {k : Nat} (h : k < posE e l) : enl (l.getD k En.o) e = true := (tw_getD _ En.o l k h).2
theorem posE_end {e : En} {l : List En} (h : posE e l < l.length) : enl (l.getD (posE e l) En.o) e = false := tw_end _ En.o l h
theorem tw_take {α : Type} (p : α → Bool) : ∀ l : List α, l.takeWhile p = l.take (l.takeWhile p).length
  | [] => rfl
  | a :: r => by
    rw [List.takeWhile_cons]
    cases hp : p a with
    | false => rfl
    | true =>
      simp only [if_true, List.length_cons, List.take_succ_cons]
      rw [← tw_take p r]
theorem dw_drop {α : Type} (p : α → Bool) : ∀ l : List α, l.dropWhile p = l.drop (l.takeWhile p).length
  | [] => rfl
  | a :: r => by
    rw [List.takeWhile_cons, List.dropWhile_cons]
    cases hp : p a with
    | false => rfl
    | true =>
      simp only [if_true, List.length_cons, List.drop_succ_cons]
      exact dw_drop p r
theorem insS_pos (e : En) (l : List En) : insS enl e l = l.take (posE e l) ++ e :: l.drop (posE e l) := by
  unfold insS posE
  rw [← tw_take, ← dw_drop]
theorem enl_eq (a b : En) : enl a b = (decide (a.x < b.x) || (decide (a.x = b.x) && decide (a.id < b.id))) := rfl
theorem flt_sort (l : List En) : insI (flt l) (flt l).length = sortE l := by rw [insI_all]; exact sort_same l
end Go.Carom
