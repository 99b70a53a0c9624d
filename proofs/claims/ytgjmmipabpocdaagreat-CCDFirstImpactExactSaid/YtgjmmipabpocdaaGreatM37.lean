/-
  The plain folds of chapter 39. Conditions: none; no program in sight.
-/
import Derived.Test.YtgjmmipabpocdaaGreatM36
set_option linter.all false
namespace Go.Carom
open Go Go.AL

/-- a body that is small enough for every copy. -/
def Bd.S (b : Bd) : Prop := b.fs.length ≤ 1000000 ∧ ∀ f ∈ b.fs, f.vs.length ≤ 1000000
def BsS (l : List Bd) : Prop := l.length ≤ 1000000 ∧ ∀ b ∈ l, b.S
theorem Bd.o_S : Bd.o.S := ⟨by decide, fun f hf => by cases hf⟩
theorem BsS.get {l : List Bd} (h : BsS l) (i : Nat) : (l.getD i Bd.o).S := by
  by_cases hi : i < l.length
  · exact h.2 _ (getD_mem hi)
  · rw [List.getD_eq_getElem?_getD, List.getElem?_eq_none (by omega)]; exact Bd.o_S
theorem solid_S {b : Bd} (h : b.S) : (solid b.fs).length ≤ 1000000 ∧ ∀ f ∈ solid b.fs, f.vs.length ≤ 1000000 :=
  ⟨Nat.le_trans (List.length_filter_le _ _) h.1, fun f hf => h.2 f (List.mem_filter.1 hf).1⟩
theorem foldl_take {α β : Type} (f : β → α → β) (d : α) (l : List α) (a : β) (i : Nat) (h : i < l.length) : (l.take (i + 1)).foldl f a = f ((l.take i).foldl f a) (l.getD i d) := by
  rw [List.take_succ_eq_append_getElem h, List.foldl_append, List.getD_eq_getElem?_getD, List.getElem?_eq_getElem h]; rfl
def accQ (was now o : Bd) (p : Fx) (Q : List Fx) (a : Int) (j : Nat) : Int := (Q.take j).foldl (minI was now o p) a
def accP (was now o : Bd) (P Q : List Fx) (i : Nat) : Int := (P.take i).foldl (fun a p => Q.foldl (minI was now o p) a) 65536
theorem accQ_next (was now o : Bd) (p : Fx) (Q : List Fx) (a : Int) (j : Nat) (h : j < Q.length) : accQ was now o p Q a (j + 1) = minI was now o p (accQ was now o p Q a j) (Q.getD j Fx.o) := foldl_take _ _ _ _ _ h
theorem accP_next (was now o : Bd) (P Q : List Fx) (i : Nat) (h : i < P.length) : accP was now o P Q (i + 1) = accQ was now o (P.getD i Fx.o) Q (accP was now o P Q i) Q.length := by
  unfold accP accQ; rw [foldl_take _ Fx.o _ _ _ h, List.take_length]
theorem impW_eq (was now o : Bd) : impW was now o = accP was now o (solid now.fs) (solid o.fs) (solid now.fs).length := by
  unfold impW accP; rw [List.take_length]; rfl
def accK (was now : List Bd) (js : List Jt) (i : Nat) (k : Nat) : Int := (List.range k).foldl (minK was now js i) 65536
theorem accK_next (was now : List Bd) (js : List Jt) (i k : Nat) : accK was now js i (k + 1) = minK was now js i (accK was now js i k) k := by
  unfold accK; rw [List.range_succ, List.foldl_append]; rfl
end Go.Carom
