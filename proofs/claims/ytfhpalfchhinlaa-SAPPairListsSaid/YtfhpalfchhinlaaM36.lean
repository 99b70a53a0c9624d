/-
  The plain law of fixtures that are no sensors, deleted in place. Conditions: none; no program in sight.
-/
import Derived.Test.YtfhpalfchhinlaaM35
import Derived.Test.YtfhpalfchhinlaaM33
set_option linter.all false
namespace Go.Carom
open Go Go.AL

def sol (f : Fx) : Bool := !f.sen
theorem solid_eq (l : List Fx) : solid l = l.filter sol := rfl
def sfK (l : List Fx) : Int := fidx l.length fun i => sol (l.getD i Fx.o)
theorem fl_le {α : Type} (l : List α) (p : α → Bool) (j : Nat) : (fl l p j).length ≤ j := by
  unfold fl
  have := List.length_filter_le p (l.take j)
  rw [List.length_take] at this
  omega
theorem fidx_cases (n : Nat) (good : Nat → Bool) : (fidx n good = -1 ∧ ∀ j, j < n → good j = true) ∨ ∃ i : Nat, i < n ∧ fidx n good = i ∧ good i = false ∧ ∀ j, j < i → good j = true := by
  by_cases h : ∃ i, i < n ∧ good i = false
  · obtain ⟨i, hi, hg⟩ := h
    have key : ∀ k, (∃ i, i < k ∧ i < n ∧ good i = false) → ∃ i, i < n ∧ good i = false ∧ ∀ j, j < i → good j = true := by
      intro k
      induction k with
      | zero => rintro ⟨i, hi, _⟩; omega
      | succ k ih =>
        rintro ⟨i, hi, hn, hg⟩
        by_cases hx : ∃ i, i < k ∧ i < n ∧ good i = false
        · exact ih hx
        · have e : i = k := by
            by_cases e : i = k
            · exact e
            · exact absurd ⟨i, by omega, hn, hg⟩ hx
          subst e
          refine ⟨i, hn, hg, fun j hj => ?_⟩
          cases hgj : good j with
          | true => rfl
          | false => exact absurd ⟨j, hj, by omega, hgj⟩ hx
    obtain ⟨m, hm, hgm, hall⟩ := key n ⟨i, hi, hi, hg⟩
    exact .inr ⟨m, hm, fidx_hit hm hall hgm, hgm, hall⟩
  · have hall : ∀ j, j < n → good j = true := fun j hj => by
      cases hgj : good j with
      | true => rfl
      | false => exact absurd ⟨j, hj, hgj⟩ h
    exact .inl ⟨fidx_none (i := n) (by omega) (Nat.le_refl _) hall, hall⟩
theorem fl_good {α : Type} {l : List α} (d : α) {p : α → Bool} {i : Nat} (hi : i ≤ l.length) (h : ∀ j, j < i → p (l.getD j d) = true) : fl l p i = l.take i := by
  unfold fl
  refine List.filter_eq_self.2 fun x hx => ?_
  obtain ⟨j, hj, rfl⟩ := List.mem_iff_getElem.1 hx
  rw [List.length_take] at hj
  have := h j (by omega)
  rw [List.getD_eq_getElem?_getD, List.getElem?_eq_getElem (by omega)] at this
  rw [List.getElem_take]; exact this
/-- the row while it is rewritten: what is kept, then what was there. -/
def rowS {α : Type} (l : List α) (p : α → Bool) (j : Nat) : List α := fl l p j ++ l.drop (fl l p j).length
theorem rowS_len {α : Type} (l : List α) (p : α → Bool) (j : Nat) : (rowS l p j).length = l.length := by
  unfold rowS
  have := fl_len l p j
  rw [List.length_append, List.length_drop]; omega
theorem rowS_get {α : Type} (l : List α) (d : α) (p : α → Bool) (j : Nat) (h : j < l.length) : (rowS l p j).getD j d = l.getD j d := by
  unfold rowS
  have := fl_le l p j
  rw [List.getD_eq_getElem?_getD, List.getElem?_append_right this, List.getElem?_drop, List.getD_eq_getElem?_getD]
  congr 2; omega
theorem rowS_in {α : Type} (l : List α) (d : α) (p : α → Bool) (j : Nat) (h : j < l.length) (hp : p (l.getD j d) = true) : (rowS l p j).set (fl l p j).length (l.getD j d) = rowS l p (j + 1) := by
  have h1 := fl_le l p j
  unfold rowS
  rw [fl_in d h hp, List.set_append_right _ _ (Nat.le_refl _), Nat.sub_self, List.length_append]
  have h2 : l.drop (fl l p j).length = l[(fl l p j).length]'(by omega) :: l.drop ((fl l p j).length + 1) := List.drop_eq_getElem_cons (by omega)
  rw [h2, List.set_cons_zero, List.append_assoc]
  rfl
theorem rowS_out {α : Type} (l : List α) (d : α) (p : α → Bool) (j : Nat) (h : j < l.length) (hp : p (l.getD j d) = false) : rowS l p (j + 1) = rowS l p j := by
  unfold rowS; rw [fl_out d h hp]
theorem rowS_start {α : Type} (l : List α) (d : α) (p : α → Bool) (i : Nat) (h : i < l.length) (hp : p (l.getD i d) = false) (ha : ∀ j, j < i → p (l.getD j d) = true) : rowS l p (i + 1) = l ∧ (fl l p (i + 1)).length = i := by
  have h1 := fl_good d (Nat.le_of_lt h) ha
  have h2 : fl l p (i + 1) = l.take i := by rw [fl_out d h hp, h1]
  have h3 : (l.take i).length = i := by rw [List.length_take]; omega
  unfold rowS
  rw [h2, h3]
  exact ⟨List.take_append_drop i l, rfl⟩
theorem rowS_fin {α : Type} (F : α → AV) (l : List α) (p : α → Bool) (m : Nat) (v : AV) : (((rowS l p l.length).map F).take (fl l p l.length).length ++ List.replicate m v).take (fl l p l.length).length = (l.filter p).map F := by
  have h1 := fl_len l p l.length
  have h2 : ((rowS l p l.length).map F).take (fl l p l.length).length = (l.filter p).map F := by
    rw [← List.map_take]
    unfold rowS
    rw [List.take_left, fl_all]
  rw [h2, List.take_append_of_le_length (by rw [List.length_map, fl_all]; exact Nat.le_refl _)]
  rw [List.take_of_length_le (by rw [List.length_map, fl_all]; exact Nat.le_refl _)]
theorem sol_all {l : List Fx} (h : ∀ j, j < l.length → sol (l.getD j Fx.o) = true) : l.filter sol = l := by
  rw [← fl_all, fl_good Fx.o (Nat.le_refl _) h, List.take_length]
theorem jcon_eq (a b : Int) (x : Jt) : jcon a b x = (!x.cc && (decide (a = x.ba) && decide (b = x.bb) || decide (a = x.bb) && decide (b = x.ba))) := by simp [jcon, Bool.decide_and]
def jK (js : List Jt) (a b : Int) : Int := fidx js.length fun i => !jcon a b (js.getD i Jt.o)
theorem any_range {α : Type} (d : α) (p : α → Bool) (l : List α) : (List.range l.length).any (fun i => p (l.getD i d)) = l.any p := by
  rw [Bool.eq_iff_iff]
  simp only [List.any_eq_true, List.mem_range]
  constructor
  · rintro ⟨i, hi, h⟩; exact ⟨_, getD_mem hi, h⟩
  · rintro ⟨x, hx, h⟩
    obtain ⟨i, hi, rfl⟩ := List.mem_iff_getElem.1 hx
    exact ⟨i, hi, by rw [List.getD_eq_getElem?_getD, List.getElem?_eq_getElem hi]; exact h⟩
theorem jK_conn (js : List Jt) (a b : Int) : decide (0 ≤ jK js a b) = conn js a b := by
  rcases fidx_cases js.length (fun i => !jcon a b (js.getD i Jt.o)) with ⟨h1, h2⟩ | ⟨i, hi, h1, h2, _⟩
  · have : conn js a b = false := by
      unfold conn
      rw [← any_range Jt.o, Bool.eq_false_iff]
      intro h
      obtain ⟨j, hj, hp⟩ := List.any_eq_true.1 h
      have := h2 j (List.mem_range.1 hj)
      have hq : jcon a b (js.getD j Jt.o) = true := hp
      rw [hq] at this; cases this
    unfold jK; rw [h1, this]; rfl
  · have : conn js a b = true := by
      unfold conn
      rw [← any_range Jt.o]
      exact List.any_eq_true.2 ⟨i, List.mem_range.2 hi, by cases h : jcon a b (js.getD i Jt.o) with | true => rfl | false => rw [h] at h2; cases h2⟩
    unfold jK; rw [h1, this, decide_eq_true (by omega)]
end Go.Carom
