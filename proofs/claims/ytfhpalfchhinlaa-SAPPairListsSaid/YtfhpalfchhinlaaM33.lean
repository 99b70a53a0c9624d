/-
  The plain law of ContactFixtures. Conditions: none; no program in sight.
-/
import Derived.Test.YtfhpalfchhinlaaM24
set_option linter.all false
namespace Go.Carom
open Go Go.AL

theorem bd_none {l : List Bd} {i : Nat} (h : ¬ i < l.length) : (l.map Bd.v).getD i .und = .und := by
  rw [List.getD_eq_getElem?_getD, List.getElem?_eq_none (by rw [List.length_map]; omega)]; rfl
def fbK (l : List Bd) (id : Int) : Int := fidx l.length fun i => !decide ((l.getD i Bd.o).id = id)
theorem fidx_lt (n : Nat) (good : Nat → Bool) : -1 ≤ fidx n good ∧ fidx n good < n ∨ n = 0 ∧ fidx n good = -1 := by
  by_cases h : ∃ i, i < n ∧ good i = false
  · obtain ⟨i, hi, hg⟩ := h
    have key : ∀ k, (∃ i, i < k ∧ i < n ∧ good i = false) → ∃ i, i < n ∧ good i = false ∧ ∀ j, j < i → good j = true := by
      intro k
      induction k with
      | zero => rintro ⟨i, hi, _⟩; omega
      | succ k ih =>
        rintro ⟨i, hi, hn, hg⟩
        by_cases hx : ∃ i, i < k ∧ i < n ∧ good i = false
        · exact ih hx
        · have e : i = k := by
            by_cases e : i = k
            · exact e
            · exact absurd ⟨i, by omega, hn, hg⟩ hx
          subst e
          refine ⟨i, hn, hg, fun j hj => ?_⟩
          cases hgj : good j with
          | true => rfl
          | false => exact absurd ⟨j, hj, by omega, hgj⟩ hx
    obtain ⟨m, hm, hgm, hall⟩ := key n ⟨i, hi, hi, hg⟩
    rw [fidx_hit hm hall hgm]
    omega
  · have hall : ∀ j, j < n → good j = true := fun j hj => by
      cases hgj : good j with
      | true => rfl
      | false => exact absurd ⟨j, hj, hgj⟩ h
    rw [fidx_none (i := n) (by omega) (Nat.le_refl _) hall]
    omega
theorem fbK_lt (l : List Bd) (id : Int) : fbK l id < l.length := by
  rcases fidx_lt l.length (fun i => !decide ((l.getD i Bd.o).id = id)) with h | h
  · exact h.2
  · unfold fbK; omega
/-- the fixture that is meant is there. -/
def hasFx (l : List Bd) (id f : Int) : Prop := 0 ≤ fbK l id ∧ 0 ≤ f ∧ f < ((l.getD (fbK l id).toNat Bd.o).fs.length : Int)
instance (l : List Bd) (id f : Int) : Decidable (hasFx l id f) := by unfold hasFx; infer_instance
def theFx (l : List Bd) (id f : Int) : Fx := if hasFx l id f then (l.getD (fbK l id).toNat Bd.o).fs.getD f.toNat Fx.o else Fx.o
def smallJ (f : Bd) (j : Nat) : Bool := !decide (10 < (f.fs.getD j Fx.o).vs.length)
def smallI (l : List Bd) (i : Nat) : Bool := !decide (4 < (l.getD i Bd.o).fs.length) && (List.range (l.getD i Bd.o).fs.length).all (smallJ (l.getD i Bd.o))
def smallW (w : Wd) : Bool := decide (w.bs.length ≤ 8) && decide (w.js.length ≤ 8) && decide (w.cs.length ≤ 20) && decide (w.ov.length ≤ 20) && decide (w.it ≤ 16) && (List.range w.bs.length).all (smallI w.bs) && few27 w.cs
theorem small_vs {w : Wd} {id f : Int} (hS : smallW w = true) (h : hasFx w.bs id f) : ((w.bs.getD (fbK w.bs id).toNat Bd.o).fs.getD f.toNat Fx.o).vs.length ≤ 1000000 := by
  obtain ⟨h1, h2, h3⟩ := h
  have h4 := fbK_lt w.bs id
  unfold smallW at hS
  simp only [Bool.and_eq_true] at hS
  have ha := List.all_eq_true.1 hS.1.2 (fbK w.bs id).toNat (List.mem_range.2 (by omega))
  unfold smallI at ha
  simp only [Bool.and_eq_true] at ha
  have hb := List.all_eq_true.1 ha.2 f.toNat (List.mem_range.2 (by omega))
  unfold smallJ at hb
  simp only [Bool.not_eq_true', decide_eq_false_iff_not] at hb
  omega
end Go.Carom
