/-
  The greatest number of entries over one place. Conditions: none.
-/
import Derived.Test.YtfhpalfchhinlaaM57
set_option linter.all false
namespace Go.Carom
open Go.RowKit Go.AL

def ovx (c : En) (x : Int) : Bool := decide (c.x ≤ x) && decide (x ≤ c.u)
def cntI (L : List En) (x : Int) : Nat → Int
  | 0 => 0
  | n + 1 => if ovx (L.getD n En.o) x = true then cntI L x n + 1 else cntI L x n
theorem cntI_next (L : List En) (x : Int) (n : Nat) : cntI L x (n + 1) = if ovx (L.getD n En.o) x = true then cntI L x n + 1 else cntI L x n := rfl
theorem cntI_bd (L : List En) (x : Int) : ∀ n : Nat, 0 ≤ cntI L x n ∧ cntI L x n ≤ n
  | 0 => by simp [cntI]
  | n + 1 => by
    have := cntI_bd L x n
    rw [cntI_next]
    split <;> omega
def mxP (L : List En) : Nat → Int × Int
  | 0 => (0, 0)
  | i + 1 => if (decide ((i : Int) = 0) || decide ((mxP L i).1 < cntI L (L.getD i En.o).x L.length)) = true then (cntI L (L.getD i En.o).x L.length, (L.getD i En.o).x) else mxP L i
def mxR (L : List En) : Nat → Int × Int
  | 0 => (0, 0)
  | i + 1 => if decide ((mxR L i).1 < cntI L (L.getD i En.o).x L.length) = true then (cntI L (L.getD i En.o).x L.length, (L.getD i En.o).x) else mxR L i
theorem mxP_in {L : List En} {i : Nat} (h : (decide ((i : Int) = 0) || decide ((mxP L i).1 < cntI L (L.getD i En.o).x L.length)) = true) : mxP L (i + 1) = (cntI L (L.getD i En.o).x L.length, (L.getD i En.o).x) := if_pos h
theorem mxP_out {L : List En} {i : Nat} (h : (decide ((i : Int) = 0) || decide ((mxP L i).1 < cntI L (L.getD i En.o).x L.length)) = false) : mxP L (i + 1) = mxP L i := if_neg (by rw [h]; decide)
theorem mxR_in {L : List En} {i : Nat} (h : decide ((mxR L i).1 < cntI L (L.getD i En.o).x L.length) = true) : mxR L (i + 1) = (cntI L (L.getD i En.o).x L.length, (L.getD i En.o).x) := if_pos h
theorem mxR_out {L : List En} {i : Nat} (h : decide ((mxR L i).1 < cntI L (L.getD i En.o).x L.length) = false) : mxR L (i + 1) = mxR L i := if_neg (by rw [h]; decide)
theorem cnt_in {L : List En} {x : Int} {n : Nat} (h : ovx (L.getD n En.o) x = true) : cntI L x (n + 1) = cntI L x n + 1 := if_pos h
theorem cnt_out {L : List En} {x : Int} {n : Nat} (h : ovx (L.getD n En.o) x = false) : cntI L x (n + 1) = cntI L x n := if_neg (by rw [h]; decide)
theorem cnt_mono (L : List En) (x : Int) : ∀ m n : Nat, n ≤ m → cntI L x n ≤ cntI L x m
  | 0, n, h => by have : n = 0 := by omega
                  subst this; exact Int.le_refl _
  | m + 1, n, h => by
    by_cases hn : n = m + 1
    · subst hn; exact Int.le_refl _
    · have h1 := cnt_mono L x m n (by omega)
      have h2 := cntI_next L x m
      split at h2 <;> omega
theorem sortE_valid {l : List En} {e : En} (h : e ∈ sortE l) : vE e = true := by
  rw [(sortE_SS l).2] at h
  have key : ∀ (l acc : List En), (∀ x ∈ acc, vE x = true) → ∀ x ∈ l.foldl addE acc, vE x = true := by
    intro l
    induction l with
    | nil => intro acc ha; exact ha
    | cons a r ih =>
      intro acc ha
      refine ih _ ?_
      intro x hx
      unfold addE at hx
      split at hx
      · rename_i hn
        rcases List.mem_append.1 hx with hx | hx
        · exact ha x hx
        · rw [List.mem_singleton] at hx
          subst hx
          unfold newE at hn
          rw [Bool.and_eq_true] at hn
          exact hn.1
      · exact ha x hx
  exact key l [] (by simp) e h
theorem ovx_self {e : En} (h : vE e = true) : ovx e e.x = true := by
  unfold vE bvalid at h
  simp only [Bool.and_eq_true, decide_eq_true_eq] at h
  unfold ovx
  simp only [Bool.and_eq_true, decide_eq_true_eq]
  omega
theorem mx_same {L : List En} (h : ∀ e ∈ L, vE e = true) : ∀ i, i ≤ L.length → mxP L i = mxR L i
  | 0, _ => rfl
  | i + 1, hi => by
    have ih := mx_same h i (by omega)
    have e1 : mxP L (i + 1) = if (decide ((i : Int) = 0) || decide ((mxP L i).1 < cntI L (L.getD i En.o).x L.length)) = true then (cntI L (L.getD i En.o).x L.length, (L.getD i En.o).x) else mxP L i := rfl
    have e2 : mxR L (i + 1) = if decide ((mxR L i).1 < cntI L (L.getD i En.o).x L.length) = true then (cntI L (L.getD i En.o).x L.length, (L.getD i En.o).x) else mxR L i := rfl
    rw [e1, e2, ih]
    cases i with
    | zero =>
      have h0 : ovx (L.getD 0 En.o) (L.getD 0 En.o).x = true := ovx_self (h _ (getD_mem (by omega)))
      have h1 : cntI L (L.getD 0 En.o).x (0 + 1) = cntI L (L.getD 0 En.o).x 0 + 1 := cnt_in h0
      have h2 : cntI L (L.getD 0 En.o).x 0 = 0 := rfl
      have h3 := cnt_mono L (L.getD 0 En.o).x L.length 1 (by omega)
      have h4 : (mxR L 0).1 < cntI L (L.getD 0 En.o).x L.length := by
        show (0 : Int) < _
        rw [h2] at h1
        have h1' : cntI L (L.getD 0 En.o).x 1 = 0 + 1 := h1
        omega
      rw [if_pos (by simp), if_pos (by simpa using h4)]
    | succ i =>
      have : decide (((i + 1 : Nat) : Int) = 0) = false := decide_eq_false (by omega)
      rw [this, Bool.false_or]
theorem mx_sort (l : List En) : mxP (sortE l) (sortE l).length = mxR (sortE l) (sortE l).length := mx_same (fun _ he => sortE_valid he) _ (Nat.le_refl _)
theorem mxP_bd (L : List En) : ∀ i : Nat, 0 ≤ (mxP L i).1 ∧ (mxP L i).1 ≤ L.length
  | 0 => by simp [mxP]
  | i + 1 => by
    have ih := mxP_bd L i
    have h := cntI_bd L (L.getD i En.o).x L.length
    by_cases hc : (decide ((i : Int) = 0) || decide ((mxP L i).1 < cntI L (L.getD i En.o).x L.length)) = true
    · rw [mxP_in hc]; exact h
    · rw [mxP_out (by simpa using hc)]; exact ih
end Go.Carom
