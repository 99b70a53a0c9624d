/-
  The sweep over sorted entries: the pairs it meets. Conditions: none.
-/
import Derived.Test.YtfhpalfchhinlaaM46
set_option linter.all false
namespace Go.Carom
open Go.RowKit Go.AL

def ovl (a b : En) : Bool := ((decide (a.x ≤ b.u) && decide (b.x ≤ a.u)) && decide (a.y ≤ b.w)) && decide (b.y ≤ a.w)
def ovE (a b : En) : Bool := (vE a && vE b) && ovl a b
def mkP (a b : En) : P2 := ⟨if b.id < a.id then b.id else a.id, if a.id < b.id then b.id else a.id⟩
/-- the entries behind a that begin before a ends. -/
def runE (a : En) (r : List En) : List En := r.takeWhile fun b => !decide (a.u < b.x)
def prK (a : En) (r : List En) (k : Nat) : List P2 := (((runE a r).take k).filter (ovE a)).map (mkP a)
def prI (l : List En) : Nat → List P2
  | 0 => []
  | i + 1 => prI l i ++ prK (l.getD i En.o) (l.drop (i + 1)) (runE (l.getD i En.o) (l.drop (i + 1))).length
def pairsR (l : List En) : List P2 := prI l l.length
def pairsE (l : List En) : List P2 := (pairsR (sortE l)).mergeSort fun x y => !p2l y x
theorem tw_len {α : Type} (p : α → Bool) : ∀ l : List α, (l.takeWhile p).length ≤ l.length
  | [] => Nat.le_refl _
  | a :: r => by
    rw [List.takeWhile_cons]
    split
    · have := tw_len p r; simp; omega
    · simp
theorem tw_getD {α : Type} (p : α → Bool) (d : α) : ∀ (l : List α) (j : Nat), j < (l.takeWhile p).length → (l.takeWhile p).getD j d = l.getD j d ∧ p (l.getD j d) = true
  | [], j, h => by simp at h
  | a :: r, j, h => by
    rw [List.takeWhile_cons] at h ⊢
    cases hp : p a with
    | false => rw [hp] at h; simp at h
    | true =>
      rw [hp] at h
      simp only [if_true] at h ⊢
      cases j with
      | zero => exact ⟨rfl, hp⟩
      | succ j =>
        have := tw_getD p d r j (by simpa using h)
        simpa using this
theorem tw_end {α : Type} (p : α → Bool) (d : α) : ∀ (l : List α), (l.takeWhile p).length < l.length → p (l.getD (l.takeWhile p).length d) = false
  | [], h => by simp at h
  | a :: r, h => by
    rw [List.takeWhile_cons] at h ⊢
    cases hp : p a with
    | false => rw [if_neg (by decide)]; exact hp
    | true =>
      rw [hp] at h
      simp only [if_true] at h ⊢
      have := tw_end p d r (by simpa using h)
      simpa using this
theorem run_le (a : En) (r : List En) : (runE a r).length ≤ r.length := tw_len _ _
theorem rn_in {a : En} {r : List En} {j : Nat} (h : j < (runE a r).length) : decide (a.u < (r.getD j En.o).x) = false := by
  have := (tw_getD (fun b : En => !decide (a.u < b.x)) En.o r j h).2
  simpa using this
theorem run_end {a : En} {r : List En} (h : (runE a r).length < r.length) : decide (a.u < (r.getD (runE a r).length En.o).x) = true := by
  have := tw_end (fun b : En => !decide (a.u < b.x)) En.o r h
  simpa [runE] using this
theorem prK_next {a : En} {r : List En} {j : Nat} (h : j < (runE a r).length) : prK a r (j + 1) = prK a r j ++ (if ovE a (r.getD j En.o) then [mkP a (r.getD j En.o)] else []) := by
  have hg := (tw_getD (fun b : En => !decide (a.u < b.x)) En.o r j h).1
  unfold prK
  rw [take_succ_getD _ En.o h, show (runE a r).getD j En.o = r.getD j En.o from hg, List.filter_append, List.map_append]
  congr 1
  generalize r.getD j En.o = c
  by_cases ho : ovE a c = true
  · rw [if_pos ho]; simp [List.filter, ho]
  · rw [if_neg ho]; simp [List.filter, ho]
theorem prK_in {a : En} {r : List En} {j : Nat} (h : j < (runE a r).length) (ho : ovE a (r.getD j En.o) = true) : prK a r (j + 1) = prK a r j ++ [mkP a (r.getD j En.o)] := by rw [prK_next h, if_pos ho]
theorem prK_out {a : En} {r : List En} {j : Nat} (h : j < (runE a r).length) (ho : ovE a (r.getD j En.o) = false) : prK a r (j + 1) = prK a r j := by rw [prK_next h, if_neg (by rw [ho]; decide), List.append_nil]
theorem prK_zero (a : En) (r : List En) : prK a r 0 = [] := rfl
theorem prK_len (a : En) (r : List En) (k : Nat) : (prK a r k).length ≤ r.length := by
  unfold prK
  rw [List.length_map]
  refine Nat.le_trans (List.length_filter_le _ _) (Nat.le_trans ?_ (run_le a r))
  rw [List.length_take]; omega
theorem prI_next (l : List En) (i : Nat) : prI l (i + 1) = prI l i ++ prK (l.getD i En.o) (l.drop (i + 1)) (runE (l.getD i En.o) (l.drop (i + 1))).length := rfl
theorem prI_len (l : List En) : ∀ i, (prI l i).length ≤ i * l.length
  | 0 => by simp [prI]
  | i + 1 => by
    have h1 := prI_len l i
    have h2 := prK_len (l.getD i En.o) (l.drop (i + 1)) (runE (l.getD i En.o) (l.drop (i + 1))).length
    rw [prI_next, List.length_append, Nat.succ_mul]
    have h3 : (l.drop (i + 1)).length ≤ l.length := by simp
    omega
theorem prIK_len (l : List En) (i k : Nat) (hi : i ≤ l.length) (hl : l.length ≤ 1000) : (prI l i ++ prK (l.getD i En.o) (l.drop (i + 1)) k).length ≤ 1001000 := by
  have h1 := prI_len l i
  have h2 := prK_len (l.getD i En.o) (l.drop (i + 1)) k
  have h3 : (l.drop (i + 1)).length ≤ l.length := by simp
  have h4 : i * l.length ≤ 1000 * 1000 := Nat.mul_le_mul (by omega) hl
  rw [List.length_append]; omega
theorem pairsR_len (l : List En) (hl : l.length ≤ 1000) : (pairsR l).length ≤ 1000000 := by
  have h1 := prI_len l l.length
  have h4 : l.length * l.length ≤ 1000 * 1000 := Nat.mul_le_mul hl hl
  unfold pairsR; omega
theorem sortE_len (l : List En) : (sortE l).length ≤ l.length := by
  unfold sortE
  rw [List.length_mergeSort, ← fltI_all]
  exact fltI_len l _
theorem p2_tri (a b : P2) (h1 : p2l a b = false) (h2 : p2l b a = false) : a = b := by
  obtain ⟨a1, a2⟩ := a
  obtain ⟨b1, b2⟩ := b
  simp [p2l] at h1 h2
  have : a1 = b1 := by omega
  subst this
  have : a2 = b2 := by omega
  subst this
  rfl
end Go.Carom
