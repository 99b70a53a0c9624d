/-
  The plain law of chapter 12: shapes. Conditions: none; no program in sight.
-/
import Derived.Test.YtehlfgikcipdaaaM5
set_option linter.all false
namespace Go.Carom
open Go Go.AL

/-- the first place that is not good, or -1. -/
def fidxF (good : Nat → Bool) : Nat → Nat → Int
  | 0, _ => -1
  | m + 1, i => if good i then fidxF good m (i + 1) else (i : Int)
def fidx (n : Nat) (good : Nat → Bool) : Int := fidxF good n 0
theorem fidxF_skip {good : Nat → Bool} (m : Nat) : ∀ (k i : Nat), (∀ j, i ≤ j → j < i + k → good j = true) → fidxF good (k + m) i = fidxF good m (i + k)
  | 0, i, _ => by simp
  | k + 1, i, h => by
    rw [show k + 1 + m = (k + m) + 1 by omega, fidxF, if_pos (h i (Nat.le_refl _) (by omega)), fidxF_skip m k (i + 1) (fun j h1 h2 => h j (by omega) (by omega))]
    congr 1; omega
theorem fidx_hit {n : Nat} {good : Nat → Bool} {i : Nat} (hi : i < n) (h : ∀ j, j < i → good j = true) (hg : good i = false) : fidx n good = i := by
  unfold fidx
  rw [show n = i + ((n - i - 1) + 1) by omega, fidxF_skip _ i 0 (fun j _ h2 => h j (by omega)), fidxF, if_neg (by rw [Nat.zero_add, hg]; decide)]
  simp
theorem fidx_none {n : Nat} {good : Nat → Bool} {i : Nat} (hi : ¬ i < n) (hn : i ≤ n) (h : ∀ j, j < i → good j = true) : fidx n good = -1 := by
  unfold fidx
  rw [show n = i + 0 by omega, fidxF_skip 0 i 0 (fun j _ h2 => h j (by omega)), fidxF]
theorem fidx_neg (n : Nat) (good : Nat → Bool) : decide (0 ≤ fidx n good) = !(List.range n).all good := by
  by_cases h : (List.range n).all good = true
  · rw [h, fidx_none (i := n) (by omega) (Nat.le_refl _) (fun j hj => List.all_eq_true.1 h j (by simpa using hj))]; rfl
  · have h' : (List.range n).all good = false := by simpa using h
    obtain ⟨i, hi, hg⟩ : ∃ i, i < n ∧ good i = false ∧ ∀ j, j < i → good j = true := by
      have : ∀ m, m ≤ n → (∀ j, j < m → good j = true) ∨ ∃ i, i < n ∧ good i = false ∧ ∀ j, j < i → good j = true := by
        intro m
        induction m with
        | zero => exact fun _ => .inl fun j hj => by omega
        | succ m ih =>
          intro hm
          rcases ih (by omega) with h1 | h1
          · cases hg : good m with
            | true => exact .inl fun j hj => by by_cases e : j = m; (subst e; exact hg); exact h1 j (by omega)
            | false => exact .inr ⟨m, by omega, hg, h1⟩
          · exact .inr h1
      rcases this n (Nat.le_refl _) with h1 | h1
      · rw [List.all_eq_true.2 (fun j hj => h1 j (by simpa using hj))] at h'; cases h'
      · exact h1
    rw [h', fidx_hit hi hg.2 hg.1]
    simp

/-- a call that is not made. -/
theorem gcst_dead {P : Program} {H : Nat → Option ABox} {nx fid : Nat} {as : List AV} {K : Res → Prop} (h : K ⟨.gd false (.agg [.i 0, .i 0]), [], 0, []⟩) : gcst false P H nx (.clo fid []) as K :=
  .inr (.inr ⟨.agg [.i 0, .i 0], [], (fun e => Bool.noConfusion e), h⟩)
/-! ### shapes -/
def vcount (k n : Int) : Bool := if k = 1 then decide (n = 1) else if k = 2 then decide (n = 2) else decide (3 ≤ n) && decide (n ≤ 8)
def vcountR (k n : Int) : Bool := if k = 3 then decide (3 ≤ n) && decide (n ≤ 8) else decide (n = k)
theorem vcount_eq {k n : Int} (h : 1 ≤ k) (h' : k ≤ 3) : vcountR k n = vcount k n := by
  unfold vcount vcountR
  by_cases h1 : k = 1
  · subst h1; rfl
  · by_cases h2 : k = 2
    · subst h2; rfl
    · rw [if_pos (by omega), if_neg h1, if_neg h2]
def oor (x : Int) : Bool := decide (x < -1048576) || decide (1048576 < x)
theorem oor_inr (x y : Int) : (oor x || oor y) = !inr x y := by
  unfold oor inr; rw [Bool.eq_iff_iff]; simp; omega
def sradB (k r : Int) : Bool := (decide (k = 3) && !decide (r = 0)) || (!decide (k = 3) && (decide (r < 2048) || decide (524288 < r)))
def scapB (k : Int) (ps : List (Int × Int)) : Bool := decide (k = 2) && decide (vlen (fsub (vx ps 1) (vx ps 0)) (fsub (vy ps 1) (vy ps 0)) < 4096)
def spolB (k : Int) (ps : List (Int × Int)) : Bool := decide (k = 3) && (!convex ps || decide (shortest ps < 4096) || decide (area ps < 256))
/-- the number of a shape's error. -/
def sval (k r : Int) (ps : List (Int × Int)) : Int :=
  if k < 1 ∨ 3 < k then 10 else if vcount k ps.length = false then 11 else if allIR ps = false then 6 else if sradB k r = true then 6
  else if scapB k ps = true then 12 else if spolB k ps = true then 12 else 0
end Go.Carom
