/-
  The segments of a core, as the reference lays them: their first points and their last points. Conditions: none; no program in sight.
-/
import Derived.Test.YtojkdbeodjanpaaGreatM8
set_option linter.all false
namespace Go.Carom
open Go Go.AL

def rot1 (c : List (Int × Int)) (i : Nat) : Int × Int := (vx c ((i + 1) % c.length), vy c ((i + 1) % c.length))
def segA (k : Int) (c : List (Int × Int)) : List (Int × Int) := if k = 2 then c.take 1 else c
def segB (k : Int) (c : List (Int × Int)) : List (Int × Int) := if k = 2 then c.drop 1 else (List.range c.length).map (rot1 c)
theorem len_two {α : Type} {c : List α} (h : c.length = 2) : ∃ v w, c = [v, w] := by
  match c, h with
  | [v, w], _ => exact ⟨v, w, rfl⟩
/-- two rows of points, as a row of segments. -/
structure SegOk (us : List Q4) (A B : List (Int × Int)) : Prop where
  la : A.length = us.length
  lb : B.length = us.length
  h : ∀ i, i < us.length → us.getD i Q4.d0 = ⟨vx A i, vy A i, vx B i, vy B i⟩
theorem segok {k : Int} {c : List (Int × Int)} (hk : 1 ≤ k ∧ k ≤ 3) (h1 : k = 1 → c.length = 1) (h2 : k = 2 → c.length = 2) : SegOk (spans k c) (segA k c) (segB k c) := by
  by_cases e1 : k = 1
  · subst e1
    obtain ⟨v, rfl⟩ := List.length_eq_one_iff.1 (h1 rfl)
    refine ⟨rfl, by simp [segB, spans], fun i hi => ?_⟩
    have : i = 0 := Nat.lt_one_iff.1 hi
    subst this; simp [spans, segA, segB, rot1, vx, vy]
  · by_cases e2 : k = 2
    · subst e2
      obtain ⟨v, w, rfl⟩ := len_two (h2 rfl)
      refine ⟨rfl, rfl, fun i hi => ?_⟩
      have : i = 0 := Nat.lt_one_iff.1 hi
      subst this; simp [spans, segA, segB, rot1, vx, vy]
    · have e3 : k = 3 := by omega
      subst e3
      have hs : spans 3 c = (List.range c.length).map (span1 c) := rfl
      have hA : segA 3 c = c := rfl
      have hB : segB 3 c = (List.range c.length).map (rot1 c) := rfl
      rw [hs, hA, hB]
      refine ⟨by simp, by simp, fun i hi => ?_⟩
      have hi' : i < c.length := by simpa using hi
      simp only [vx, vy, List.getD_eq_getElem?_getD, List.getElem?_map, List.getElem?_range hi', Option.map_some, Option.getD_some]
      rfl
theorem clJ_succ {us vs : List Q4} {A B A' B' : List (Int × Int)} (h : SegOk us A B) (h' : SegOk vs A' B') {i j : Nat} (hi : i < us.length) (hj : j < vs.length) (m : Int) :
    imin (clJ (us.getD i Q4.d0) vs m j) (sdist (vx A i) (vy A i) (vx B i) (vy B i) (vx A' j) (vy A' j) (vx B' j) (vy B' j)) = clJ (us.getD i Q4.d0) vs m (j + 1) := by
  rw [clJ, h.h i hi, h'.h j hj]; rfl
theorem clI_pt {us : List Q4} {A B : List (Int × Int)} (h : SegOk us A B) {i : Nat} (hi : i < us.length) (x y : Int) :
    imin (clI us [⟨x, y, x, y⟩] i) (sdist (vx A i) (vy A i) (vx B i) (vy B i) x y x y) = clI us [⟨x, y, x, y⟩] (i + 1) := by
  rw [clI]
  show _ = imin _ (qsd (us.getD i Q4.d0) ⟨x, y, x, y⟩)
  rw [h.h i hi]; rfl
end Go.Carom
