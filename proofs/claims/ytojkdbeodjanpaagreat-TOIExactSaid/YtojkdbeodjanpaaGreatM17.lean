/-
  The plain law of a shape's distance from its own points. Conditions: none; no program in sight.
-/
import Derived.Test.YtojkdbeodjanpaaGreatM13
set_option linter.all false
namespace Go.Carom
open Go Go.AL

theorem imin_le (a b : Int) : imin a b ≤ a ∧ imin a b ≤ b ∧ (imin a b = a ∨ imin a b = b) := by unfold imin; split <;> omega
theorem imax_ge (a b : Int) : a ≤ imax a b ∧ b ≤ imax a b ∧ (imax a b = a ∨ imax a b = b) := by unfold imax; split <;> omega
theorem seg2_aa (ax ay bx byy : Int) : seg2 ax ay bx byy ax ay ax ay = true := by
  unfold seg2 boverlaps bvalid bover vsatd
  have h1 := imin_le (sat ax) (sat bx)
  have h2 := imin_le (sat ay) (sat byy)
  have h3 := imax_ge (sat ax) (sat bx)
  have h4 := imax_ge (sat ay) (sat byy)
  have s1 := sat_le ax
  have s2 := sat_ge ax
  have s3 := sat_le ay
  have s4 := sat_ge ay
  have s5 := sat_le bx
  have s6 := sat_ge bx
  have s7 := sat_le byy
  have s8 := sat_ge byy
  have q1 : sat (imin (sat ax) (sat bx)) = imin (sat ax) (sat bx) := sat_id (by omega) (by omega)
  have q2 : sat (imin (sat ay) (sat byy)) = imin (sat ay) (sat byy) := sat_id (by omega) (by omega)
  have q3 : sat (imax (sat ax) (sat bx)) = imax (sat ax) (sat bx) := sat_id (by omega) (by omega)
  have q4 : sat (imax (sat ay) (sat byy)) = imax (sat ay) (sat byy) := sat_id (by omega) (by omega)
  simp only [imin_self, imax_self, sat_sat, q1, q2, q3, q4, Bool.and_eq_true, decide_eq_true_eq, and_true, true_and]
  clear q1 q2 q3 q4
  (repeat' apply And.intro) <;> omega
theorem seg2_bb (ax ay bx byy : Int) : seg2 ax ay bx byy bx byy bx byy = true := by
  unfold seg2 boverlaps bvalid bover vsatd
  have h1 := imin_le (sat ax) (sat bx)
  have h2 := imin_le (sat ay) (sat byy)
  have h3 := imax_ge (sat ax) (sat bx)
  have h4 := imax_ge (sat ay) (sat byy)
  have s1 := sat_le ax
  have s2 := sat_ge ax
  have s3 := sat_le ay
  have s4 := sat_ge ay
  have s5 := sat_le bx
  have s6 := sat_ge bx
  have s7 := sat_le byy
  have s8 := sat_ge byy
  have q1 : sat (imin (sat ax) (sat bx)) = imin (sat ax) (sat bx) := sat_id (by omega) (by omega)
  have q2 : sat (imin (sat ay) (sat byy)) = imin (sat ay) (sat byy) := sat_id (by omega) (by omega)
  have q3 : sat (imax (sat ax) (sat bx)) = imax (sat ax) (sat bx) := sat_id (by omega) (by omega)
  have q4 : sat (imax (sat ay) (sat byy)) = imax (sat ay) (sat byy) := sat_id (by omega) (by omega)
  simp only [imin_self, imax_self, sat_sat, q1, q2, q3, q4, Bool.and_eq_true, decide_eq_true_eq, and_true, true_and]
  clear q1 q2 q3 q4
  (repeat' apply And.intro) <;> omega
theorem seg2_ab (ax ay bx byy : Int) : seg2 ax ay bx byy ax ay bx byy = true := by
  unfold seg2 boverlaps bvalid bover vsatd
  have h1 := imin_le (sat ax) (sat bx)
  have h2 := imin_le (sat ay) (sat byy)
  have h3 := imax_ge (sat ax) (sat bx)
  have h4 := imax_ge (sat ay) (sat byy)
  have s1 := sat_le ax
  have s2 := sat_ge ax
  have s3 := sat_le ay
  have s4 := sat_ge ay
  have s5 := sat_le bx
  have s6 := sat_ge bx
  have s7 := sat_le byy
  have s8 := sat_ge byy
  have q1 : sat (imin (sat ax) (sat bx)) = imin (sat ax) (sat bx) := sat_id (by omega) (by omega)
  have q2 : sat (imin (sat ay) (sat byy)) = imin (sat ay) (sat byy) := sat_id (by omega) (by omega)
  have q3 : sat (imax (sat ax) (sat bx)) = imax (sat ax) (sat bx) := sat_id (by omega) (by omega)
  have q4 : sat (imax (sat ay) (sat byy)) = imax (sat ay) (sat byy) := sat_id (by omega) (by omega)
  simp only [q1, q2, q3, q4, Bool.and_eq_true, decide_eq_true_eq, and_true, true_and]
  clear q1 q2 q3 q4
  (repeat' apply And.intro) <;> omega
theorem orient_aba (ax ay bx byy : Int) : orient ax ay bx byy ax ay = 0 := by
  have : area2 ax ay bx byy ax ay = 0 := by unfold area2; rw [Int.sub_self, Int.sub_self, Int.mul_zero, Int.mul_zero]; rfl
  unfold orient; rw [this]; rfl
theorem orient_abb (ax ay bx byy : Int) : orient ax ay bx byy bx byy = 0 := by
  have : area2 ax ay bx byy bx byy = 0 := by unfold area2; rw [Int.mul_comm]; exact Int.sub_self _
  unfold orient; rw [this]; rfl
theorem sdist_aa (ax ay bx byy : Int) : sdist ax ay bx byy ax ay ax ay = 0 := by
  have : segx ax ay bx byy ax ay ax ay = true := by
    unfold segx; rw [orient_aba, orient_aba, seg2_aa, Int.zero_mul, Int.zero_mul]; rfl
  exact if_pos this
theorem sdist_bb (ax ay bx byy : Int) : sdist ax ay bx byy bx byy bx byy = 0 := by
  have : segx ax ay bx byy bx byy bx byy = true := by
    unfold segx; rw [orient_abb, orient_abb, seg2_bb, Int.zero_mul, Int.mul_zero]; rfl
  exact if_pos this
theorem sdist_ab (ax ay bx byy : Int) : sdist ax ay bx byy ax ay bx byy = 0 := by
  have : segx ax ay bx byy ax ay bx byy = true := by
    unfold segx; rw [orient_aba, orient_abb, seg2_ab, Int.zero_mul]; rfl
  exact if_pos this
theorem qsd_self (s : Q4) : qsd s s = 0 := sdist_ab _ _ _ _
theorem closest_le {us vs : List Q4} {i j : Nat} (hi : i < us.length) (hj : j < vs.length) : closest us vs ≤ qsd (us.getD i Q4.d0) (vs.getD j Q4.d0) :=
  (le_closest.1 (Int.le_refl _)).2 i hi j hj
theorem spans_pos {k r : Int} {ps : List (Int × Int)} {px py a : Int} (hv : sval k r ps = 0) : 0 < (spans k (core k r ps px py a)).length := by
  have ok := sval_ok hv
  have h1 := ok.k1
  have h3 := ok.k3
  unfold spans
  split
  · simp
  · split
    · simp
    · split
      · rw [List.length_map, List.length_range]; exact core_pos.2 hv
      · omega
section
variable {k r : Int} {ps : List (Int × Int)} (px py a : Int)
/-- a shape is at distance 0 from itself. -/
theorem sepn_self (hv : sval k r ps = 0) : sepn k r ps px py a k r ps px py a = 0 := by
  have r0 := (sval_ok hv).r0
  unfold sepn
  rw [if_neg (by rw [hv]; simp)]
  have hp := spans_pos (px := px) (py := py) (a := a) hv
  have hb := closest_bd (spans k (core k r ps px py a)) (spans k (core k r ps px py a))
  have hc := closest_le hp hp
  rw [qsd_self] at hc
  rw [fsub2 hb.1 hb.2 r0.1 r0.2 r0.1 r0.2]
  generalize closest _ _ = C at *
  have e : imax 0 (C - r - r) = 0 := by unfold imax; split <;> omega
  rw [e]
  split <;> rfl
/-- and from the points of its core. -/
theorem topt_own (hv : sval k r ps = 0) {i : Nat} (hi : i < (core k r ps px py a).length) : topt k r ps px py a (vx (core k r ps px py a) i) (vy (core k r ps px py a) i) = 0 := by
  have ok := sval_ok hv
  have r0 := ok.r0
  have l1 := core_len_if (px := px) (py := py) (a := a) hv
  unfold topt
  rw [if_neg (by rw [hv]; simp)]
  have hc : closest (spans k (core k r ps px py a)) [⟨vx (core k r ps px py a) i, vy (core k r ps px py a) i, vx (core k r ps px py a) i, vy (core k r ps px py a) i⟩] ≤ 0 := by
    have h1 := ok.k1
    have h3 := ok.k3
    by_cases e1 : k = 1
    · subst e1
      have := ok.n1 rfl
      have hi0 : i = 0 := by omega
      subst hi0
      refine Int.le_trans (closest_le (i := 0) (j := 0) (by simp [spans]) (by simp)) ?_
      show sdist _ _ _ _ _ _ _ _ ≤ 0
      exact Int.le_of_eq (sdist_aa _ _ _ _)
    · by_cases e2 : k = 2
      · subst e2
        have := ok.n2 rfl
        refine Int.le_trans (closest_le (i := 0) (j := 0) (by simp [spans]) (by simp)) ?_
        by_cases hi0 : i = 0
        · subst hi0; exact Int.le_of_eq (sdist_aa _ _ _ _)
        · have hi1 : i = 1 := by omega
          subst hi1; exact Int.le_of_eq (sdist_bb _ _ _ _)
      · have e3 : k = 3 := by omega
        subst e3
        generalize core 3 r ps px py a = c at *
        have hs : spans 3 c = (List.range c.length).map (span1 c) := rfl
        refine Int.le_trans (closest_le (i := i) (j := 0) (by rw [hs]; simpa using hi) (by simp)) ?_
        have : (spans 3 c).getD i Q4.d0 = span1 c i := by rw [hs]; simp only [List.getD_eq_getElem?_getD, List.getElem?_map, List.getElem?_range hi, Option.map_some, Option.getD_some]
        rw [this]
        exact Int.le_of_eq (sdist_aa _ _ _ _)
  have hb := closest_bd (spans k (core k r ps px py a)) [⟨vx (core k r ps px py a) i, vy (core k r ps px py a) i, vx (core k r ps px py a) i, vy (core k r ps px py a) i⟩]
  rw [fsub1 hb.1 hb.2 r0.1 r0.2]
  generalize closest _ _ = C at *
  split
  · rfl
  · unfold imax; split <;> omega
theorem topt_in (hv : sval k r ps = 0) {x y : Int} (h : shC (core k r ps px py a) r x y = true) : topt k r ps px py a x y = 0 := by
  unfold topt; rw [if_neg (by rw [hv]; simp), if_pos h]
theorem topt_no (hv : ¬ sval k r ps = 0) {x y : Int} : topt k r ps px py a x y = 536870911 := if_pos hv
end
end Go.Carom
