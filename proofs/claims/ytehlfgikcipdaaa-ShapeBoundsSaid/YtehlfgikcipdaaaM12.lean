/-
  The plain law of rays: what a cast's answer looks like. Conditions: none; no program in sight.
-/
import Derived.Test.YtehlfgikcipdaaaM9
set_option linter.all false
namespace Go.Carom
open Go Go.AL

/-- an answer: a fraction from 0 to 1 where it hits, nothing else where it does not. -/
def Hit.Ok (h : Hit) : Prop := (h.ok = true → 0 ≤ h.t ∧ h.t ≤ 65536) ∧ (h.ok = false → h = Hit.no)
theorem hit_no : Hit.no.Ok := ⟨fun h => Bool.noConfusion h, fun _ => rfl⟩
theorem rdiv_mono0 {n d : Int} (hd : 1 ≤ d) (hd' : d ≤ 4611686018427387904) (h0 : 0 ≤ n) (h1 : n ≤ 4611686018427387904) : 0 ≤ rdiv n d := by
  unfold rdiv
  rw [if_neg (by omega)]
  have h2 := Int.tmod_nonneg d h0
  have h3 := Int.tmod_lt_of_pos n (by omega : 0 < d)
  have h4 : 0 ≤ n.tdiv d := by rw [Int.tdiv_eq_ediv_of_nonneg h0]; exact Int.ediv_nonneg h0 (by omega)
  generalize n.tdiv d = q at *
  generalize n.tmod d = m at *
  split
  · omega
  · split <;> omega
/-- a quotient of what is at most m times the divisor is at most m. -/
theorem rdiv_le {n d m : Int} (hd : 1 ≤ d) (hd' : d ≤ 4611686018427387904) (h0 : 0 ≤ n) (h1 : n ≤ 4611686018427387904) (hm : 0 ≤ m) (h : n ≤ m * d) : rdiv n d ≤ m := by
  unfold rdiv
  rw [if_neg (by omega)]
  have h2 := Int.tmod_nonneg d h0
  have h3 := Int.tmod_lt_of_pos n (by omega : 0 < d)
  have h5 := Int.tmod_add_tdiv_mul n d
  generalize n.tdiv d = q at *
  generalize n.tmod d = r at *
  have hq : q ≤ m := by
    apply Int.le_of_not_gt
    intro hc
    have : (m + 1) * d ≤ q * d := Int.mul_le_mul_of_nonneg_right (by omega) (by omega)
    rw [Int.add_mul, Int.one_mul] at this
    omega
  split
  · rename_i hr
    by_cases e : q = m
    · subst e; omega
    · omega
  · split <;> omega
theorem frat_bd (n d : Int) : 0 ≤ frat n d ∧ frat n d ≤ 65536 := by
  by_cases h0 : d < 1 ∨ 4611686018427387904 < d ∨ n < 1
  · rw [frat_0 h0]; omega
  · by_cases h1 : d ≤ n
    · rw [frat_1 h0 h1]; omega
    · by_cases h2 : d < 70368744177664
      · rw [frat_2 h0 h1 h2]
        exact ⟨rdiv_mono0 (by omega) (by omega) (by omega) (by omega), rdiv_le (by omega) (by omega) (by omega) (by omega) (by omega) (by omega)⟩
      · rw [frat_3 h0 h1 h2]
        have h3 : 1 ≤ rdiv d 65536 := by
          unfold rdiv
          rw [if_neg (by omega), Int.tdiv_eq_ediv_of_nonneg (by omega)]
          have := Int.tmod_nonneg 65536 (by omega : 0 ≤ d)
          split
          · omega
          · split <;> omega
        have h4 := rdiv_bd d 65536
        have h5 : rdiv d 65536 ≤ 4611686018427387904 := rdiv_le (by omega) (by omega) (by omega) (by omega) (by omega) (by omega)
        have := rdiv_mono0 (n := n) (d := rdiv d 65536) h3 h5 (by omega) (by omega)
        unfold imin
        split <;> omega
theorem rcirc_ok (cx cy r fx fy tx ty : Int) : (rcirc cx cy r fx fy tx ty).Ok := by
  unfold rcirc
  split
  · exact hit_no
  · split
    · exact hit_no
    · exact ⟨fun _ => frat_bd _ _, fun h => Bool.noConfusion h⟩
theorem rpol_ok (c : List (Int × Int)) (fx fy tx ty : Int) : (rpol c fx fy tx ty).Ok := by
  unfold rpol
  split
  · split
    · exact hit_no
    · rename_i h
      refine ⟨fun _ => ?_, fun h => Bool.noConfusion h⟩
      unfold pMiss at h
      simp only [Bool.or_eq_true, decide_eq_true_eq, not_or] at h
      exact ⟨by show 0 ≤ (pSt c fx fy tx ty c.length).en; omega, by show (pSt c fx fy tx ty c.length).en ≤ 65536; omega⟩
  · exact hit_no
theorem hmin_ok {a b : Hit} (ha : a.Ok) (hb : b.Ok) : (hmin a b).Ok := by
  unfold hmin; split
  · exact hb
  · exact ha
theorem rcast_ok (k r : Int) (c : List (Int × Int)) (fx fy tx ty : Int) : (rcast k r c fx fy tx ty).Ok := by
  unfold rcast
  split
  · exact hit_no
  · split
    · exact ⟨fun _ => ⟨Int.le_refl 0, by show (0 : Int) ≤ 65536; omega⟩, fun h => Bool.noConfusion h⟩
    · split
      · exact rcirc_ok _ _ _ _ _ _ _
      · split
        · exact hmin_ok (hmin_ok (rcirc_ok _ _ _ _ _ _ _) (rcirc_ok _ _ _ _ _ _ _)) (rpol_ok _ _ _ _ _)
        · exact rpol_ok _ _ _ _ _
theorem rcast_no {k r : Int} {c : List (Int × Int)} {fx fy tx ty : Int} (h : (rcast k r c fx fy tx ty).ok = false) : rcast k r c fx fy tx ty = Hit.no := (rcast_ok k r c fx fy tx ty).2 h
theorem rcast_bd (k r : Int) (c : List (Int × Int)) (fx fy tx ty : Int) : 0 ≤ (rcast k r c fx fy tx ty).t ∧ (rcast k r c fx fy tx ty).t ≤ 65536 := by
  cases h : (rcast k r c fx fy tx ty).ok with
  | true => exact (rcast_ok k r c fx fy tx ty).1 h
  | false => rw [rcast_no h]; exact ⟨Int.le_refl 0, by show (0 : Int) ≤ 65536; omega⟩
theorem core_of_shC {k r : Int} {ps : List (Int × Int)} {px py a x y : Int} (h : shC (core k r ps px py a) r x y = true) : ¬ (core k r ps px py a).length = 0 := by
  intro h0
  unfold shC at h
  rw [if_pos h0] at h
  cases h
theorem rcast_in {k r : Int} {c : List (Int × Int)} {fx fy tx ty : Int} (h0 : ¬ c.length = 0) (h : shC c r fx fy = true) : rcast k r c fx fy tx ty = ⟨0, 0, 0, true⟩ := by
  unfold rcast; rw [if_neg h0, if_pos h]
theorem core_of_ok {k r : Int} {ps : List (Int × Int)} {px py a fx fy tx ty : Int} (h : (rcast k r (core k r ps px py a) fx fy tx ty).ok = true) : sval k r ps = 0 := by
  refine (core_pos (px := px) (py := py) (a := a)).1 (Nat.pos_of_ne_zero fun h0 => ?_)
  have e : rcast k r (core k r ps px py a) fx fy tx ty = Hit.no := if_pos h0
  rw [e] at h
  cases h

/-! ### rays of no length -/
theorem fsub_self (a : Int) : fsub a a = 0 := by unfold fsub; rw [Int.sub_self]; rfl
theorem isqrt_zero : isqrt 0 = 0 := by kernel_rfl
theorem vlen_zero : vlen 0 0 = 0 := by unfold vlen; rw [sat_zero]; exact isqrt_zero
theorem vdot_zero (x y : Int) : vdot x y 0 0 = 0 := by unfold vdot; rw [sat_zero, Int.mul_zero, Int.mul_zero]; decide
theorem rcirc_zero (cx cy r x y : Int) : rcirc cx cy r x y x y = Hit.no := by
  refine if_pos ?_
  have : rln x y x y = 0 := by unfold rln rdx rdy; rw [fsub_self, fsub_self]; exact vlen_zero
  unfold rmiss
  rw [this]; rfl
theorem pY_zero (c : List (Int × Int)) (x y : Int) (i : Nat) : pY c x y x y i = 0 := by unfold pY rdx rdy; rw [fsub_self, fsub_self]; exact vdot_zero _ _
theorem pSt_zero (c : List (Int × Int)) (x y : Int) (i : Nat) : pSt c x y x y i = ⟨0, 0, -1, false⟩ := by
  induction i with
  | zero => rfl
  | succ i ih => rw [pSt, pStep, pY_zero, if_neg (by omega), if_neg (by omega), ih]
theorem rpol_zero (c : List (Int × Int)) (x y : Int) : rpol c x y x y = Hit.no := by
  unfold rpol
  split
  · refine if_pos ?_
    rw [pSt_zero]; rfl
  · rfl
theorem rcast_zero (k r : Int) (c : List (Int × Int)) (x y : Int) : rcast k r c x y x y = if shC c r x y = true then ⟨0, 0, 0, true⟩ else Hit.no := by
  unfold rcast
  by_cases h0 : c.length = 0
  · rw [if_pos h0]
    have : shC c r x y = false := by unfold shC; rw [if_pos h0]
    rw [this]; rfl
  · rw [if_neg h0]
    by_cases h : shC c r x y = true
    · rw [if_pos h, if_pos h]
    · rw [if_neg h, if_neg h]
      split
      · exact rcirc_zero _ _ _ _ _
      · split
        · unfold rcap; rw [rcirc_zero, rcirc_zero, rpol_zero]; rfl
        · exact rpol_zero _ _ _
end Go.Carom
