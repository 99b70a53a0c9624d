/-
  The plain law of turns: how long a turned vector is, and the area of a polygon that is turned and rounded. Conditions: none; no program in sight.
-/
import Derived.Test.YtehlfgikcipdaaaM18
set_option linter.all false
namespace Go.Carom
open Go Go.AL

/-! ### sines -/
theorem rdiv_spec {n d : Int} (hd : 1 ≤ d) (hd' : d ≤ 4611686018427387904) (h : -4611686018427387904 ≤ n) (h' : n ≤ 4611686018427387904) : 2 * (rdiv n d * d) ≤ 2 * n + d ∧ 2 * n - d ≤ 2 * (rdiv n d * d) := by
  unfold rdiv
  rw [if_neg (by omega)]
  have h2 := tmod_bd (n := n) (d := d) hd
  have h5 := Int.tmod_add_tdiv_mul n d
  generalize n.tdiv d = q at *
  generalize n.tmod d = r at *
  split
  · rw [Int.add_mul, Int.one_mul]; omega
  · split
    · rw [Int.sub_mul, Int.one_mul]; omega
    · omega
theorem fdiv_q {x : Int} (h : 0 ≤ x) (h' : x ≤ 102944) : fdiv x 102944 = rdiv (x * 65536) 102944 ∧ 0 ≤ rdiv (x * 65536) 102944 ∧ rdiv (x * 65536) 102944 ≤ 65536 ∧ (51472 ≤ x → 32768 ≤ rdiv (x * 65536) 102944) := by
  have hs := rdiv_spec (n := x * 65536) (d := 102944) (by omega) (by omega) (by omega) (by omega)
  have h1 : sat 102944 = 102944 := by decide
  unfold fdiv
  rw [h1, if_neg (by omega), if_neg (by omega), sat_id (x := x) (by omega) (by omega)]
  generalize rdiv (x * 65536) 102944 = q at *
  rw [sat_id (by omega) (by omega)]
  exact ⟨rfl, by omega, by omega, fun _ => by omega⟩
theorem fmul_q {a b A B : Int} (ha : 0 ≤ a) (ha' : a ≤ A) (hb : 0 ≤ b) (hb' : b ≤ B) (hA : A ≤ 131072) (hB : B ≤ 131072) : fmul a b = rdiv (a * b) 65536 ∧ 0 ≤ a * b ∧ a * b ≤ A * B ∧ 2 * (rdiv (a * b) 65536 * 65536) ≤ 2 * (a * b) + 65536 ∧ 2 * (a * b) - 65536 ≤ 2 * (rdiv (a * b) 65536 * 65536) := by
  have h0 : 0 ≤ a * b := Int.mul_nonneg ha hb
  have h1 : a * b ≤ A * B := Int.mul_le_mul ha' hb' hb (by omega)
  have h2 : A * B ≤ 131072 * 131072 := Int.mul_le_mul hA hB (by omega) (by omega)
  have hs := rdiv_spec (n := a * b) (d := 65536) (by omega) (by omega) (by omega) (by omega)
  unfold fmul
  rw [sat_id (x := a) (by omega) (by omega), sat_id (x := b) (by omega) (by omega)]
  generalize rdiv (a * b) 65536 = q at *
  rw [sat_id (by omega) (by omega)]
  exact ⟨rfl, h0, h1, hs⟩
/-- a sine of the first quarter. -/
theorem sinq_q {x : Int} (h : 0 ≤ x) (h' : x ≤ 102944) : 0 ≤ sinq x ∧ sinq x ≤ 102873 ∧ (51472 ≤ x → 30483 ≤ sinq x) := by
  obtain ⟨e1, t0, t1, t2⟩ := fdiv_q h h'
  unfold sinq
  rw [e1]
  generalize rdiv (x * 65536) 102944 = t at *
  obtain ⟨e2, p0, p1, p2, p3⟩ := fmul_q t0 t1 t0 t1 (by omega) (by omega)
  rw [e2]
  generalize t * t = tt at *
  generalize rdiv tt 65536 = q at *
  obtain ⟨e3, q0, q1, q2, q3⟩ := fmul_q (a := q) (b := 4569) (A := 65536) (B := 4569) (by omega) (by omega) (by omega) (by omega) (by omega) (by omega)
  rw [e3]
  generalize hw : rdiv (q * 4569) 65536 = w at *
  have e4 : fsub 41906 w = 41906 - w := by unfold fsub; rw [sat_id (x := w) (by omega) (by omega), sat_id (x := 41906) (by omega) (by omega), sat_id (by omega) (by omega)]
  rw [e4]
  obtain ⟨e5, r0, r1, r2, r3⟩ := fmul_q (a := q) (b := 41906 - w) (A := 65536) (B := 41906) (by omega) (by omega) (by omega) (by omega) (by omega) (by omega)
  rw [e5]
  generalize q * (41906 - w) = qw at *
  generalize rdiv qw 65536 = z at *
  have e6 : fsub 102873 z = 102873 - z := by unfold fsub; rw [sat_id (x := z) (by omega) (by omega), sat_id (x := 102873) (by omega) (by omega), sat_id (by omega) (by omega)]
  rw [e6]
  obtain ⟨e7, s0, s1, s2, s3⟩ := fmul_q (a := t) (b := 102873 - z) (A := 65536) (B := 102873) (by omega) (by omega) (by omega) (by omega) (by omega) (by omega)
  rw [e7]
  have s4 : 51472 ≤ x → 32768 * 60967 ≤ t * (102873 - z) := fun hx => Int.mul_le_mul (t2 hx) (by omega) (by omega) t0
  generalize t * (102873 - z) = tz at *
  generalize rdiv tz 65536 = y at *
  exact ⟨by omega, by omega, fun hx => by have := s4 hx; omega⟩
/-- the sine or the cosine of an angle is not small. -/
theorem sc_big (a : Int) : (-102873 ≤ asin a ∧ asin a ≤ 102873) ∧ (-102873 ≤ acos a ∧ acos a ≤ 102873) ∧ (30483 ≤ asin a ∨ asin a ≤ -30483 ∨ 30483 ≤ acos a ∨ acos a ≤ -30483) := by
  have hm := nabs_bd a
  have hz : anorm (102944 - nabs a) = 102944 - nabs a := by
    unfold anorm
    generalize nabs a = m at *
    have : (102944 - m).tmod 411776 = 102944 - m := by
      rcases Int.le_total 0 (102944 - m) with h | h
      · exact Int.tmod_eq_of_lt h (by omega)
      · have e : (102944 - m).tmod 411776 = -((-(102944 - m)).tmod 411776) := by rw [Int.neg_tmod]; omega
        rw [e, Int.tmod_eq_of_lt (by omega) (by omega)]; omega
    rw [this, if_neg (by omega), if_neg (by omega)]
  have hn : nabs (102944 - nabs a) = if 102944 - nabs a < 0 then -(102944 - nabs a) else 102944 - nabs a := by
    show (if anorm (102944 - nabs a) < 0 then -anorm (102944 - nabs a) else anorm (102944 - nabs a)) = _
    rw [hz]
  have hc : acos a = asin (102944 - nabs a) := rfl
  have q1 := sinq_q (x := if 102944 < nabs a then 205888 - nabs a else nabs a) (by split <;> omega) (by split <;> omega)
  rw [hc]
  unfold asin
  rw [hz, hn]
  generalize hN : nabs a = m at *
  have q2 := sinq_q (x := if 102944 - m < 0 then -(102944 - m) else 102944 - m) (by split <;> omega) (by split <;> omega)
  have hle : ¬ 102944 < (if 102944 - m < 0 then -(102944 - m) else 102944 - m) := by split <;> omega
  rw [if_neg hle]
  have hor : 51472 ≤ (if 102944 < m then 205888 - m else m) ∨ 51472 ≤ (if 102944 - m < 0 then -(102944 - m) else 102944 - m) := by split <;> split <;> omega
  generalize sinq (if 102944 < m then 205888 - m else m) = S at *
  generalize sinq (if 102944 - m < 0 then -(102944 - m) else 102944 - m) = T at *
  refine ⟨by split <;> omega, by split <;> omega, ?_⟩
  rcases hor with h | h
  · have := q1.2.2 h; split <;> omega
  · have := q2.2.2 h
    by_cases c : 102944 - m < 0
    · rw [if_pos c]; omega
    · rw [if_neg c]; omega
end Go.Carom
