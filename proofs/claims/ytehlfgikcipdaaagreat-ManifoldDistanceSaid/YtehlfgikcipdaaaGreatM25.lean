/-
  The plain law of the manifold of a circle whose center lies in a shape: it touches. Conditions: none; no program in sight.
-/
import Derived.Test.YtehlfgikcipdaaaGreatMB
import Derived.Test.YtehlfgikcipdaaaGreatMA
set_option linter.all false
namespace Go.Carom
open Go Go.AL

/-! ### around a polygon -/
theorem cyc_cross {n : Nat} {Q : Nat → Prop} {k1 : Nat} (h1 : k1 < n) (hq : ¬ Q k1) : ∀ d, Q ((k1 + d) % n) → ∃ m, m < n ∧ ¬ Q m ∧ Q ((m + 1) % n) := by
  intro d
  induction d with
  | zero => intro h; rw [Nat.add_zero, Nat.mod_eq_of_lt h1] at h; exact absurd h hq
  | succ d ih =>
    intro h
    by_cases hd : Q ((k1 + d) % n)
    · exact ih hd
    · refine ⟨(k1 + d) % n, Nat.mod_lt _ (by omega), hd, ?_⟩
      rw [Nat.mod_add_mod]; exact h
theorem cyc_cross2 {n : Nat} {Q : Nat → Prop} {k1 k2 : Nat} (h1 : k1 < n) (h2 : k2 < n) (hq : ¬ Q k1) (hq2 : Q k2) : ∃ m, m < n ∧ ¬ Q m ∧ Q ((m + 1) % n) :=
  cyc_cross h1 hq (n - k1 + k2) (by rw [show k1 + (n - k1 + k2) = k2 + n by omega, Nat.add_mod_right, Nat.mod_eq_of_lt h2]; exact hq2)
/-- somewhere it goes up through 0. -/
theorem cyc_up0 {n : Nat} {f : Nat → Int} {k1 k2 I : Nat} (h1 : k1 < n) (h2 : k2 < n) (hI : I < n) (g1 : f k1 ≤ 0) (g2 : 0 ≤ f k2) (gI : f I < f ((I + 1) % n)) : ∃ m, m < n ∧ f m ≤ 0 ∧ 0 ≤ f ((m + 1) % n) ∧ f m < f ((m + 1) % n) := by
  by_cases hneg : ∃ k, k < n ∧ f k < 0
  · obtain ⟨k, hk, hk'⟩ := hneg
    obtain ⟨m, hm, a, b⟩ := cyc_cross2 (Q := fun i => 0 ≤ f i) hk h2 (by omega) g2
    exact ⟨m, hm, by omega, b, by omega⟩
  · have hp : 0 < f ((I + 1) % n) := by
      have : 0 ≤ f I := Int.not_lt.1 fun h => hneg ⟨I, hI, h⟩
      omega
    obtain ⟨m, hm, a, b⟩ := cyc_cross2 (Q := fun i => 0 < f i) h1 (Nat.mod_lt _ (by omega) : (I + 1) % n < n) (by omega) hp
    exact ⟨m, hm, by omega, by omega, by omega⟩

/-! ### the closest point of an edge -/
theorem sq_nn (x : Int) : 0 ≤ x * x := by
  rcases Int.le_total 0 x with h | h
  · exact Int.mul_nonneg h h
  · have := Int.mul_nonneg (Int.neg_nonneg.2 h) (Int.neg_nonneg.2 h)
    rwa [Int.neg_mul_neg] at this
theorem le_of_mul_sq {a b B : Int} (hB : 0 < B) (h : B * B * a ≤ B * B * b) : a ≤ b := Int.le_of_mul_le_mul_left h (Int.mul_pos hB hB)
/-- a vector that is short where the scale is B. -/
theorem near_ends {qx qy Ex Ey A B K : Int} (hA : 0 ≤ A) (hAB : A ≤ B) (hB : 0 < B) (hW : (B * qx - A * Ex) * (B * qx - A * Ex) + (B * qy - A * Ey) * (B * qy - A * Ey) ≤ K * (B * B)) :
    (qx * Ex + qy * Ey ≤ 0 → qx * qx + qy * qy ≤ K) ∧ (Ex * Ex + Ey * Ey ≤ qx * Ex + qy * Ey → (qx - Ex) * (qx - Ex) + (qy - Ey) * (qy - Ey) ≤ K) ∧
      (Ex * qy - Ey * qx) * (Ex * qy - Ey * qx) ≤ K * (Ex * Ex + Ey * Ey) := by
  refine ⟨fun hn => ?_, fun hn => ?_, ?_⟩
  · refine le_of_mul_sq hB ?_
    have h1 := Int.mul_nonneg (Int.mul_nonneg hA (Int.le_of_lt hB)) (Int.neg_nonneg.2 hn)
    have h2 := Int.mul_nonneg (sq_nn A) (Int.add_nonneg (sq_nn Ex) (sq_nn Ey))
    have e : (B * qx - A * Ex) * (B * qx - A * Ex) + (B * qy - A * Ey) * (B * qy - A * Ey) = B * B * (qx * qx + qy * qy) + 2 * (A * B * -(qx * Ex + qy * Ey)) + A * A * (Ex * Ex + Ey * Ey) := by grind
    rw [e, Int.mul_comm K] at hW
    omega
  · refine le_of_mul_sq hB ?_
    have h1 := Int.mul_nonneg (Int.mul_nonneg (Int.sub_nonneg.2 hAB) (Int.le_of_lt hB)) (Int.sub_nonneg.2 hn)
    have h2 := Int.mul_nonneg (sq_nn (B - A)) (Int.add_nonneg (sq_nn Ex) (sq_nn Ey))
    have e : (B * qx - A * Ex) * (B * qx - A * Ex) + (B * qy - A * Ey) * (B * qy - A * Ey) = B * B * ((qx - Ex) * (qx - Ex) + (qy - Ey) * (qy - Ey)) + 2 * ((B - A) * B * (qx * Ex + qy * Ey - (Ex * Ex + Ey * Ey))) + (B - A) * (B - A) * (Ex * Ex + Ey * Ey) := by grind
    rw [e, Int.mul_comm K] at hW
    omega
  · refine le_of_mul_sq hB ?_
    have hd := Int.add_nonneg (sq_nn Ex) (sq_nn Ey)
    have h1 := Int.mul_le_mul_of_nonneg_right hW hd
    have h2 := sq_nn (Ex * (B * qx - A * Ex) + Ey * (B * qy - A * Ey))
    have e : ((B * qx - A * Ex) * (B * qx - A * Ex) + (B * qy - A * Ey) * (B * qy - A * Ey)) * (Ex * Ex + Ey * Ey) = B * B * ((Ex * qy - Ey * qx) * (Ex * qy - Ey * qx)) + (Ex * (B * qx - A * Ex) + Ey * (B * qy - A * Ey)) * (Ex * (B * qx - A * Ex) + Ey * (B * qy - A * Ey)) := by grind
    rw [e] at h1
    have e2 : K * (B * B) * (Ex * Ex + Ey * Ey) = B * B * (K * (Ex * Ex + Ey * Ey)) := by grind
    rw [e2] at h1
    omega
/-- between the ends: a rounded parameter, and rounded coordinates. -/
theorem near_mid {qx qy Ex Ey t fx fy K : Int} (hd : 0 < Ex * Ex + Ey * Ey) (hd' : Ex * Ex + Ey * Ey ≤ 35184372088832) (hK : K ≤ 4000000)
    (ht : 2 * (t * (Ex * Ex + Ey * Ey)) ≤ 2 * ((qx * Ex + qy * Ey) * 65536) + (Ex * Ex + Ey * Ey)) (ht' : 2 * ((qx * Ex + qy * Ey) * 65536) - (Ex * Ex + Ey * Ey) ≤ 2 * (t * (Ex * Ex + Ey * Ey)))
    (hx : -32768 ≤ 65536 * fx - Ex * t ∧ 65536 * fx - Ex * t ≤ 32768) (hy : -32768 ≤ 65536 * fy - Ey * t ∧ 65536 * fy - Ey * t ≤ 32768)
    (hc : (Ex * qy - Ey * qx) * (Ex * qy - Ey * qx) ≤ K * (Ex * Ex + Ey * Ey)) : (qx - fx) * (qx - fx) + (qy - fy) * (qy - fy) ≤ 9437184 := by
  have hV : 4 * ((65536 * qx - Ex * t) * (65536 * qx - Ex * t) + (65536 * qy - Ey * t) * (65536 * qy - Ey * t)) ≤ (Ex * Ex + Ey * Ey) + 4 * (4294967296 * K) := by
    refine Int.le_of_mul_le_mul_left (a := Ex * Ex + Ey * Ey) ?_ hd
    have h1 : (2 * (65536 * (qx * Ex + qy * Ey) - t * (Ex * Ex + Ey * Ey))) * (2 * (65536 * (qx * Ex + qy * Ey) - t * (Ex * Ex + Ey * Ey))) ≤ (Ex * Ex + Ey * Ey) * (Ex * Ex + Ey * Ey) := by
      have b : -(Ex * Ex + Ey * Ey) ≤ 2 * (65536 * (qx * Ex + qy * Ey) - t * (Ex * Ex + Ey * Ey)) ∧ 2 * (65536 * (qx * Ex + qy * Ey) - t * (Ex * Ex + Ey * Ey)) ≤ Ex * Ex + Ey * Ey := by omega
      have := mul_bd b.1 b.2 b.1 b.2
      exact this.2
    have e : (Ex * Ex + Ey * Ey) * (4 * ((65536 * qx - Ex * t) * (65536 * qx - Ex * t) + (65536 * qy - Ey * t) * (65536 * qy - Ey * t))) =
        (2 * (65536 * (qx * Ex + qy * Ey) - t * (Ex * Ex + Ey * Ey))) * (2 * (65536 * (qx * Ex + qy * Ey) - t * (Ex * Ex + Ey * Ey))) + 17179869184 * ((Ex * qy - Ey * qx) * (Ex * qy - Ey * qx)) := by grind
    have e2 : (Ex * Ex + Ey * Ey) * ((Ex * Ex + Ey * Ey) + 4 * (4294967296 * K)) = (Ex * Ex + Ey * Ey) * (Ex * Ex + Ey * Ey) + 17179869184 * (K * (Ex * Ex + Ey * Ey)) := by grind
    rw [e, e2]
    omega
  have key : ∀ a b e f v w : Int, 65536 * v = a - e → 65536 * w = b - f → (-32768 ≤ e ∧ e ≤ 32768) → (-32768 ≤ f ∧ f ≤ 32768) → 4294967296 * (v * v + w * w) ≤ 2 * (a * a + b * b) + 4294967296 := by
    intro a b e f v w h1 h2 he hf
    have m1 := (mul_bd (A := 32768) (B := 32768) he.1 he.2 he.1 he.2).2
    have m2 := (mul_bd (A := 32768) (B := 32768) hf.1 hf.2 hf.1 hf.2).2
    have s1 := sq_nn (a + e)
    have s2 := sq_nn (b + f)
    have e1 : 4294967296 * (v * v + w * w) = (65536 * v) * (65536 * v) + (65536 * w) * (65536 * w) := by grind
    rw [e1, h1, h2]
    have e2 : (a - e) * (a - e) + (b - f) * (b - f) = 2 * (a * a + b * b) + 2 * (e * e) + 2 * (f * f) - (a + e) * (a + e) - (b + f) * (b + f) := by grind
    rw [e2]
    omega
  have hk := key (65536 * qx - Ex * t) (65536 * qy - Ey * t) (65536 * fx - Ex * t) (65536 * fy - Ey * t) (qx - fx) (qy - fy) (by omega) (by omega) hx hy
  omega

/-! ### a point in a polygon is not beside it -/
theorem pol_not' {k r : Int} {ps : List (Int × Int)} {px py a x y : Int} (hv : sval k r ps = 0) (h3 : k = 3) (hp : -268435456 ≤ px ∧ px ≤ 268435456) (hq : -268435456 ≤ py ∧ py ≤ 268435456)
    (hc : polC (core k r ps px py a) x y = true) {u v : Int} (huv : 0 < u * u + v * v) : ∃ i, i < ps.length ∧ u * (sat x - vx (core k r ps px py a) i) + v * (sat y - vy (core k r ps px py a) i) ≤ 0 := by
  refine Classical.byContradiction fun hno => ?_
  have hA : ∀ i, i < ps.length → 0 < u * (sat x - vx (core k r ps px py a) i) + v * (sat y - vy (core k r ps px py a) i) := fun i hi => Int.not_le.1 fun h => hno ⟨i, hi, h⟩
  have hpos := fan_pos px py a hv h3 hp hq
  have hs := core_sat k r ps px py a
  have l1 := core_len_if (px := px) (py := py) (a := a) hv
  have hn := (sval_ok hv).n3 h3
  generalize core k r ps px py a = c at *
  unfold polC at hc
  rw [List.all_eq_true, l1] at hc
  have hAB : ∀ i j, (u * (sat x - vx c i) + v * (sat y - vy c i)) * (u * (sat y - vy c j) - v * (sat x - vx c j)) - (u * (sat x - vx c j) + v * (sat y - vy c j)) * (u * (sat y - vy c i) - v * (sat x - vx c i)) = (u * u + v * v) * ((sat x - vx c i) * (sat y - vy c j) - (sat x - vx c j) * (sat y - vy c i)) := fun i j => by grind
  have hor : ∀ i, i < ps.length → (u * (sat x - vx c ((i + 1) % ps.length)) + v * (sat y - vy c ((i + 1) % ps.length))) * (u * (sat y - vy c i) - v * (sat x - vx c i)) ≤ (u * (sat x - vx c i) + v * (sat y - vy c i)) * (u * (sat y - vy c ((i + 1) % ps.length)) - v * (sat x - vx c ((i + 1) % ps.length))) := fun i hi => by
    have h1 := hc i (List.mem_range.2 hi)
    have h2 := hAB i ((i + 1) % ps.length)
    unfold orE orient area2 at h1
    rw [l1, (hs i).1, (hs i).2, (hs _).1, (hs _).2] at h1
    have e : (vx c ((i + 1) % ps.length) - vx c i) * (sat y - vy c i) - (vy c ((i + 1) % ps.length) - vy c i) * (sat x - vx c i) = (sat x - vx c i) * (sat y - vy c ((i + 1) % ps.length)) - (sat x - vx c ((i + 1) % ps.length)) * (sat y - vy c i) := by grind
    rw [e] at h1
    have h0 : 0 ≤ (sat x - vx c i) * (sat y - vy c ((i + 1) % ps.length)) - (sat x - vx c ((i + 1) % ps.length)) * (sat y - vy c i) := by
      simp only [Bool.not_eq_true', decide_eq_false_iff_not] at h1
      split at h1
      · omega
      · split at h1
        · omega
        · omega
    have := Int.mul_nonneg (Int.le_of_lt huv) h0
    omega
  have hz := fan2_zero (X := vx c) (Y := vy c) (ps.length - 2) fun i hi => by
    have key : ∀ i j, i < ps.length → j < ps.length → (sat x - vx c i) * (sat y - vy c j) - (sat x - vx c j) * (sat y - vy c i) = 0 := fun i j hi hj => by
      have h0 := cyc (a := fun i => u * (sat x - vx c i) + v * (sat y - vy c i)) (b := fun i => u * (sat y - vy c i) - v * (sat x - vx c i)) hA hor hi hj
      have h1 := hAB i j
      rw [h0, Int.sub_self] at h1
      rcases Int.mul_eq_zero.1 h1.symm with e | e
      · omega
      · exact e
    have k1 := key 0 (i + 1) (by omega) (by omega)
    have k2 := key 0 (i + 1 + 1) (by omega) (by omega)
    have k3 := key (i + 1) (i + 1 + 1) (by omega) (by omega)
    unfold fan1
    have e : (vx c (i + 1) - vx c 0) * (vy c (i + 1 + 1) - vy c 0) - (vy c (i + 1) - vy c 0) * (vx c (i + 1 + 1) - vx c 0)
      = ((sat x - vx c 0) * (sat y - vy c (i + 1)) - (sat x - vx c (i + 1)) * (sat y - vy c 0)) - ((sat x - vx c 0) * (sat y - vy c (i + 1 + 1)) - (sat x - vx c (i + 1 + 1)) * (sat y - vy c 0)) + ((sat x - vx c (i + 1)) * (sat y - vy c (i + 1 + 1)) - (sat x - vx c (i + 1 + 1)) * (sat y - vy c (i + 1))) := by grind
    rw [e, k1, k2, k3]; rfl
  omega

/-! ### the core of a polygon -/
structure Turned (ps c : List (Int × Int)) (q : Int) : Prop where
  q0 : 4294836224 ≤ q
  cr : ∀ i j k, i < ps.length → j < ps.length → k < ps.length → q * ((vx ps j - vx ps i) * (vy ps k - vy ps i) - (vy ps j - vy ps i) * (vx ps k - vx ps i)) - 27021604206673920 ≤ 4294967296 * ((vx c j - vx c i) * (vy c k - vy c i) - (vy c j - vy c i) * (vx c k - vx c i))
  ln : ∀ i j, i < ps.length → j < ps.length → 3 * (q * ((vx ps j - vx ps i) * (vx ps j - vx ps i) + (vy ps j - vy ps i) * (vy ps j - vy ps i))) - 103079215104 ≤ 17179869184 * ((vx c j - vx c i) * (vx c j - vx c i) + (vy c j - vy c i) * (vy c j - vy c i))
theorem turned {k r : Int} {ps : List (Int × Int)} {px py : Int} (a : Int) (hv : sval k r ps = 0) (hp : -268435456 ≤ px ∧ px ≤ 268435456) (hq : -268435456 ≤ py ∧ py ≤ 268435456) : Turned ps (core k r ps px py a) (rotc a * rotc a + rots a * rots a) := by
  have ir := (sval_ok hv).ir
  have hrb := rot_bd a
  have pos : ∀ i, i < ps.length → vx (core k r ps px py a) i = rtx (rotc a) (rots a) (vx ps i) (vy ps i) + px ∧ vy (core k r ps px py a) i = rty (rotc a) (rots a) (vx ps i) (vy ps i) + py := fun i hi => by
    obtain ⟨⟨x1, x2⟩, ⟨y1, y2⟩⟩ := inr_bd ir hi
    obtain ⟨⟨c1, c2⟩, ⟨s1, s2⟩⟩ := rt_bd a x1 x2 y1 y2
    rw [core_if hv, vx_map _ _ _ _ hi, vy_map _ _ _ _ hi]
    unfold apx apy
    have e : ∀ r p : Int, -2097152 ≤ r → r ≤ 2097152 → -268435456 ≤ p → p ≤ 268435456 → fadd r p = r + p := fun r p h1 h2 h3 h4 => by
      unfold fadd; rw [sat_id (x := r) (by omega) (by omega), sat_id (x := p) (by omega) (by omega), sat_id (by omega) (by omega)]
    exact ⟨e _ px c1 c2 hp.1 hp.2, e _ py s1 s2 hq.1 hq.2⟩
  refine ⟨rot_len a, fun i j k hi hj hk => ?_, fun i j hi hj => ?_⟩
  · obtain ⟨⟨x1, x2⟩, ⟨y1, y2⟩⟩ := inr_bd ir hi
    obtain ⟨⟨x3, x4⟩, ⟨y3, y4⟩⟩ := inr_bd ir hj
    obtain ⟨⟨x5, x6⟩, ⟨y5, y6⟩⟩ := inr_bd ir hk
    obtain ⟨e, f, he, hf, h1, h2⟩ := rt_err a x1 x2 y1 y2
    obtain ⟨e', f', he', hf', h1', h2'⟩ := rt_err a x3 x4 y3 y4
    obtain ⟨e2, f2, he2, hf2, h12, h22⟩ := rt_err a x5 x6 y5 y6
    have t1 := cr_turn hrb.1 hrb.2 ⟨x1, x2⟩ ⟨y1, y2⟩ ⟨x3, x4⟩ ⟨y3, y4⟩ he hf he' hf' h1 h2 h1' h2'
    have t2 := cr_turn hrb.1 hrb.2 ⟨x3, x4⟩ ⟨y3, y4⟩ ⟨x5, x6⟩ ⟨y5, y6⟩ he' hf' he2 hf2 h1' h2' h12 h22
    have t3 := cr_turn hrb.1 hrb.2 ⟨x5, x6⟩ ⟨y5, y6⟩ ⟨x1, x2⟩ ⟨y1, y2⟩ he2 hf2 he hf h12 h22 h1 h2
    rw [(pos i hi).1, (pos i hi).2, (pos j hj).1, (pos j hj).2, (pos k hk).1, (pos k hk).2]
    generalize rtx (rotc a) (rots a) (vx ps i) (vy ps i) = u1 at *
    generalize rty (rotc a) (rots a) (vx ps i) (vy ps i) = v1 at *
    generalize rtx (rotc a) (rots a) (vx ps j) (vy ps j) = u2 at *
    generalize rty (rotc a) (rots a) (vx ps j) (vy ps j) = v2 at *
    generalize rtx (rotc a) (rots a) (vx ps k) (vy ps k) = u3 at *
    generalize rty (rotc a) (rots a) (vx ps k) (vy ps k) = v3 at *
    generalize rotc a * rotc a + rots a * rots a = Q at *
    have e1 : Q * ((vx ps j - vx ps i) * (vy ps k - vy ps i) - (vy ps j - vy ps i) * (vx ps k - vx ps i)) = Q * (vx ps i * vy ps j - vy ps i * vx ps j) + Q * (vx ps j * vy ps k - vy ps j * vx ps k) + Q * (vx ps k * vy ps i - vy ps k * vx ps i) := by grind
    have e2 : 4294967296 * ((u2 + px - (u1 + px)) * (v3 + py - (v1 + py)) - (v2 + py - (v1 + py)) * (u3 + px - (u1 + px))) = 4294967296 * (u1 * v2 - v1 * u2) + 4294967296 * (u2 * v3 - v2 * u3) + 4294967296 * (u3 * v1 - v3 * u1) := by grind
    rw [e1, e2]
    omega
  · obtain ⟨⟨x1, x2⟩, ⟨y1, y2⟩⟩ := inr_bd ir hi
    obtain ⟨⟨x3, x4⟩, ⟨y3, y4⟩⟩ := inr_bd ir hj
    obtain ⟨e, f, he, hf, h1, h2⟩ := rt_err a x1 x2 y1 y2
    obtain ⟨e', f', he', hf', h1', h2'⟩ := rt_err a x3 x4 y3 y4
    rw [(pos i hi).1, (pos i hi).2, (pos j hj).1, (pos j hj).2]
    generalize rtx (rotc a) (rots a) (vx ps i) (vy ps i) = u1 at *
    generalize rty (rotc a) (rots a) (vx ps i) (vy ps i) = v1 at *
    generalize rtx (rotc a) (rots a) (vx ps j) (vy ps j) = u2 at *
    generalize rty (rotc a) (rots a) (vx ps j) (vy ps j) = v2 at *
    have key : ∀ U V P Q g h : Int, 65536 * U = P + g → 65536 * V = Q + h → (-65536 ≤ g ∧ g ≤ 65536) → (-65536 ≤ h ∧ h ≤ 65536) → 3 * (P * P + Q * Q) - 103079215104 ≤ 17179869184 * (U * U + V * V) := by
      intro U V P Q g h a1 a2 hg hh
      have m1 := (mul_bd (A := 65536) (B := 65536) hg.1 hg.2 hg.1 hg.2).2
      have m2 := (mul_bd (A := 65536) (B := 65536) hh.1 hh.2 hh.1 hh.2).2
      have s1 := sq_nn (P + 4 * g)
      have s2 := sq_nn (Q + 4 * h)
      have e1 : 17179869184 * (U * U + V * V) = 4 * ((65536 * U) * (65536 * U) + (65536 * V) * (65536 * V)) := by grind
      rw [e1, a1, a2]
      have e2 : 4 * ((P + g) * (P + g) + (Q + h) * (Q + h)) = 3 * (P * P + Q * Q) - 12 * (g * g) - 12 * (h * h) + (P + 4 * g) * (P + 4 * g) + (Q + 4 * h) * (Q + 4 * h) := by grind
      rw [e2]
      omega
    have e0 : (rotc a * rotc a + rots a * rots a) * ((vx ps j - vx ps i) * (vx ps j - vx ps i) + (vy ps j - vy ps i) * (vy ps j - vy ps i)) =
        (rotc a * (vx ps j - vx ps i) - rots a * (vy ps j - vy ps i)) * (rotc a * (vx ps j - vx ps i) - rots a * (vy ps j - vy ps i)) + (rots a * (vx ps j - vx ps i) + rotc a * (vy ps j - vy ps i)) * (rots a * (vx ps j - vx ps i) + rotc a * (vy ps j - vy ps i)) := by grind
    rw [e0]
    have h3 : 65536 * (u2 - u1) = (rotc a * (vx ps j - vx ps i) - rots a * (vy ps j - vy ps i)) + (e' - e) := by rw [Int.mul_sub, h1', h1]; grind
    have h4 : 65536 * (v2 - v1) = (rots a * (vx ps j - vx ps i) + rotc a * (vy ps j - vy ps i)) + (f' - f) := by rw [Int.mul_sub, h2', h2]; grind
    have := key (u2 - u1) (v2 - v1) _ _ _ _ h3 h4 (by omega) (by omega)
    rw [show u2 + px - (u1 + px) = u2 - u1 by omega, show v2 + py - (v1 + py) = v2 - v1 by omega]
    exact this
/-- the edges of a valid polygon are not short, and no vertex is far outside. -/
theorem seP_le {ps : List (Int × Int)} : ∀ m i, i < m → seP ps m ≤ edl ps i := by
  intro m
  induction m with
  | zero => intro i hi; omega
  | succ m ih =>
    intro i hi
    by_cases h : i = m
    · subst h; rw [seP]; split <;> omega
    · have := ih i (by omega)
      rw [seP]; split <;> omega
end Go.Carom
