/-
  The plain law of the manifold of a circle whose center lies in a polygon: it touches. Conditions: none; no program in sight.
-/
import Derived.Test.YtehlfgikcipdaaaGreatM25
import Derived.Test.YtehlfgikcipdaaaGreatM28
set_option linter.all false
namespace Go.Carom
open Go Go.AL

theorem poly_edge {k r : Int} {ps : List (Int × Int)} {px py : Int} (a : Int) (hv : sval k r ps = 0) (h3 : k = 3) (hp : -268435456 ≤ px ∧ px ≤ 268435456) (hq : -268435456 ≤ py ∧ py ≤ 268435456) {i : Nat} (hi : i < ps.length) :
    12250000 ≤ (vx (core k r ps px py a) ((i + 1) % ps.length) - vx (core k r ps px py a) i) * (vx (core k r ps px py a) ((i + 1) % ps.length) - vx (core k r ps px py a) i) + (vy (core k r ps px py a) ((i + 1) % ps.length) - vy (core k r ps px py a) i) * (vy (core k r ps px py a) ((i + 1) % ps.length) - vy (core k r ps px py a) i) ∧
    ∀ j, j < ps.length → -6291459 ≤ (vx (core k r ps px py a) ((i + 1) % ps.length) - vx (core k r ps px py a) i) * (vy (core k r ps px py a) j - vy (core k r ps px py a) i) - (vy (core k r ps px py a) ((i + 1) % ps.length) - vy (core k r ps px py a) i) * (vx (core k r ps px py a) j - vx (core k r ps px py a) i) := by
  have ok := sval_ok hv
  have hpb := ok.pb
  unfold spolB at hpb
  simp only [h3, decide_true, Bool.true_and, Bool.or_eq_false_iff, decide_eq_false_iff_not, Bool.not_eq_false'] at hpb
  obtain ⟨⟨hcv, hsh⟩, _⟩ := hpb
  have ir := ok.ir
  have hT := turned (px := px) (py := py) a hv hp hq
  have hi' := imod_lt hi
  have q0 := hT.q0
  constructor
  · have hl := hT.ln i _ hi hi'
    unfold shortest at hsh
    rw [if_pos hcv] at hsh
    have he := seP_le (ps := ps) ps.length i hi
    have h4 : 4096 ≤ edl ps i := by omega
    unfold edl at h4
    obtain ⟨⟨x1, x2⟩, ⟨y1, y2⟩⟩ := inr_bd ir hi
    obtain ⟨⟨x3, x4⟩, ⟨y3, y4⟩⟩ := inr_bd ir hi'
    rw [fsub_id x3 x4 x1 x2, fsub_id y3 y4 y1 y2] at h4
    unfold vlen at h4
    rw [sat_id (x := vx ps ((i + 1) % ps.length) - vx ps i) (by omega) (by omega), sat_id (x := vy ps ((i + 1) % ps.length) - vy ps i) (by omega) (by omega)] at h4
    have b1 : -2097152 ≤ vx ps ((i + 1) % ps.length) - vx ps i ∧ vx ps ((i + 1) % ps.length) - vx ps i ≤ 2097152 := by omega
    have b2 : -2097152 ≤ vy ps ((i + 1) % ps.length) - vy ps i ∧ vy ps ((i + 1) % ps.length) - vy ps i ≤ 2097152 := by omega
    generalize vx ps ((i + 1) % ps.length) - vx ps i = dx at *
    generalize vy ps ((i + 1) % ps.length) - vy ps i = dy at *
    have m1 := mul_bd (A := 2097152) (B := 2097152) (a := dx) (b := dx) (by omega) (by omega) (by omega) (by omega)
    have m2 := mul_bd (A := 2097152) (B := 2097152) (a := dy) (b := dy) (by omega) (by omega) (by omega) (by omega)
    have s1 := sq_nn dx
    have s2 := sq_nn dy
    obtain ⟨_, hs2, _⟩ := isqrt_spec (n := dx * dx + dy * dy) (by omega) (by omega)
    have h5 := Int.mul_le_mul h4 h4 (by decide) (by omega)
    have h6 := Int.mul_le_mul q0 (show (16777216 : Int) ≤ dx * dx + dy * dy by omega) (by decide) (by omega)
    generalize (rotc a * rotc a + rots a * rots a) * (dx * dx + dy * dy) = Z at *
    omega
  · intro j hj
    have hc := hT.cr i _ j hi hi' hj
    have h0 : 0 ≤ (vx ps ((i + 1) % ps.length) - vx ps i) * (vy ps j - vy ps i) - (vy ps ((i + 1) % ps.length) - vy ps i) * (vx ps j - vx ps i) := by
      have hcc := hcv
      unfold convex at hcc
      simp only [Bool.and_eq_true] at hcc
      have h1 := List.all_eq_true.1 hcc.2 i (List.mem_range.2 hi)
      unfold cvi at h1
      have h2 := List.all_eq_true.1 h1 j (List.mem_range.2 hj)
      unfold cvk at h2
      simp only [Bool.or_eq_true, decide_eq_true_eq] at h2
      rcases h2 with (h2 | h2) | h2
      · subst h2; rw [Int.sub_self, Int.sub_self, Int.mul_zero, Int.mul_zero]; decide
      · rw [h2, Int.mul_comm, Int.sub_self]; decide
      · unfold or3 orient area2 at h2
        obtain ⟨⟨x1, x2⟩, ⟨y1, y2⟩⟩ := inr_bd ir hi
        obtain ⟨⟨x3, x4⟩, ⟨y3, y4⟩⟩ := inr_bd ir hi'
        obtain ⟨⟨x5, x6⟩, ⟨y5, y6⟩⟩ := inr_bd ir hj
        rw [sat_id (x := vx ps i) (by omega) (by omega), sat_id (x := vy ps i) (by omega) (by omega), sat_id (x := vx ps ((i + 1) % ps.length)) (by omega) (by omega), sat_id (x := vy ps ((i + 1) % ps.length)) (by omega) (by omega), sat_id (x := vx ps j) (by omega) (by omega), sat_id (x := vy ps j) (by omega) (by omega)] at h2
        split at h2
        · omega
        · split at h2 <;> omega
    have h1 := Int.mul_nonneg (show 0 ≤ rotc a * rotc a + rots a * rots a by omega) h0
    omega
/-- a coordinate of the closest point. -/
theorem lerp_err {a b t : Int} (ha : -270532608 ≤ a ∧ a ≤ 270532608) (hd : -4194304 ≤ b - a ∧ b - a ≤ 4194304) (ht : 0 ≤ t) (ht' : t ≤ 65536) :
    ∃ f, (if t = 0 then a else if t = 65536 then b else flerp a b t) = a + f ∧ -32768 ≤ 65536 * f - (b - a) * t ∧ 65536 * f - (b - a) * t ≤ 32768 := by
  by_cases h0 : t = 0
  · refine ⟨0, by rw [if_pos h0]; omega, ?_⟩
    rw [h0]; omega
  · by_cases h1 : t = 65536
    · refine ⟨b - a, by rw [if_neg h0, if_pos h1]; omega, ?_⟩
      rw [h1]; omega
    · refine ⟨rdiv ((b - a) * t) 65536, ?_, ?_⟩
      · rw [if_neg h0, if_neg h1]
        have m := mul_bd (A := 4194304) (B := 65536) hd.1 hd.2 (b := t) (by omega) ht'
        have hb := rdiv_abs (n := (b - a) * t) (d := 65536) (m := 4194304) (by omega) (by omega) (by omega) (by omega) (by omega) (by omega) (by omega)
        unfold flerp fmul fsub fadd
        rw [sat_id (x := b) (by omega) (by omega), sat_id (x := a) (by omega) (by omega), sat_id (x := b - a) (by omega) (by omega), sat_id (x := b - a) (by omega) (by omega), sat_id (x := t) (by omega) (by omega), sat_id (x := rdiv ((b - a) * t) 65536) (by omega) (by omega), sat_id (x := rdiv ((b - a) * t) 65536) (by omega) (by omega), sat_id (by omega) (by omega)]
      · have m := mul_bd (A := 4194304) (B := 65536) hd.1 hd.2 (b := t) (by omega) ht'
        have hs := rdiv_spec (n := (b - a) * t) (d := 65536) (by omega) (by omega) (by omega) (by omega)
        omega
/-- the closest point of a segment to a point that is near it. -/
theorem cp_near {X Y X' Y' x y A B : Int} (hX : -270532608 ≤ X ∧ X ≤ 270532608) (hY : -270532608 ≤ Y ∧ Y ≤ 270532608) (hX' : -270532608 ≤ X' ∧ X' ≤ 270532608) (hY' : -270532608 ≤ Y' ∧ Y' ≤ 270532608)
    (hx : -536870911 ≤ x ∧ x ≤ 536870911) (hy : -536870911 ≤ y ∧ y ≤ 536870911) (hdx : -4194304 ≤ X' - X ∧ X' - X ≤ 4194304) (hdy : -4194304 ≤ Y' - Y ∧ Y' - Y ≤ 4194304)
    (hqx : -4194304 ≤ x - X ∧ x - X ≤ 4194304) (hqy : -4194304 ≤ y - Y ∧ y - Y ≤ 4194304) (hA : 0 ≤ A) (hAB : A ≤ B) (hB : 0 < B)
    (hW : (B * (x - X) - A * (X' - X)) * (B * (x - X) - A * (X' - X)) + (B * (y - Y) - A * (Y' - Y)) * (B * (y - Y) - A * (Y' - Y)) ≤ 4000000 * (B * B)) :
    (x - cpx X Y X' Y' x y) * (x - cpx X Y X' Y' x y) + (y - cpy X Y X' Y' x y) * (y - cpy X Y X' Y' x y) ≤ 9437184 ∧ (-536870911 ≤ cpx X Y X' Y' x y ∧ cpx X Y X' Y' x y ≤ 536870911) ∧ -536870911 ≤ cpy X Y X' Y' x y ∧ cpy X Y X' Y' x y ≤ 536870911 := by
  obtain ⟨n1, n2, n3⟩ := near_ends hA hAB hB hW
  have hcn : cpn X Y X' Y' x y = (x - X) * (X' - X) + (y - Y) * (Y' - Y) := by
    unfold cpn
    rw [sat_id (x := X) (by omega) (by omega), sat_id (x := Y) (by omega) (by omega), sat_id (x := X') (by omega) (by omega), sat_id (x := Y') (by omega) (by omega), sat_id hx.1 hx.2, sat_id hy.1 hy.2]
  have hds : dsq (sat X) (sat Y) (sat X') (sat Y') = (X' - X) * (X' - X) + (Y' - Y) * (Y' - Y) := by
    unfold dsq
    rw [sat_sat, sat_sat, sat_sat, sat_sat, sat_id (x := X) (by omega) (by omega), sat_id (x := Y) (by omega) (by omega), sat_id (x := X') (by omega) (by omega), sat_id (x := Y') (by omega) (by omega)]
  have m1 := mul_bd hdx.1 hdx.2 hdx.1 hdx.2
  have m2 := mul_bd hdy.1 hdy.2 hdy.1 hdy.2
  have m3 := mul_bd hqx.1 hqx.2 hdx.1 hdx.2
  have m4 := mul_bd hqy.1 hqy.2 hdy.1 hdy.2
  unfold cpx cpy cpt
  rw [hcn, hds, sat_id (x := X) (by omega) (by omega), sat_id (x := Y) (by omega) (by omega), sat_id (x := X') (by omega) (by omega), sat_id (x := Y') (by omega) (by omega)]
  by_cases c1 : (x - X) * (X' - X) + (y - Y) * (Y' - Y) < 1
  · rw [frat_0 (.inr (.inr c1)), if_pos rfl, if_pos rfl]
    exact ⟨by have := n1 (by omega); omega, by omega, by omega⟩
  · by_cases c2 : (X' - X) * (X' - X) + (Y' - Y) * (Y' - Y) ≤ (x - X) * (X' - X) + (y - Y) * (Y' - Y)
    · have hpos : 1 ≤ (X' - X) * (X' - X) + (Y' - Y) * (Y' - Y) := by
        have s1 := sq_nn (X' - X)
        have s2 := sq_nn (Y' - Y)
        rcases Int.lt_or_le 0 ((X' - X) * (X' - X) + (Y' - Y) * (Y' - Y)) with h | h
        · omega
        · exfalso
          have z1 : (X' - X) * (X' - X) = 0 := by omega
          have z2 : (Y' - Y) * (Y' - Y) = 0 := by omega
          have w1 : X' - X = 0 := by rcases Int.mul_eq_zero.1 z1 with h | h <;> exact h
          have w2 : Y' - Y = 0 := by rcases Int.mul_eq_zero.1 z2 with h | h <;> exact h
          rw [w1, w2, Int.mul_zero, Int.mul_zero] at c1
          omega
      rw [frat_1 (by omega) c2, if_neg (by decide), if_pos rfl, if_neg (by decide), if_pos rfl]
      have := n2 c2
      rw [show x - X - (X' - X) = x - X' by omega, show y - Y - (Y' - Y) = y - Y' by omega] at this
      exact ⟨by omega, by omega, by omega⟩
    · have hb := frat_bd ((x - X) * (X' - X) + (y - Y) * (Y' - Y)) ((X' - X) * (X' - X) + (Y' - Y) * (Y' - Y))
      have ht := frat_2 (n := (x - X) * (X' - X) + (y - Y) * (Y' - Y)) (d := (X' - X) * (X' - X) + (Y' - Y) * (Y' - Y)) (by omega) c2 (by omega)
      have hs := rdiv_spec (n := ((x - X) * (X' - X) + (y - Y) * (Y' - Y)) * 65536) (d := (X' - X) * (X' - X) + (Y' - Y) * (Y' - Y)) (by omega) (by omega) (by omega) (by omega)
      rw [← ht] at hs
      obtain ⟨fx, ex, gx, gx'⟩ := lerp_err hX hdx hb.1 hb.2
      obtain ⟨fy, ey, gy, gy'⟩ := lerp_err hY hdy hb.1 hb.2
      rw [ex, ey]
      have hmid := near_mid (qx := x - X) (qy := y - Y) (Ex := X' - X) (Ey := Y' - Y) (t := frat ((x - X) * (X' - X) + (y - Y) * (Y' - Y)) ((X' - X) * (X' - X) + (Y' - Y) * (Y' - Y))) (fx := fx) (fy := fy) (K := 4000000) (by omega) (by omega) (by decide) hs.1 hs.2 ⟨gx, gx'⟩ ⟨gy, gy'⟩ n3
      have m5 := mul_bd (A := 4194304) (B := 65536) hdx.1 hdx.2 (b := frat ((x - X) * (X' - X) + (y - Y) * (Y' - Y)) ((X' - X) * (X' - X) + (Y' - Y) * (Y' - Y))) (by omega) hb.2
      have m6 := mul_bd (A := 4194304) (B := 65536) hdy.1 hdy.2 (b := frat ((x - X) * (X' - X) + (y - Y) * (Y' - Y)) ((X' - X) * (X' - X) + (Y' - Y) * (Y' - Y))) (by omega) hb.2
      rw [show x - (X + fx) = x - X - fx by omega, show y - (Y + fy) = y - Y - fy by omega]
      exact ⟨hmid, by omega, by omega⟩

theorem clo_le (c : List (Int × Int)) (cx cy : Int) : ∀ k i, i ≤ k → dsq (clo c cx cy k).1 (clo c cx cy k).2 cx cy ≤ dsq (cloE c cx cy i).1 (cloE c cx cy i).2 cx cy := by
  intro k
  induction k with
  | zero => intro i hi; obtain rfl : i = 0 := by omega
            exact Int.le_refl _
  | succ k ih =>
    intro i hi
    rw [clo]
    by_cases h : i = k + 1
    · subst h
      split <;> omega
    · have := ih i (by omega)
      split <;> omega
theorem mxG_val (f : Nat → Int) (m : Nat) : (mxG f m).2 = f (mxG f m).1 := by
  induction m with
  | zero => rfl
  | succ m ih =>
    rw [mxG]
    split
    · rfl
    · exact ih
theorem fdiv_l2 {x l : Int} (hl : 1 ≤ l) (hl' : l ≤ 8388608) (h : -l ≤ x) (h' : x ≤ l) : -l ≤ 2 * (fdiv x l * l) - 131072 * x ∧ 2 * (fdiv x l * l) - 131072 * x ≤ l := by
  have hs := rdiv_spec (n := x * 65536) (d := l) hl (by omega) (by omega) (by omega)
  have hb := rdiv_abs (n := x * 65536) (d := l) (m := 65536) hl (by omega) (by omega) (by omega) (by omega) (by omega) (by omega)
  unfold fdiv
  rw [sat_id (x := l) (by omega) (by omega), if_neg (by omega), if_neg (by omega), sat_id (x := x) (by omega) (by omega), sat_id (by omega) (by omega)]
  omega
theorem prd_pos {n : Int} (h : 0 < prd n) : 0 < n := by
  refine Classical.byContradiction fun hn => ?_
  have h1 := rdiv_nonneg (n := -n) (d := 65536) (by omega)
  rw [rdiv_neg] at h1
  unfold prd sat at h
  split at h
  · omega
  · split at h <;> omega
/-- a point in a polygon that an edge's normal tells to be outside is near the edge's line. -/
theorem near_line {ax ay qx qy : Int} (h0 : 12250000 ≤ ax * ax + ay * ay) (hx : -4194304 ≤ ax ∧ ax ≤ 4194304) (hy : -4194304 ≤ ay ∧ ay ≤ 4194304) (hqx : -4194304 ≤ qx ∧ qx ≤ 4194304) (hqy : -4194304 ≤ qy ∧ qy ≤ 4194304)
    (hv : 0 < vdot (vnx ay (-ax)) (vny ay (-ax)) qx qy) : ∃ l, 3500 ≤ l ∧ l * l ≤ ax * ax + ay * ay ∧ ax * qy - ay * qx ≤ 64 * l := by
  have hb := nrm_bd ay (-ax)
  have m1 := mul_bd hx.1 hx.2 hx.1 hx.2
  have m2 := mul_bd hy.1 hy.2 hy.1 hy.2
  have e2 : ay * ay + -ax * -ax = ax * ax + ay * ay := by rw [Int.neg_mul_neg]; omega
  have hl : vlen ay (-ax) = isqrt (ax * ax + ay * ay) := by
    unfold vlen
    rw [sat_id (x := ay) (by omega) (by omega), sat_id (x := -ax) (by omega) (by omega), e2]
  obtain ⟨i1, i2, i3⟩ := isqrt_spec (n := ax * ax + ay * ay) (by omega) (by omega)
  have hle : ∀ z : Int, z * z ≤ ax * ax + ay * ay → 0 ≤ z → z ≤ isqrt (ax * ax + ay * ay) := fun z hz hz0 => isq_le (by omega) (by omega) hz0 hz
  have s1 := sq_nn ax
  have s2 := sq_nn ay
  have l1 : 3500 ≤ isqrt (ax * ax + ay * ay) := hle 3500 (by omega) (by omega)
  have l2 : isqrt (ax * ax + ay * ay) < 8388608 := sq_lt i1 (by omega) (by omega)
  have b1 : ay ≤ isqrt (ax * ax + ay * ay) := by
    by_cases c : 0 ≤ ay
    · exact hle _ (by omega) c
    · omega
  have b2 : -ay ≤ isqrt (ax * ax + ay * ay) := by
    by_cases c : 0 ≤ -ay
    · exact hle _ (by rw [Int.neg_mul_neg]; omega) c
    · omega
  have b3 : ax ≤ isqrt (ax * ax + ay * ay) := by
    by_cases c : 0 ≤ ax
    · exact hle _ (by omega) c
    · omega
  have b4 : -ax ≤ isqrt (ax * ax + ay * ay) := by
    by_cases c : 0 ≤ -ax
    · exact hle _ (by rw [Int.neg_mul_neg]; omega) c
    · omega
  refine ⟨isqrt (ax * ax + ay * ay), l1, i2, ?_⟩
  unfold vdot at hv
  rw [sat_id (x := vnx ay (-ax)) (by omega) (by omega), sat_id (x := vny ay (-ax)) (by omega) (by omega), sat_id (x := qx) (by omega) (by omega), sat_id (x := qy) (by omega) (by omega)] at hv
  have hN := prd_pos hv
  unfold vnx vny at hN
  rw [hl] at hN
  generalize isqrt (ax * ax + ay * ay) = l at *
  rw [if_neg (by omega), if_neg (by omega)] at hN
  have f1 := fdiv_l2 (x := ay) (l := l) (by omega) (by omega) (by omega) (by omega)
  have f2 := fdiv_l2 (x := -ax) (l := l) (by omega) (by omega) (by omega) (by omega)
  generalize fdiv ay l = nx at *
  generalize fdiv (-ax) l = ny at *
  have g1 := mul_bd f1.1 f1.2 hqx.1 hqx.2
  have g2 := mul_bd f2.1 f2.2 hqy.1 hqy.2
  have h2 := Int.mul_pos (show 0 < 2 * l by omega) hN
  have e3 : 2 * l * (nx * qx + ny * qy) = (2 * (nx * l) - 131072 * ay) * qx + (2 * (ny * l) - 131072 * -ax) * qy - 131072 * (ax * qy - ay * qx) := by grind
  rw [e3] at h2
  generalize ax * qy - ay * qx = D at *
  generalize (2 * (nx * l) - 131072 * ay) * qx = U at *
  generalize (2 * (ny * l) - 131072 * -ax) * qy = V at *
  omega
/-- where a line's direction passes the point, the edge is near. -/
theorem edge_near {ax ay l Dp Dm Dn qx qy Ex Ey : Int} (h0 : l * l ≤ ax * ax + ay * ay) (hl : 3500 ≤ l) (hD : Dp ≤ 64 * l) (hD0 : 0 ≤ Dp) (hm : -6291459 ≤ Dm) (hn : -6291459 ≤ Dn)
    (e1 : ax * qy - ay * qx = Dp - Dm) (e2 : ax * Ey - ay * Ex = Dn - Dm) (hA : 0 ≤ ax * qx + ay * qy) (hAB : ax * qx + ay * qy ≤ ax * Ex + ay * Ey) (hZ : 0 ≤ Ex * qy - Ey * qx) :
    ((ax * Ex + ay * Ey) * qx - (ax * qx + ay * qy) * Ex) * ((ax * Ex + ay * Ey) * qx - (ax * qx + ay * qy) * Ex) + ((ax * Ex + ay * Ey) * qy - (ax * qx + ay * qy) * Ey) * ((ax * Ex + ay * Ey) * qy - (ax * qx + ay * qy) * Ey) ≤ 4000000 * ((ax * Ex + ay * Ey) * (ax * Ex + ay * Ey)) := by
  have hsq := Int.mul_le_mul hl hl (by decide) (by omega)
  have hL : 0 < ax * ax + ay * ay := by omega
  have w1 : (ax * Ex + ay * Ey) * qx - (ax * qx + ay * qy) * Ex = -(ay * (Ex * qy - Ey * qx)) := by grind
  have w2 : (ax * Ex + ay * Ey) * qy - (ax * qx + ay * qy) * Ey = ax * (Ex * qy - Ey * qx) := by grind
  have w3 : (Ex * qy - Ey * qx) * (ax * ax + ay * ay) = (ax * Ex + ay * Ey) * (Dp - Dm) - (ax * qx + ay * qy) * (Dn - Dm) := by rw [← e1, ← e2]; grind
  have w4 : (ax * Ex + ay * Ey) * (Dp - Dm) - (ax * qx + ay * qy) * (Dn - Dm) = (ax * Ex + ay * Ey) * Dp - ((ax * Ex + ay * Ey - (ax * qx + ay * qy)) * Dm + (ax * qx + ay * qy) * Dn) := by grind
  rw [w1, w2]
  generalize Ex * qy - Ey * qx = Z at *
  generalize ax * qx + ay * qy = A at *
  generalize ax * Ex + ay * Ey = B at *
  have k1 := Int.mul_le_mul_of_nonneg_left hm (show 0 ≤ B - A by omega)
  have k2 := Int.mul_le_mul_of_nonneg_left hn hA
  have k3 := Int.mul_le_mul_of_nonneg_left (show Dp + 6291459 ≤ 1862 * l by omega) (show 0 ≤ B by omega)
  have k4 : (B - A) * -6291459 + A * -6291459 = -(B * 6291459) := by grind
  have k5 : B * (Dp + 6291459) = B * Dp + B * 6291459 := by grind
  have k6 : Z * (ax * ax + ay * ay) ≤ B * (1862 * l) := by rw [w3, w4]; omega
  have k7 : 0 ≤ Z * (ax * ax + ay * ay) := Int.mul_nonneg hZ (by omega)
  have k8 := Int.mul_le_mul k6 k6 k7 (by omega)
  have k9 := Int.mul_le_mul_of_nonneg_left h0 (show 0 ≤ 3467044 * (B * B) by have := sq_nn B; omega)
  refine Int.le_of_mul_le_mul_left (a := ax * ax + ay * ay) ?_ hL
  have z1 : (ax * ax + ay * ay) * (-(ay * Z) * -(ay * Z) + ax * Z * (ax * Z)) = Z * (ax * ax + ay * ay) * (Z * (ax * ax + ay * ay)) := by grind
  have z2 : B * (1862 * l) * (B * (1862 * l)) = 3467044 * (B * B) * (l * l) := by grind
  have z3 : (ax * ax + ay * ay) * (4000000 * (B * B)) = 3467044 * (B * B) * (ax * ax + ay * ay) + 532956 * (B * B * (ax * ax + ay * ay)) := by grind
  have z4 := Int.mul_nonneg (sq_nn B) (Int.le_of_lt hL)
  rw [z1, z3]
  omega
end Go.Carom
