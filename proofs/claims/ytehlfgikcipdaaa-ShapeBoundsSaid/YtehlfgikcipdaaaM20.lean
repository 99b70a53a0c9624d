/-
  The plain law of a shape's box: a point that a shape contains lies in its box. Conditions: none; no program in sight.
-/
import Derived.Test.YtehlfgikcipdaaaM19
set_option linter.all false
namespace Go.Carom
open Go Go.AL

/-! ### how long a turned vector is -/
theorem sq_low {m C l : Int} (h : 2 * m ≤ 131072 * C + l) (h' : 131072 * C - l ≤ 2 * m) (hC : -l ≤ C) (hC' : C ≤ l) : 4294967296 * (C * C) - 65536 * (l * l) ≤ m * m := by
  obtain ⟨d, rfl⟩ : ∃ d, m = 65536 * C + d := ⟨m - 65536 * C, by omega⟩
  have h1 := mul_bd (A := l) (B := l) hC hC' (b := 2 * d) (by omega) (by omega)
  have h2 := sq_nonneg' d
  have e : (65536 * C + d) * (65536 * C + d) = 4294967296 * (C * C) + 65536 * (C * (2 * d)) + d * d := by grind
  omega
theorem fdiv_l {x l : Int} (hl : 1 ≤ l) (hl' : l ≤ 150000) (h : -l ≤ x) (h' : x ≤ l) : 2 * (fdiv x l * l) ≤ 131072 * x + l ∧ 131072 * x - l ≤ 2 * (fdiv x l * l) := by
  have hs := rdiv_spec (n := x * 65536) (d := l) hl (by omega) (by omega) (by omega)
  have hb := rdiv_abs (n := x * 65536) (d := l) (m := 65536) hl (by omega) (by omega) (by omega) (by omega) (by omega) (by omega)
  unfold fdiv
  rw [sat_id (x := l) (by omega) (by omega), if_neg (by omega), if_neg (by omega), sat_id (x := x) (by omega) (by omega), sat_id (by omega) (by omega)]
  omega
theorem rot_len (a : Int) : 4294836224 ≤ rotc a * rotc a + rots a * rots a := by
  obtain ⟨hs, hc, hbig⟩ := sc_big a
  have q1 := mul_bd (A := 102873) (B := 102873) hc.1 hc.2 hc.1 hc.2
  have q2 := mul_bd (A := 102873) (B := 102873) hs.1 hs.2 hs.1 hs.2
  have h0 := sq_nonneg' (acos a)
  have h1 := sq_nonneg' (asin a)
  have hsp : 0 ≤ rotl a ∧ rotl a * rotl a ≤ acos a * acos a + asin a * asin a ∧ _ := isqrt_spec (by omega) (by omega)
  have hl : ∀ z : Int, z * z ≤ acos a * acos a + asin a * asin a → 0 ≤ z → z ≤ rotl a := fun z hz hz0 => isq_le (by omega) (by omega) hz0 hz
  have hu : rotl a < 150000 := sq_lt hsp.1 (by omega) (by omega)
  have c1 : acos a ≤ rotl a := by
    by_cases c : 0 ≤ acos a
    · exact hl _ (by omega) c
    · omega
  have c2 : -acos a ≤ rotl a := by
    by_cases c : 0 ≤ -acos a
    · exact hl _ (by rw [Int.neg_mul_neg]; omega) c
    · omega
  have s1 : asin a ≤ rotl a := by
    by_cases c : 0 ≤ asin a
    · exact hl _ (by omega) c
    · omega
  have s2 : -asin a ≤ rotl a := by
    by_cases c : 0 ≤ -asin a
    · exact hl _ (by rw [Int.neg_mul_neg]; omega) c
    · omega
  have ep : 1 ≤ rotl a := by omega
  have f1 := fdiv_l (x := acos a) ep (by omega) (by omega) c1
  have f2 := fdiv_l (x := asin a) ep (by omega) (by omega) s1
  have ec : fdiv (acos a) (rotl a) = rotc a := rfl
  have es : fdiv (asin a) (rotl a) = rots a := rfl
  rw [ec] at f1
  rw [es] at f2
  clear hl hbig q1 q2 ec es
  generalize rotc a = c at *
  generalize rots a = s at *
  generalize acos a = C at *
  generalize asin a = S at *
  generalize rotl a = l at *
  have g1 := sq_low f1.1 f1.2 (by omega) c1
  have g2 := sq_low f2.1 f2.2 (by omega) s1
  have e1 : c * l * (c * l) + s * l * (s * l) = (c * c + s * s) * (l * l) := by grind
  have hll : 1 * 1 ≤ l * l := Int.mul_le_mul ep ep (by omega) (by omega)
  have hq : ¬ c * c + s * s ≤ 4294836223 := fun h => by
    have := Int.mul_le_mul_of_nonneg_right h (show 0 ≤ l * l by omega)
    omega
  omega

/-! ### products of sums -/
theorem one_bd {P L : Int} (g : Int) (h : -L ≤ P) (h' : P ≤ L) : ∃ g', (g' = g ∨ g' = -g) ∧ -(L * g') ≤ P * g ∧ P * g ≤ L * g' := by
  rcases Int.le_total 0 g with hg | hg
  · refine ⟨g, .inl rfl, ?_, Int.mul_le_mul_of_nonneg_right h' hg⟩
    have := Int.mul_le_mul_of_nonneg_right h hg
    rw [Int.neg_mul] at this; exact this
  · have hg' : 0 ≤ -g := by omega
    refine ⟨-g, .inr rfl, ?_, ?_⟩
    · have := Int.mul_le_mul_of_nonneg_right h' hg'
      have e : P * -g = -(P * g) := Int.mul_neg _ _
      omega
    · have := Int.mul_le_mul_of_nonneg_right h hg'
      have e : P * -g = -(P * g) := Int.mul_neg _ _
      have e' : -L * -g = -(L * -g) := Int.neg_mul _ _
      omega
theorem two_bd {P M g h L B : Int} (hP : -L ≤ P ∧ P ≤ L) (hM : -L ≤ M ∧ M ≤ L) (h1 : g + h ≤ B) (h2 : g - h ≤ B) (h3 : -g + h ≤ B) (h4 : -g - h ≤ B) : -(L * B) ≤ P * g + M * h ∧ P * g + M * h ≤ L * B := by
  obtain ⟨g', eg, a1, a2⟩ := one_bd g hP.1 hP.2
  obtain ⟨h', eh, b1, b2⟩ := one_bd h hM.1 hM.2
  have hB : g' + h' ≤ B := by omega
  have := Int.mul_le_mul_of_nonneg_left hB (show 0 ≤ L by omega)
  rw [Int.mul_add] at this
  omega

/-! ### a turned and rounded vertex -/
theorem rt_err (a : Int) {x y : Int} (h : -1048576 ≤ x) (h' : x ≤ 1048576) (g : -1048576 ≤ y) (g' : y ≤ 1048576) :
    ∃ e f : Int, (-32768 ≤ e ∧ e ≤ 32768) ∧ (-32768 ≤ f ∧ f ≤ 32768) ∧ 65536 * rtx (rotc a) (rots a) x y = rotc a * x - rots a * y + e ∧ 65536 * rty (rotc a) (rots a) x y = rots a * x + rotc a * y + f := by
  obtain ⟨⟨c1, c2⟩, ⟨s1, s2⟩⟩ := rot_bd a
  unfold rtx rty
  rw [sat_id (x := rotc a) (by omega) (by omega), sat_id (x := rots a) (by omega) (by omega), sat_id (x := x) (by omega) (by omega), sat_id (x := y) (by omega) (by omega)]
  have m1 := mul_bd (A := 65536) (B := 1048576) c1 c2 h h'
  have m2 := mul_bd (A := 65536) (B := 1048576) c1 c2 g g'
  have m3 := mul_bd (A := 65536) (B := 1048576) s1 s2 h h'
  have m4 := mul_bd (A := 65536) (B := 1048576) s1 s2 g g'
  have key : ∀ n : Int, -137438953472 ≤ n → n ≤ 137438953472 → ∃ e : Int, (-32768 ≤ e ∧ e ≤ 32768) ∧ 65536 * prd n = n + e := fun n hn hn' => by
    have hb := rdiv_abs (n := n) (d := 65536) (m := 2097152) (by omega) (by omega) (by omega) (by omega) (by omega) (by omega) (by omega)
    have hs := rdiv_spec (n := n) (d := 65536) (by omega) (by omega) (by omega) (by omega)
    unfold prd
    rw [sat_id (by omega) (by omega)]
    exact ⟨65536 * rdiv n 65536 - n, by omega, by omega⟩
  obtain ⟨e, he, he'⟩ := key (rotc a * x - rots a * y) (by omega) (by omega)
  obtain ⟨f, hf, hf'⟩ := key (rots a * x + rotc a * y) (by omega) (by omega)
  exact ⟨e, f, he, hf, he', hf'⟩
theorem xy_bd {c s x y : Int} (hc : -65536 ≤ c ∧ c ≤ 65536) (hs : -65536 ≤ s ∧ s ≤ 65536) (hx : -1048576 ≤ x ∧ x ≤ 1048576) (hy : -1048576 ≤ y ∧ y ≤ 1048576) :
    (-137438953472 ≤ (c * x - s * y) + (s * x + c * y) ∧ (c * x - s * y) + (s * x + c * y) ≤ 137438953472) ∧ (-137438953472 ≤ (c * x - s * y) - (s * x + c * y) ∧ (c * x - s * y) - (s * x + c * y) ≤ 137438953472) := by
  have h1 := two_bd (P := x) (M := y) (g := c + s) (h := c - s) (L := 1048576) (B := 131072) hx hy (by omega) (by omega) (by omega) (by omega)
  have h2 := two_bd (P := x) (M := y) (g := c - s) (h := -(c + s)) (L := 1048576) (B := 131072) hx hy (by omega) (by omega) (by omega) (by omega)
  have e1 : x * (c + s) + y * (c - s) = (c * x - s * y) + (s * x + c * y) := by grind
  have e2 : x * (c - s) + y * (-(c + s)) = (c * x - s * y) - (s * x + c * y) := by grind
  rw [e1] at h1
  rw [e2] at h2
  omega
theorem err_bd {X Y e f : Int} (h : -137438953472 ≤ X + Y ∧ X + Y ≤ 137438953472) (h' : -137438953472 ≤ X - Y ∧ X - Y ≤ 137438953472) (he : -32768 ≤ e ∧ e ≤ 32768) (hf : -32768 ≤ f ∧ f ≤ 32768) :
    -4503599627370496 ≤ X * f - Y * e ∧ X * f - Y * e ≤ 4503599627370496 := by
  have h1 := two_bd (P := X + Y) (M := X - Y) (g := f - e) (h := f + e) (L := 137438953472) (B := 65536) h h' (by omega) (by omega) (by omega) (by omega)
  have e1 : (X + Y) * (f - e) + (X - Y) * (f + e) = 2 * (X * f - Y * e) := by grind
  rw [e1] at h1
  omega
/-- the cross product of two turned and rounded vertices. -/
theorem cr_turn {c s x y x' y' e f e' f' ux uy ux' uy' : Int} (hc : -65536 ≤ c ∧ c ≤ 65536) (hs : -65536 ≤ s ∧ s ≤ 65536) (hx : -1048576 ≤ x ∧ x ≤ 1048576) (hy : -1048576 ≤ y ∧ y ≤ 1048576)
    (hx' : -1048576 ≤ x' ∧ x' ≤ 1048576) (hy' : -1048576 ≤ y' ∧ y' ≤ 1048576) (he : -32768 ≤ e ∧ e ≤ 32768) (hf : -32768 ≤ f ∧ f ≤ 32768) (he' : -32768 ≤ e' ∧ e' ≤ 32768) (hf' : -32768 ≤ f' ∧ f' ≤ 32768)
    (h1 : 65536 * ux = c * x - s * y + e) (h2 : 65536 * uy = s * x + c * y + f) (h3 : 65536 * ux' = c * x' - s * y' + e') (h4 : 65536 * uy' = s * x' + c * y' + f') :
    (c * c + s * s) * (x * y' - y * x') - 9007201402224640 ≤ 4294967296 * (ux * uy' - uy * ux') := by
  have b1 := xy_bd hc hs hx hy
  have b2 := xy_bd hc hs hx' hy'
  have k1 := err_bd b1.1 b1.2 he' hf'
  have k2 := err_bd b2.1 b2.2 he hf
  have m1 := mul_bd (A := 32768) (B := 32768) he.1 he.2 hf'.1 hf'.2
  have m2 := mul_bd (A := 32768) (B := 32768) hf.1 hf.2 he'.1 he'.2
  have e0 : (c * x - s * y) * (s * x' + c * y') - (s * x + c * y) * (c * x' - s * y') = (c * c + s * s) * (x * y' - y * x') := by grind
  have e1 : 4294967296 * (ux * uy' - uy * ux') = (65536 * ux) * (65536 * uy') - (65536 * uy) * (65536 * ux') := by grind
  rw [h1, h2, h3, h4] at e1
  generalize c * x - s * y = X at *
  generalize s * x + c * y = Y at *
  generalize c * x' - s * y' = X' at *
  generalize s * x' + c * y' = Y' at *
  have e2 : (X + e) * (Y' + f') - (Y + f) * (X' + e') = (X * Y' - Y * X') + (X * f' - Y * e') - (X' * f - Y' * e) + e * f' - f * e' := by grind
  omega

/-! ### areas -/
def cr2 (X Y : Nat → Int) (i j : Nat) : Int := X i * Y j - Y i * X j
def fan1 (X Y : Nat → Int) (m : Nat) : Int := (X (m + 1) - X 0) * (Y (m + 1 + 1) - Y 0) - (Y (m + 1) - Y 0) * (X (m + 1 + 1) - X 0)
def fan2 (X Y : Nat → Int) : Nat → Int
  | 0 => 0
  | m + 1 => fan2 X Y m + fan1 X Y m
def sh2 (X Y : Nat → Int) : Nat → Int
  | 0 => 0
  | m + 1 => sh2 X Y m + cr2 X Y m (m + 1)
theorem fan_sh (X Y : Nat → Int) (m : Nat) : fan2 X Y m = sh2 X Y (m + 1) + cr2 X Y (m + 1) 0 := by
  induction m with
  | zero =>
    show (0 : Int) = 0 + cr2 X Y 0 (0 + 1) + cr2 X Y (0 + 1) 0
    unfold cr2; grind
  | succ m ih =>
    rw [fan2, ih, show sh2 X Y (m + 1 + 1) = sh2 X Y (m + 1) + cr2 X Y (m + 1) (m + 1 + 1) from rfl]
    unfold cr2 fan1
    generalize sh2 X Y (m + 1) = S
    generalize X (m + 1) = a
    generalize Y (m + 1) = b
    generalize X (m + 1 + 1) = c
    generalize Y (m + 1 + 1) = d
    generalize X 0 = e
    generalize Y 0 = f
    grind
theorem fan2_mv {X Y X' Y' : Nat → Int} {p q : Int} (m : Nat) (h : ∀ i, i ≤ m + 1 → X' i = X i + p ∧ Y' i = Y i + q) : fan2 X' Y' m = fan2 X Y m := by
  induction m with
  | zero => rfl
  | succ m ih =>
    rw [fan2, fan2, ih fun i hi => h i (by omega)]
    have h0 := h 0 (by omega)
    have h1 := h (m + 1) (by omega)
    have h2 := h (m + 1 + 1) (by omega)
    unfold fan1
    rw [h0.1, h0.2, h1.1, h1.2, h2.1, h2.2, Int.add_sub_add_right, Int.add_sub_add_right, Int.add_sub_add_right, Int.add_sub_add_right]
theorem fan2_zero {X Y : Nat → Int} (m : Nat) (h : ∀ i, i < m → fan1 X Y i = 0) : fan2 X Y m = 0 := by
  induction m with
  | zero => rfl
  | succ m ih => rw [fan2, ih fun i hi => h i (by omega), h m (by omega)]; rfl
theorem sh2_turn {X Y U V : Nat → Int} {q : Int} (m : Nat) (h : ∀ i j, i ≤ m → j ≤ m → q * cr2 X Y i j - 9007201402224640 ≤ 4294967296 * cr2 U V i j) :
    q * sh2 X Y m - 9007201402224640 * (m : Int) ≤ 4294967296 * sh2 U V m := by
  induction m with
  | zero => show q * 0 - 9007201402224640 * 0 ≤ 4294967296 * 0; omega
  | succ m ih =>
    have h1 := ih fun i j hi hj => h i j (by omega) (by omega)
    have h2 := h m (m + 1) (by omega) (by omega)
    rw [sh2, sh2, Int.mul_add, Int.mul_add]
    omega
theorem fan2_turn {X Y U V : Nat → Int} {q : Int} (m : Nat) (h : ∀ i j, i ≤ m + 1 → j ≤ m + 1 → q * cr2 X Y i j - 9007201402224640 ≤ 4294967296 * cr2 U V i j) :
    q * fan2 X Y m - 9007201402224640 * ((m : Int) + 2) ≤ 4294967296 * fan2 U V m := by
  have h1 := sh2_turn (m + 1) h
  have h2 := h (m + 1) 0 (by omega) (by omega)
  rw [fan_sh, fan_sh, Int.mul_add, Int.mul_add]
  omega
/-- the program's sum of rounded areas. -/
theorem fsum_fan {ps : List (Int × Int)} (h : allIR ps = true) (h8 : ps.length ≤ 8) (m : Nat) (hm : m + 1 < ps.length) :
    (65536 * fsum ps m ≤ fan2 (vx ps) (vy ps) m + 32768 * (m : Int)) ∧ -(1000000000000 * (m : Int)) ≤ fsum ps m ∧ fsum ps m ≤ 1000000000000 * (m : Int) := by
  induction m with
  | zero => exact ⟨by show 65536 * (0 : Int) ≤ 0 + 32768 * 0; omega, by show -(1000000000000 * (0 : Int)) ≤ 0; omega, by show (0 : Int) ≤ 1000000000000 * 0; omega⟩
  | succ m ih =>
    obtain ⟨i1, i2, i3⟩ := ih (by omega)
    obtain ⟨⟨a1, a2⟩, a3, a4⟩ := inr_bd h (i := 0) (by omega)
    obtain ⟨⟨b1, b2⟩, b3, b4⟩ := inr_bd h (i := m + 1) (by omega)
    obtain ⟨⟨c1, c2⟩, c3, c4⟩ := inr_bd h (i := m + 1 + 1) (by omega)
    have e1 : trx ps (m + 1) = vx ps (m + 1) - vx ps 0 := w64_id (by omega) (by omega)
    have e2 : try_ ps (m + 1) = vy ps (m + 1) - vy ps 0 := w64_id (by omega) (by omega)
    have e3 : trx ps (m + 1 + 1) = vx ps (m + 1 + 1) - vx ps 0 := w64_id (by omega) (by omega)
    have e4 : try_ ps (m + 1 + 1) = vy ps (m + 1 + 1) - vy ps 0 := w64_id (by omega) (by omega)
    have m1 := mul_bd (A := 2097152) (B := 2097152) (a := vx ps (m + 1) - vx ps 0) (b := vy ps (m + 1 + 1) - vy ps 0) (by omega) (by omega) (by omega) (by omega)
    have m2 := mul_bd (A := 2097152) (B := 2097152) (a := vy ps (m + 1) - vy ps 0) (b := vx ps (m + 1 + 1) - vx ps 0) (by omega) (by omega) (by omega) (by omega)
    have ec : cr ps (m + 1) = rdiv (fan1 (vx ps) (vy ps) m) 65536 := by
      unfold cr fan1
      rw [e1, e2, e3, e4, w64_id (n := (vx ps (m + 1) - vx ps 0) * (vy ps (m + 1 + 1) - vy ps 0)) (by omega) (by omega), w64_id (n := (vy ps (m + 1) - vy ps 0) * (vx ps (m + 1 + 1) - vx ps 0)) (by omega) (by omega), w64_id (by omega) (by omega)]
    have hf : -8796093022208 ≤ fan1 (vx ps) (vy ps) m ∧ fan1 (vx ps) (vy ps) m ≤ 8796093022208 := by unfold fan1; omega
    have hs := rdiv_spec (n := fan1 (vx ps) (vy ps) m) (d := 65536) (by omega) (by omega) (by omega) (by omega)
    have e5 : fsum ps (m + 1) = fsum ps m + cr ps (m + 1) := w64_id (by rw [ec]; omega) (by rw [ec]; omega)
    rw [e5, fan2, ec]
    omega
/-- the area of a valid polygon, turned and rounded, is not zero. -/
theorem fan_pos {k r : Int} {ps : List (Int × Int)} (px py a : Int) (hv : sval k r ps = 0) (h3 : k = 3) (hp : -268435456 ≤ px ∧ px ≤ 268435456) (hq : -268435456 ≤ py ∧ py ≤ 268435456) :
    0 < fan2 (vx (core k r ps px py a)) (vy (core k r ps px py a)) (ps.length - 2) := by
  have ok := sval_ok hv
  have hn := ok.n3 h3
  have hpb := ok.pb
  unfold spolB at hpb
  simp only [h3, decide_true, Bool.true_and, Bool.or_eq_false_iff, decide_eq_false_iff_not, Bool.not_eq_false'] at hpb
  obtain ⟨⟨hcv, _⟩, har⟩ := hpb
  have ir := ok.ir
  have hfs := fsum_fan ir hn.2 (ps.length - 2) (by omega)
  have hsum : 511 ≤ fsum ps (ps.length - 2) := by
    unfold area at har
    rw [if_pos hcv] at har
    have := rdiv_spec (n := fsum ps (ps.length - 2)) (d := 2) (by omega) (by omega) (by omega) (by omega)
    omega
  have hfan : 33292288 ≤ fan2 (vx ps) (vy ps) (ps.length - 2) := by omega
  have hrl := rot_len a
  have hrb := rot_bd a
  have hU : fan2 (vx (core k r ps px py a)) (vy (core k r ps px py a)) (ps.length - 2) = fan2 (fun i => rtx (rotc a) (rots a) (vx ps i) (vy ps i)) (fun i => rty (rotc a) (rots a) (vx ps i) (vy ps i)) (ps.length - 2) := by
    refine fan2_mv (p := px) (q := py) _ fun i hi => ?_
    have hi : i < ps.length := by omega
    obtain ⟨⟨x1, x2⟩, ⟨y1, y2⟩⟩ := inr_bd ir hi
    obtain ⟨⟨c1, c2⟩, ⟨s1, s2⟩⟩ := rt_bd a x1 x2 y1 y2
    rw [core_if hv, vx_map _ _ _ _ hi, vy_map _ _ _ _ hi]
    unfold apx apy
    have e : ∀ r p : Int, -2097152 ≤ r → r ≤ 2097152 → -268435456 ≤ p → p ≤ 268435456 → fadd r p = r + p := fun r p h1 h2 h3 h4 => by
      unfold fadd; rw [sat_id (x := r) (by omega) (by omega), sat_id (x := p) (by omega) (by omega), sat_id (by omega) (by omega)]
    exact ⟨e _ px c1 c2 hp.1 hp.2, e _ py s1 s2 hq.1 hq.2⟩
  rw [hU]
  have ht := fan2_turn (X := vx ps) (Y := vy ps) (U := fun i => rtx (rotc a) (rots a) (vx ps i) (vy ps i)) (V := fun i => rty (rotc a) (rots a) (vx ps i) (vy ps i)) (q := rotc a * rotc a + rots a * rots a) (ps.length - 2) fun i j hi hj => by
    obtain ⟨⟨x1, x2⟩, ⟨y1, y2⟩⟩ := inr_bd ir (i := i) (by omega)
    obtain ⟨⟨x3, x4⟩, ⟨y3, y4⟩⟩ := inr_bd ir (i := j) (by omega)
    obtain ⟨e, f, he, hf, h1, h2⟩ := rt_err a x1 x2 y1 y2
    obtain ⟨e', f', he', hf', h1', h2'⟩ := rt_err a x3 x4 y3 y4
    exact cr_turn hrb.1 hrb.2 ⟨x1, x2⟩ ⟨y1, y2⟩ ⟨x3, x4⟩ ⟨y3, y4⟩ he hf he' hf' h1 h2 h1' h2'
  have hm := Int.mul_le_mul hrl hfan (by omega) (by omega)
  have hc : ((ps.length - 2 : Nat) : Int) ≤ 6 := by omega
  generalize fan2 (fun i => rtx (rotc a) (rots a) (vx ps i) (vy ps i)) _ _ = F at *
  generalize (rotc a * rotc a + rots a * rots a) * fan2 (vx ps) (vy ps) (ps.length - 2) = Q at *
  omega

/-! ### turning around a point -/
theorem cyc_step {a b c x y z : Int} (hb : 0 < b) (ha : 0 < a) (hc : 0 < c) (h : b * x ≤ a * y) (h' : c * y ≤ b * z) : c * x ≤ a * z := by
  have h1 := Int.mul_le_mul_of_nonneg_left h (show 0 ≤ c by omega)
  have h2 := Int.mul_le_mul_of_nonneg_left h' (show 0 ≤ a by omega)
  have e1 : c * (b * x) = b * (c * x) := by grind
  have e2 : c * (a * y) = a * (c * y) := by grind
  have e3 : a * (b * z) = b * (a * z) := by grind
  have h3 : b * (c * x) ≤ b * (a * z) := by omega
  exact Int.le_of_mul_le_mul_left h3 hb
theorem cyc_up {n : Nat} {a b : Nat → Int} (ha : ∀ i, i < n → 0 < a i) (h : ∀ i, i < n → a ((i + 1) % n) * b i ≤ a i * b ((i + 1) % n)) (i : Nat) : ∀ d, i + d < n → a (i + d) * b i ≤ a i * b (i + d) := by
  intro d
  induction d with
  | zero => intro _; exact Int.le_refl _
  | succ d ih =>
    intro hd
    have h1 := ih (by omega)
    have h2 := h (i + d) (by omega)
    rw [Nat.mod_eq_of_lt (by omega)] at h2
    exact cyc_step (ha _ (by omega)) (ha _ (by omega)) (ha _ hd) h1 h2
theorem cyc {n : Nat} {a b : Nat → Int} (ha : ∀ i, i < n → 0 < a i) (h : ∀ i, i < n → a ((i + 1) % n) * b i ≤ a i * b ((i + 1) % n)) {i j : Nat} (hi : i < n) (hj : j < n) : a i * b j = a j * b i := by
  have up : ∀ i j, i ≤ j → j < n → a j * b i ≤ a i * b j := fun i j hij hj => by
    have := cyc_up ha h i (j - i) (by omega)
    rwa [show i + (j - i) = j by omega] at this
  have wrap : a 0 * b (n - 1) ≤ a (n - 1) * b 0 := by
    have := h (n - 1) (by omega)
    rwa [show n - 1 + 1 = n by omega, Nat.mod_self] at this
  have dn : ∀ i j, i ≤ j → j < n → a i * b j ≤ a j * b i := fun i j hij hj => by
    have h1 := up j (n - 1) (by omega) (by omega)
    have h2 := up 0 i (by omega) (by omega)
    have h3 := cyc_step (ha _ (by omega)) (ha _ (by omega)) (ha 0 (by omega)) h1 wrap
    exact cyc_step (ha 0 (by omega)) (ha _ (by omega)) (ha _ (by omega)) h3 h2
  rcases Nat.le_total i j with hij | hij
  · exact Int.le_antisymm (dn i j hij hj) (up i j hij hj)
  · exact (Int.le_antisymm (dn j i hij hi) (up j i hij hi)).symm

/-- a point that a polygon contains is not beside all of its vertices. -/
theorem pol_not {k r : Int} {ps : List (Int × Int)} {px py a x y : Int} (hv : sval k r ps = 0) (h3 : k = 3) (hp : -268435456 ≤ px ∧ px ≤ 268435456) (hq : -268435456 ≤ py ∧ py ≤ 268435456)
    (hc : polC (core k r ps px py a) x y = true) {A B : Nat → Int} (hA : ∀ i, i < ps.length → 0 < A i)
    (hAB : ∀ i j, i < ps.length → j < ps.length → A i * B j - A j * B i = (sat x - vx (core k r ps px py a) i) * (sat y - vy (core k r ps px py a) j) - (sat x - vx (core k r ps px py a) j) * (sat y - vy (core k r ps px py a) i)) : False := by
  have hpos := fan_pos px py a hv h3 hp hq
  have hs := core_sat k r ps px py a
  have l1 := core_len_if (px := px) (py := py) (a := a) hv
  have hn := (sval_ok hv).n3 h3
  generalize core k r ps px py a = c at *
  unfold polC at hc
  rw [List.all_eq_true, l1] at hc
  have hor : ∀ i, i < ps.length → A ((i + 1) % ps.length) * B i ≤ A i * B ((i + 1) % ps.length) := fun i hi => by
    have h1 := hc i (List.mem_range.2 hi)
    have hj := imod_lt hi
    have h2 := hAB i _ hi hj
    unfold orE orient area2 at h1
    rw [l1, (hs i).1, (hs i).2, (hs _).1, (hs _).2] at h1
    have e : (vx c ((i + 1) % ps.length) - vx c i) * (sat y - vy c i) - (vy c ((i + 1) % ps.length) - vy c i) * (sat x - vx c i) = (sat x - vx c i) * (sat y - vy c ((i + 1) % ps.length)) - (sat x - vx c ((i + 1) % ps.length)) * (sat y - vy c i) := by grind
    rw [e, ← h2] at h1
    simp only [Bool.not_eq_true', decide_eq_false_iff_not] at h1
    split at h1
    · omega
    · split at h1
      · omega
      · omega
  have hz := fan2_zero (X := vx c) (Y := vy c) (ps.length - 2) fun i hi => by
    have key : ∀ i j, i < ps.length → j < ps.length → (sat x - vx c i) * (sat y - vy c j) - (sat x - vx c j) * (sat y - vy c i) = 0 := fun i j hi hj => by
      rw [← hAB i j hi hj, cyc hA hor hi hj, Int.sub_self]
    have k1 := key 0 (i + 1) (by omega) (by omega)
    have k2 := key 0 (i + 1 + 1) (by omega) (by omega)
    have k3 := key (i + 1) (i + 1 + 1) (by omega) (by omega)
    unfold fan1
    have e : (vx c (i + 1) - vx c 0) * (vy c (i + 1 + 1) - vy c 0) - (vy c (i + 1) - vy c 0) * (vx c (i + 1 + 1) - vx c 0)
      = ((sat x - vx c 0) * (sat y - vy c (i + 1)) - (sat x - vx c (i + 1)) * (sat y - vy c 0)) - ((sat x - vx c 0) * (sat y - vy c (i + 1 + 1)) - (sat x - vx c (i + 1 + 1)) * (sat y - vy c 0)) + ((sat x - vx c (i + 1)) * (sat y - vy c (i + 1 + 1)) - (sat x - vx c (i + 1 + 1)) * (sat y - vy c (i + 1))) := by grind
    rw [e, k1, k2, k3]; rfl
  omega
/-- near the core along both axes. -/
structure Near (c : List (Int × Int)) (r X Y : Int) : Prop where
  x1 : ∃ i, i < c.length ∧ vx c i - r ≤ X
  x2 : ∃ i, i < c.length ∧ X ≤ vx c i + r
  y1 : ∃ i, i < c.length ∧ vy c i - r ≤ Y
  y2 : ∃ i, i < c.length ∧ Y ≤ vy c i + r
theorem pol_near {k r : Int} {ps : List (Int × Int)} {px py a x y : Int} (hv : sval k r ps = 0) (h3 : k = 3) (hp : -268435456 ≤ px ∧ px ≤ 268435456) (hq : -268435456 ≤ py ∧ py ≤ 268435456)
    (hc : polC (core k r ps px py a) x y = true) (hr : 0 ≤ r) : Near (core k r ps px py a) r (sat x) (sat y) := by
  have l1 := core_len_if (px := px) (py := py) (a := a) hv
  have no := @pol_not k r ps px py a x y hv h3 hp hq hc
  generalize core k r ps px py a = c at *
  refine ⟨?_, ?_, ?_, ?_⟩ <;> refine Classical.byContradiction fun hno => ?_
  · have h : ∀ i, i < ps.length → 0 < vx c i - sat x := fun i hi => Int.not_le.1 fun h => hno ⟨i, by omega, by omega⟩
    exact no (A := fun i => vx c i - sat x) (B := fun i => vy c i - sat y) h fun i j _ _ => by grind
  · have h : ∀ i, i < ps.length → 0 < sat x - vx c i := fun i hi => Int.not_le.1 fun h => hno ⟨i, by omega, by omega⟩
    exact no (A := fun i => sat x - vx c i) (B := fun i => sat y - vy c i) h fun i j _ _ => rfl
  · have h : ∀ i, i < ps.length → 0 < vy c i - sat y := fun i hi => Int.not_le.1 fun h => hno ⟨i, by omega, by omega⟩
    exact no (A := fun i => vy c i - sat y) (B := fun i => sat x - vx c i) h fun i j _ _ => by grind
  · have h : ∀ i, i < ps.length → 0 < sat y - vy c i := fun i hi => Int.not_le.1 fun h => hno ⟨i, by omega, by omega⟩
    exact no (A := fun i => sat y - vy c i) (B := fun i => vx c i - sat x) h fun i j _ _ => by grind

/-! ### round shapes -/
theorem len_small {X Y r : Int} (hr : 0 ≤ r) (hr' : r ≤ 524288) (h : sat (isqrt (X * X + Y * Y)) ≤ r) (hX : -1073741822 ≤ X ∧ X ≤ 1073741822) (hY : -1073741822 ≤ Y ∧ Y ≤ 1073741822) : (-r ≤ X ∧ X ≤ r) ∧ -r ≤ Y ∧ Y ≤ r := by
  have h0 := sq_nonneg' X
  have h1 := sq_nonneg' Y
  have m1 := mul_bd (A := 1073741822) (B := 1073741822) hX.1 hX.2 hX.1 hX.2
  have m2 := mul_bd (A := 1073741822) (B := 1073741822) hY.1 hY.2 hY.1 hY.2
  have hq : isqrt (X * X + Y * Y) ≤ r := by
    generalize isqrt (X * X + Y * Y) = w at *
    unfold sat at h
    (repeat' split at h) <;> omega
  have hl : ∀ z : Int, z * z ≤ X * X + Y * Y → 0 ≤ z → z ≤ r := fun z hz h0 => Int.le_trans (isq_le (by omega) (by omega) h0 hz) hq
  have key : ∀ z : Int, z * z ≤ X * X + Y * Y → -r ≤ z ∧ z ≤ r := fun z hz => by
    constructor
    · by_cases c : 0 ≤ -z
      · have := hl (-z) (by rw [Int.neg_mul_neg]; exact hz) c; omega
      · omega
    · by_cases c : 0 ≤ z
      · exact hl z hz c
      · omega
  exact ⟨key X (by omega), key Y (by omega)⟩
theorem dsq_near {x y u v r : Int} (hr : 0 ≤ r) (hr' : r ≤ 524288) (h : sat (isqrt (dsq x y u v)) ≤ r) : (-r ≤ sat u - sat x ∧ sat u - sat x ≤ r) ∧ -r ≤ sat v - sat y ∧ sat v - sat y ≤ r := by
  have a1 := dif_bd u x
  have a2 := dif_bd v y
  exact len_small hr hr' h a1 a2
theorem rnd_btw {d t : Int} (hd : -4194304 ≤ d) (hd' : d ≤ 4194304) (ht : 0 ≤ t) (ht' : t ≤ 65536) : (0 ≤ d → 0 ≤ fmul d t ∧ fmul d t ≤ d) ∧ (d ≤ 0 → d ≤ fmul d t ∧ fmul d t ≤ 0) := by
  unfold fmul
  rw [sat_id (x := d) (by omega) (by omega), sat_id (x := t) (by omega) (by omega)]
  have m := mul_bd (A := 4194304) (B := 65536) hd hd' (b := t) (by omega) ht'
  have hs := rdiv_spec (n := d * t) (d := 65536) (by omega) (by omega) (by omega) (by omega)
  have p1 : 0 ≤ d → 0 ≤ d * t ∧ d * t ≤ d * 65536 := fun h => ⟨Int.mul_nonneg h ht, Int.mul_le_mul_of_nonneg_left ht' h⟩
  have p2 : d ≤ 0 → d * 65536 ≤ d * t ∧ d * t ≤ 0 := fun h => by
    have h1 := Int.mul_le_mul_of_nonneg_left ht' (show 0 ≤ -d by omega)
    have h2 := Int.mul_nonneg (show 0 ≤ -d by omega) ht
    rw [Int.neg_mul] at h1 h2
    omega
  have hb : -4194304 ≤ rdiv (d * t) 65536 ∧ rdiv (d * t) 65536 ≤ 4194304 := by omega
  rw [sat_id (by omega) (by omega)]
  exact ⟨fun h => by have := p1 h; omega, fun h => by have := p2 h; omega⟩
theorem lerp_btw {a b t : Int} (ha : -270532608 ≤ a ∧ a ≤ 270532608) (hb : -270532608 ≤ b ∧ b ≤ 270532608) (hd : -4194304 ≤ b - a ∧ b - a ≤ 4194304) (ht : 0 ≤ t) (ht' : t ≤ 65536) :
    (a ≤ flerp a b t ∨ b ≤ flerp a b t) ∧ (flerp a b t ≤ a ∨ flerp a b t ≤ b) ∧ sat (flerp a b t) = flerp a b t := by
  have h := rnd_btw hd.1 hd.2 ht ht'
  unfold flerp
  have e1 : fsub b a = b - a := by unfold fsub; rw [sat_id (x := b) (by omega) (by omega), sat_id (x := a) (by omega) (by omega), sat_id (by omega) (by omega)]
  rw [e1]
  generalize fmul (b - a) t = F at *
  have hF : -4194304 ≤ F ∧ F ≤ 4194304 := by
    rcases Int.le_total 0 (b - a) with g | g
    · have := h.1 g; omega
    · have := h.2 g; omega
  have e2 : fadd a F = a + F := by unfold fadd; rw [sat_id (x := a) (by omega) (by omega), sat_id (x := F) (by omega) (by omega), sat_id (by omega) (by omega)]
  rw [e2]
  rcases Int.le_total 0 (b - a) with g | g
  · have := h.1 g; exact ⟨by omega, by omega, sat_id (by omega) (by omega)⟩
  · have := h.2 g; exact ⟨by omega, by omega, sat_id (by omega) (by omega)⟩
theorem cp_btw {ax ay bx byy : Int} (px py : Int) (ha : -270532608 ≤ ax ∧ ax ≤ 270532608) (hb : -270532608 ≤ bx ∧ bx ≤ 270532608) (ha' : -270532608 ≤ ay ∧ ay ≤ 270532608) (hb' : -270532608 ≤ byy ∧ byy ≤ 270532608)
    (hd : -4194304 ≤ bx - ax ∧ bx - ax ≤ 4194304) (hd' : -4194304 ≤ byy - ay ∧ byy - ay ≤ 4194304) :
    ((ax ≤ cpx ax ay bx byy px py ∨ bx ≤ cpx ax ay bx byy px py) ∧ (cpx ax ay bx byy px py ≤ ax ∨ cpx ax ay bx byy px py ≤ bx) ∧ sat (cpx ax ay bx byy px py) = cpx ax ay bx byy px py) ∧
    ((ay ≤ cpy ax ay bx byy px py ∨ byy ≤ cpy ax ay bx byy px py) ∧ (cpy ax ay bx byy px py ≤ ay ∨ cpy ax ay bx byy px py ≤ byy) ∧ sat (cpy ax ay bx byy px py) = cpy ax ay bx byy px py) := by
  have hf : 0 ≤ cpt ax ay bx byy px py ∧ cpt ax ay bx byy px py ≤ 65536 := frat_bd _ _
  have l1 := lerp_btw ha hb hd hf.1 hf.2
  have l2 := lerp_btw ha' hb' hd' hf.1 hf.2
  have s : ∀ z : Int, -270532608 ≤ z ∧ z ≤ 270532608 → sat z = z := fun z h => sat_id (by omega) (by omega)
  unfold cpx cpy
  rw [s ax ha, s bx hb, s ay ha', s byy hb']
  split
  · exact ⟨⟨by omega, by omega, s ax ha⟩, by omega, by omega, s ay ha'⟩
  · split
    · exact ⟨⟨by omega, by omega, s bx hb⟩, by omega, by omega, s byy hb'⟩
    · exact ⟨l1, l2⟩
theorem cp_pt (ax ay px py : Int) : cpx ax ay ax ay px py = sat ax ∧ cpy ax ay ax ay px py = sat ay := by
  have h : cpt ax ay ax ay px py = 0 := by unfold cpt; rw [dsq_self]; exact frat_n0 _
  unfold cpx cpy
  rw [if_pos h, if_pos h]
  exact ⟨rfl, rfl⟩
theorem segx_near {x y a b c d : Int} (h : segx x y x y a b c d = true) : (imin (sat a) (sat c) ≤ sat x ∧ sat x ≤ imax (sat a) (sat c)) ∧ imin (sat b) (sat d) ≤ sat y ∧ sat y ≤ imax (sat b) (sat d) := by
  unfold segx seg2 boverlaps bover at h
  rw [imin_self, imin_self, imax_self, imax_self] at h
  simp only [Bool.and_eq_true, decide_eq_true_eq] at h
  omega
theorem imin_or (a b : Int) : imin a b = a ∨ imin a b = b := by unfold imin; split <;> simp
/-- a point in a capsule. -/
theorem cap_near {c : List (Int × Int)} {r x y : Int} (hr : 0 ≤ r) (hr' : r ≤ 524288) (hc : NV c) (hl : c.length = 2) (hd : (-4194304 ≤ vx c 1 - vx c 0 ∧ vx c 1 - vx c 0 ≤ 4194304) ∧ -4194304 ≤ vy c 1 - vy c 0 ∧ vy c 1 - vy c 0 ≤ 4194304)
    (h : sdist x y x y (vx c 0) (vy c 0) (vx c 1) (vy c 1) ≤ r) : Near c r (sat x) (sat y) := by
  have s : ∀ z : Int, -270532608 ≤ z ∧ z ≤ 270532608 → sat z = z := fun z h => sat_id (by omega) (by omega)
  have h0 := hc 0
  have h1 := hc 1
  have sx0 := s _ h0.1
  have sy0 := s _ h0.2
  have sx1 := s _ h1.1
  have sy1 := s _ h1.2
  have near : ∀ X Y : Int, (vx c 0 ≤ X ∨ vx c 1 ≤ X) → (X ≤ vx c 0 ∨ X ≤ vx c 1) → (vy c 0 ≤ Y ∨ vy c 1 ≤ Y) → (Y ≤ vy c 0 ∨ Y ≤ vy c 1) → (-r ≤ X - sat x ∧ X - sat x ≤ r) → (-r ≤ Y - sat y ∧ Y - sat y ≤ r) → Near c r (sat x) (sat y) := fun X Y a1 a2 a3 a4 a5 a6 => by
    refine ⟨?_, ?_, ?_, ?_⟩
    · rcases a1 with g | g
      · exact ⟨0, by omega, by omega⟩
      · exact ⟨1, by omega, by omega⟩
    · rcases a2 with g | g
      · exact ⟨0, by omega, by omega⟩
      · exact ⟨1, by omega, by omega⟩
    · rcases a3 with g | g
      · exact ⟨0, by omega, by omega⟩
      · exact ⟨1, by omega, by omega⟩
    · rcases a4 with g | g
      · exact ⟨0, by omega, by omega⟩
      · exact ⟨1, by omega, by omega⟩
  have hseg : ∀ {u v : Int}, sat u = sat x → sat v = sat y → segx u v u v (vx c 0) (vy c 0) (vx c 1) (vy c 1) = true → Near c r (sat x) (sat y) := fun {u v} eu ev hs => by
    have hn := segx_near hs
    rw [sx0, sy0, sx1, sy1, eu, ev] at hn
    unfold imin imax at hn
    exact near (sat x) (sat y) (by omega) (by omega) (by omega) (by omega) (by omega) (by omega)
  unfold sdist at h
  split at h
  · rename_i hs; exact hseg rfl rfl hs
  · rw [cps_dist] at h
    rw [sx0, sy0, sx1, sy1] at h
    split at h
    · rename_i hs; exact hseg (sat_sat _) (sat_sat _) hs
    · rw [cbs_dist] at h
      have pick : sat (isqrt (cb0 x y (vx c 0) (vy c 0) (vx c 1) (vy c 1)).dist) ≤ r ∨ sat (isqrt (cb1 x y (vx c 0) (vy c 0) (vx c 1) (vy c 1)).dist) ≤ r ∨ sat (isqrt (cb2 x y x y (vx c 0) (vy c 0)).dist) ≤ r ∨ sat (isqrt (cb3 x y x y (vx c 1) (vy c 1)).dist) ≤ r := by
        rcases imin_or (imin (imin (cb0 x y (vx c 0) (vy c 0) (vx c 1) (vy c 1)).dist (cb1 x y (vx c 0) (vy c 0) (vx c 1) (vy c 1)).dist) (cb2 x y x y (vx c 0) (vy c 0)).dist) (cb3 x y x y (vx c 1) (vy c 1)).dist with e | e
        · rw [e] at h
          rcases imin_or (imin (cb0 x y (vx c 0) (vy c 0) (vx c 1) (vy c 1)).dist (cb1 x y (vx c 0) (vy c 0) (vx c 1) (vy c 1)).dist) (cb2 x y x y (vx c 0) (vy c 0)).dist with e | e
          · rw [e] at h
            rcases imin_or (cb0 x y (vx c 0) (vy c 0) (vx c 1) (vy c 1)).dist (cb1 x y (vx c 0) (vy c 0) (vx c 1) (vy c 1)).dist with e | e
            · rw [e] at h; exact .inl h
            · rw [e] at h; exact .inr (.inl h)
          · rw [e] at h; exact .inr (.inr (.inl h))
        · rw [e] at h; exact .inr (.inr (.inr h))
      have hb := cp_btw (ax := vx c 0) (ay := vy c 0) (bx := vx c 1) (byy := vy c 1) (sat x) (sat y) h0.1 h1.1 h0.2 h1.2 hd.1 hd.2
      unfold cb0 cb1 cb2 cb3 Q4.dist at pick
      simp only [(cp_pt _ _ _ _).1, (cp_pt _ _ _ _).2, sat_sat, sx0, sy0, sx1, sy1] at pick
      rcases pick with g | g | g | g
      · have e := dsq_near hr hr' g
        rw [sat_sat, sat_sat, hb.1.2.2, hb.2.2.2] at e
        exact near _ _ hb.1.1 hb.1.2.1 hb.2.1 hb.2.2.1 e.1 e.2
      · have e := dsq_near hr hr' g
        rw [sat_sat, sat_sat, hb.1.2.2, hb.2.2.2] at e
        exact near _ _ hb.1.1 hb.1.2.1 hb.2.1 hb.2.2.1 e.1 e.2
      · have e := dsq_near hr hr' g
        rw [sat_sat, sat_sat, sx0, sy0] at e
        exact near _ _ (.inl (Int.le_refl _)) (.inl (Int.le_refl _)) (.inl (Int.le_refl _)) (.inl (Int.le_refl _)) e.1 e.2
      · have e := dsq_near hr hr' g
        rw [sat_sat, sat_sat, sx1, sy1] at e
        exact near _ _ (.inr (Int.le_refl _)) (.inr (Int.le_refl _)) (.inr (Int.le_refl _)) (.inr (Int.le_refl _)) e.1 e.2
theorem core_dif {k r : Int} {ps : List (Int × Int)} {px py : Int} (a : Int) (hv : sval k r ps = 0) (hp : -268435456 ≤ px ∧ px ≤ 268435456) (hq : -268435456 ≤ py ∧ py ≤ 268435456) {i j : Nat} (hi : i < ps.length) (hj : j < ps.length) :
    (-4194304 ≤ vx (core k r ps px py a) i - vx (core k r ps px py a) j ∧ vx (core k r ps px py a) i - vx (core k r ps px py a) j ≤ 4194304) ∧
    -4194304 ≤ vy (core k r ps px py a) i - vy (core k r ps px py a) j ∧ vy (core k r ps px py a) i - vy (core k r ps px py a) j ≤ 4194304 := by
  have ir := (sval_ok hv).ir
  rw [core_if hv, vx_map _ _ _ _ hi, vy_map _ _ _ _ hi, vx_map _ _ _ _ hj, vy_map _ _ _ _ hj]
  obtain ⟨⟨x1, x2⟩, ⟨y1, y2⟩⟩ := inr_bd ir hi
  obtain ⟨⟨x3, x4⟩, ⟨y3, y4⟩⟩ := inr_bd ir hj
  have b1 := rt_bd a x1 x2 y1 y2
  have b2 := rt_bd a x3 x4 y3 y4
  unfold apx apy
  have e : ∀ r p : Int, -2097152 ≤ r → r ≤ 2097152 → -268435456 ≤ p → p ≤ 268435456 → fadd r p = r + p := fun r p h1 h2 h3 h4 => by
    unfold fadd; rw [sat_id (x := r) (by omega) (by omega), sat_id (x := p) (by omega) (by omega), sat_id (by omega) (by omega)]
  rw [e _ px b1.1.1 b1.1.2 hp.1 hp.2, e _ py b1.2.1 b1.2.2 hq.1 hq.2, e _ px b2.1.1 b2.1.2 hp.1 hp.2, e _ py b2.2.1 b2.2.2 hq.1 hq.2]
  omega
theorem shape_near {k r : Int} {ps : List (Int × Int)} {px py a x y : Int} (hv : sval k r ps = 0) (hp : -268435456 ≤ px ∧ px ≤ 268435456) (hq : -268435456 ≤ py ∧ py ≤ 268435456) (h : shC (core k r ps px py a) r x y = true) :
    Near (core k r ps px py a) r (sat x) (sat y) := by
  have ok := sval_ok hv
  have r0 := ok.r0
  have hc := core_nv k r ps a hp hq
  have l1 := core_len_if (px := px) (py := py) (a := a) hv
  have hpos := ok.pos
  unfold shC at h
  rw [if_neg (by omega)] at h
  by_cases e1 : (core k r ps px py a).length = 1
  · rw [if_pos e1] at h
    have hn := dsq_near r0.1 r0.2 (circ_near r0.2 (of_decide_eq_true h))
    have h0 := hc 0
    rw [sat_id (x := vx (core k r ps px py a) 0) (by omega) (by omega), sat_id (x := vy (core k r ps px py a) 0) (by omega) (by omega)] at hn
    exact ⟨⟨0, by omega, by omega⟩, ⟨0, by omega, by omega⟩, ⟨0, by omega, by omega⟩, ⟨0, by omega, by omega⟩⟩
  · rw [if_neg e1] at h
    by_cases e2 : (core k r ps px py a).length = 2
    · rw [if_pos e2] at h
      exact cap_near r0.1 r0.2 hc e2 (core_dif a hv hp hq (by omega) (by omega)) (of_decide_eq_true h)
    · rw [if_neg e2] at h
      have h3 : k = 3 := by
        have k1 := ok.k1
        have k3 := ok.k3
        have n1 := ok.n1
        have n2 := ok.n2
        omega
      exact pol_near hv h3 hp hq h r0.1
/-- what the box and the expanded box hold. -/
theorem box_out {c : List (Int × Int)} {r x y : Int} (hc : NV c) (hl : 0 < c.length) (hr : 0 ≤ r) (hr' : r ≤ 524288) :
    bvalid (boxR c r).a (boxR c r).b (boxR c r).c (boxR c r).d = true ∧ (Near c r (sat x) (sat y) →
    bcp (bexp (boxR c r).a (boxR c r).b (boxR c r).c (boxR c r).d 2).a (bexp (boxR c r).a (boxR c r).b (boxR c r).c (boxR c r).d 2).b (bexp (boxR c r).a (boxR c r).b (boxR c r).c (boxR c r).d 2).c (bexp (boxR c r).a (boxR c r).b (boxR c r).c (boxR c r).d 2).d x y = true) := by
  have hs : ∀ j, sat (vx c j) = vx c j ∧ sat (vy c j) = vy c j := fun j => ⟨sat_id (by have := (hc j).1; omega) (by have := (hc j).1; omega), sat_id (by have := (hc j).2; omega) (by have := (hc j).2; omega)⟩
  have h1 : ∀ i, i < c.length → _ := fun i hi => lohi c (c.length - 1) i (by omega)
  have h2 := lohi_bd (c := c) (B := 270532608) (fun j => by rw [(hs j).1]; exact (hc j).1) (fun j => by rw [(hs j).2]; exact (hc j).2) (c.length - 1)
  have h0 := h1 0 hl
  have hsx := sat_le x
  have hsx' := sat_ge x
  have hsy := sat_le y
  have hsy' := sat_ge y
  rw [(hs 0).1, (hs 0).2] at h0
  have eb : boxR c r = ⟨loX c (c.length - 1) - r, loY c (c.length - 1) - r, hiX c (c.length - 1) + r, hiY c (c.length - 1) + r⟩ := by
    unfold boxR
    rw [if_neg (by omega)]
    have c0 := hc 0
    have es : ∀ q : Int, -270532608 ≤ q → q ≤ 270532608 → fsub q r = q - r ∧ fadd q r = q + r := fun q g g' => by
      unfold fsub fadd
      rw [sat_id (x := q) (by omega) (by omega), sat_id (x := r) (by omega) (by omega), sat_id (by omega) (by omega), sat_id (by omega) (by omega)]
      exact ⟨rfl, rfl⟩
    rw [(es _ (by omega) (by omega)).1, (es (loY c (c.length - 1)) (by omega) (by omega)).1, (es (hiX c (c.length - 1)) (by omega) (by omega)).2, (es (hiY c (c.length - 1)) (by omega) (by omega)).2]
  have c0 := hc 0
  rw [eb]
  have hX : ∀ i, i < c.length → loX c (c.length - 1) ≤ vx c i ∧ vx c i ≤ hiX c (c.length - 1) ∧ loY c (c.length - 1) ≤ vy c i ∧ vy c i ≤ hiY c (c.length - 1) := fun i hi => by
    have := h1 i hi
    rw [(hs i).1, (hs i).2] at this
    omega
  clear h1 hs eb
  generalize loX c (c.length - 1) = A at *
  generalize loY c (c.length - 1) = B at *
  generalize hiX c (c.length - 1) = D at *
  generalize hiY c (c.length - 1) = E at *
  have sA : ∀ z : Int, -271100000 ≤ z → z ≤ 271100000 → sat z = z := fun z g g' => sat_id (by omega) (by omega)
  have hv : bvalid (A - r) (B - r) (D + r) (E + r) = true := by
    unfold bvalid vsatd
    rw [sA (A - r) (by omega) (by omega), sA (B - r) (by omega) (by omega), sA (D + r) (by omega) (by omega), sA (E + r) (by omega) (by omega)]
    simp only [Bool.and_eq_true, decide_eq_true_eq, and_true, true_and]
    omega
  refine ⟨hv, fun hn => ?_⟩
  have e1 : fsub (A - r) 2 = A - r - 2 := by unfold fsub; rw [sA (A - r) (by omega) (by omega), sat_id (x := 2) (by omega) (by omega), sA _ (by omega) (by omega)]
  have e2 : fsub (B - r) 2 = B - r - 2 := by unfold fsub; rw [sA (B - r) (by omega) (by omega), sat_id (x := 2) (by omega) (by omega), sA _ (by omega) (by omega)]
  have e3 : fadd (D + r) 2 = D + r + 2 := by unfold fadd; rw [sA (D + r) (by omega) (by omega), sat_id (x := 2) (by omega) (by omega), sA _ (by omega) (by omega)]
  have e4 : fadd (E + r) 2 = E + r + 2 := by unfold fadd; rw [sA (E + r) (by omega) (by omega), sat_id (x := 2) (by omega) (by omega), sA _ (by omega) (by omega)]
  have hv' : bvalid (A - r - 2) (B - r - 2) (D + r + 2) (E + r + 2) = true := by
    unfold bvalid vsatd
    rw [sA (A - r - 2) (by omega) (by omega), sA (B - r - 2) (by omega) (by omega), sA (D + r + 2) (by omega) (by omega), sA (E + r + 2) (by omega) (by omega)]
    simp only [Bool.and_eq_true, decide_eq_true_eq, and_true, true_and]
    omega
  have eq : bexp (A - r) (B - r) (D + r) (E + r) 2 = ⟨A - r - 2, B - r - 2, D + r + 2, E + r + 2⟩ := by
    unfold bexp
    rw [hv, e1, e2, e3, e4, hv']
    rfl
  show bcp (bexp (A - r) (B - r) (D + r) (E + r) 2).a (bexp (A - r) (B - r) (D + r) (E + r) 2).b (bexp (A - r) (B - r) (D + r) (E + r) 2).c (bexp (A - r) (B - r) (D + r) (E + r) 2).d x y = true
  rw [eq]
  show bcp (A - r - 2) (B - r - 2) (D + r + 2) (E + r + 2) x y = true
  obtain ⟨⟨i1, j1, k1⟩, ⟨i2, j2, k2⟩, ⟨i3, j3, k3⟩, ⟨i4, j4, k4⟩⟩ := hn
  have g1 := hX i1 j1
  have g2 := hX i2 j2
  have g3 := hX i3 j3
  have g4 := hX i4 j4
  unfold bcp
  rw [hv']
  simp only [Bool.and_eq_true, decide_eq_true_eq, true_and]
  omega
end Go.Carom
