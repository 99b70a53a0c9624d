/-
  The plain law of chapter 1: fixed-point numbers on the integers. Conditions: none; no program in sight.
-/
import Derived.Test.YtehlfgikcipdaaaAl18
import Derived.ProofKit
import Derived.Laws.BitsLemmas
set_option linter.all false
namespace Go.Carom
open Go

theorem w64_id {n : Int} (h : -9223372036854775808 ≤ n) (h' : n ≤ 9223372036854775807) : IntKind.i64.wrap n = n := by
  simp [IntKind.wrap, IntKind.signed, IntKind.bits]; omega
theorem wu64_id {n : Int} (h : 0 ≤ n) (h' : n ≤ 18446744073709551615) : IntKind.u64.wrap n = n := by
  simp [IntKind.wrap, IntKind.signed, IntKind.bits]; omega

/-- a number clamped to the numbers that there are. -/
def sat (x : Int) : Int := if x < -536870911 then -536870911 else if 536870911 < x then 536870911 else x
theorem sat_le (x : Int) : sat x ≤ 536870911 := by unfold sat; split; omega; split <;> omega
theorem sat_ge (x : Int) : -536870911 ≤ sat x := by unfold sat; split; omega; split <;> omega
theorem sat_id {x : Int} (h : -536870911 ≤ x) (h' : x ≤ 536870911) : sat x = x := by unfold sat; split; omega; split <;> omega
theorem sat_sat (x : Int) : sat (sat x) = sat x := sat_id (sat_ge x) (sat_le x)
theorem sat_neg (x : Int) : sat (-x) = -sat x := by unfold sat; split <;> split <;> (try split) <;> (try split) <;> omega
theorem sat_zero : sat 0 = 0 := rfl

theorem mul_bd {a b A B : Int} (ha : -A ≤ a) (ha' : a ≤ A) (hb : -B ≤ b) (hb' : b ≤ B) : -(A * B) ≤ a * b ∧ a * b ≤ A * B := by
  have hA : 0 ≤ A := by omega
  have hB : 0 ≤ B := by omega
  have h1 : a * b ≤ A * B := by
    rcases Int.le_total 0 a with h | h
    · exact Int.le_trans (Int.mul_le_mul_of_nonneg_left hb' h) (Int.mul_le_mul_of_nonneg_right ha' hB)
    · have : a * b ≤ a * (-B) := Int.mul_le_mul_of_nonpos_left h hb
      have h2 : (-a) * B ≤ A * B := Int.mul_le_mul_of_nonneg_right (by omega) hB
      have h3 : a * (-B) = (-a) * B := by rw [Int.mul_neg, Int.neg_mul]
      omega
  have h2 : -(A * B) ≤ a * b := by
    have h3 : a * (-b) ≤ A * B := by
      rcases Int.le_total 0 a with h | h
      · exact Int.le_trans (Int.mul_le_mul_of_nonneg_left (by omega) h) (Int.mul_le_mul_of_nonneg_right ha' hB)
      · have h4 : a * (-b) = (-a) * b := by rw [Int.mul_neg, Int.neg_mul]
        rw [h4]
        exact Int.le_trans (Int.mul_le_mul_of_nonneg_left hb' (by omega)) (Int.mul_le_mul_of_nonneg_right (by omega) hB)
    rw [Int.mul_neg] at h3
    omega
  exact ⟨h2, h1⟩
theorem sat_mul (a b : Int) : -288230375077969921 ≤ sat a * sat b ∧ sat a * sat b ≤ 288230375077969921 := mul_bd (A := 536870911) (B := 536870911) (sat_ge a) (sat_le a) (sat_ge b) (sat_le b)

/-- the quotient, rounded to the nearest, halves away from zero. -/
def rdiv (n d : Int) : Int :=
  if d < 1 ∨ 4611686018427387904 < d ∨ n < -4611686018427387904 ∨ 4611686018427387904 < n then 0
  else if d - n.tmod d ≤ n.tmod d then n.tdiv d + 1 else if d + n.tmod d ≤ -(n.tmod d) then n.tdiv d - 1 else n.tdiv d

theorem tdiv_bd {n d : Int} (hd : 1 ≤ d) (h : -4611686018427387904 ≤ n) (h' : n ≤ 4611686018427387904) : -4611686018427387904 ≤ n.tdiv d ∧ n.tdiv d ≤ 4611686018427387904 := by
  rcases Int.le_total 0 n with h0 | h0
  · rw [Int.tdiv_eq_ediv_of_nonneg h0]
    have := Int.ediv_le_self d h0
    have := Int.ediv_nonneg h0 (by omega : 0 ≤ d)
    omega
  · have e : n.tdiv d = -((-n).tdiv d) := by rw [Int.neg_tdiv]; omega
    rw [e, Int.tdiv_eq_ediv_of_nonneg (by omega : 0 ≤ -n)]
    have := Int.ediv_le_self d (by omega : 0 ≤ -n)
    have := Int.ediv_nonneg (by omega : 0 ≤ -n) (by omega : 0 ≤ d)
    omega
theorem tmod_bd {n d : Int} (hd : 1 ≤ d) : -d < n.tmod d ∧ n.tmod d < d := by
  rcases Int.le_total 0 n with h0 | h0
  · have := Int.tmod_lt_of_pos n (by omega : 0 < d)
    have := Int.tmod_nonneg d h0
    omega
  · have e : n.tmod d = -((-n).tmod d) := by rw [Int.neg_tmod]; omega
    have := Int.tmod_lt_of_pos (-n) (by omega : 0 < d)
    have := Int.tmod_nonneg d (by omega : 0 ≤ -n)
    omega

/-- the same, told as the reference tells it. -/
theorem rdiv_ref {n d : Int} (hd : 1 ≤ d) (hd' : d ≤ 4611686018427387904) (h : -4611686018427387904 ≤ n) (h' : n ≤ 4611686018427387904) :
    rdiv n d = let m := if n < 0 then -n else n
      let q := m.tdiv d
      let r := m - q * d
      let q' := if d - r ≤ r then q + 1 else q
      if n < 0 then -q' else q' := by
  unfold rdiv
  rw [if_neg (by omega)]
  have e : ∀ m : Int, m - m.tdiv d * d = m.tmod d := fun m => by have := Int.tmod_add_tdiv_mul m d; omega
  simp only [e]
  by_cases hn : n < 0
  · rw [if_pos hn, if_pos hn]
    have h1 : n.tmod d = -((-n).tmod d) := by rw [Int.neg_tmod]; omega
    have h2 : n.tdiv d = -((-n).tdiv d) := by rw [Int.neg_tdiv]; omega
    have h3 := Int.tmod_nonneg d (by omega : 0 ≤ -n)
    rw [h1, h2]
    generalize (-n).tdiv d = q at *
    generalize (-n).tmod d = r at *
    (repeat' split) <;> omega
  · rw [if_neg hn, if_neg hn]
    have h3 := Int.tmod_nonneg d (by omega : 0 ≤ n)
    generalize n.tdiv d = q at *
    generalize n.tmod d = r at *
    (repeat' split) <;> omega

theorem rdiv_neg (n d : Int) : rdiv (-n) d = -rdiv n d := by
  unfold rdiv
  by_cases hc : d < 1 ∨ 4611686018427387904 < d ∨ n < -4611686018427387904 ∨ 4611686018427387904 < n
  · rw [if_pos hc, if_pos (by omega)]; rfl
  · rw [if_neg hc, if_neg (by omega), Int.neg_tmod, Int.neg_tdiv]
    have := tmod_bd (n := n) (d := d) (by omega)
    generalize n.tdiv d = q at *
    generalize n.tmod d = r at *
    (repeat' split) <;> omega
theorem rdiv_bd (n d : Int) : -4611686018427387905 ≤ rdiv n d ∧ rdiv n d ≤ 4611686018427387905 := by
  unfold rdiv
  split
  · omega
  · have := tdiv_bd (n := n) (d := d) (by omega) (by omega) (by omega)
    split
    · omega
    · split <;> omega

def fadd (a b : Int) : Int := sat (sat a + sat b)
def fsub (a b : Int) : Int := sat (sat a - sat b)
def fmul (a b : Int) : Int := sat (rdiv (sat a * sat b) 65536)
def fclamp (x lo hi : Int) : Int := if hi < lo ∨ x < lo then lo else if hi < x then hi else x
def fdiv (a b : Int) : Int :=
  if sat b = 0 then fclamp (sat a * 65536) (-1) 1 * 536870911
  else if sat b < 0 then sat (rdiv (-(sat a * 65536)) (-(sat b))) else sat (rdiv (sat a * 65536) (sat b))

/-- the integer root, bit by bit. -/
def isqB (n : Int) : Nat → Int → Int
  | 0, r => r
  | k + 1, r => isqB n k (if (r + 2 ^ k) * (r + 2 ^ k) ≤ n then r + 2 ^ k else r)
def isqrt (n : Int) : Int := if n < 0 ∨ 4611686018427387904 < n then 0 else isqB n 32 0

theorem isqB_spec (n : Int) (k : Nat) (r : Int) (h0 : 0 ≤ r) (h : r * r ≤ n) (h' : n < (r + 2 ^ k) * (r + 2 ^ k)) :
    0 ≤ isqB n k r ∧ isqB n k r * isqB n k r ≤ n ∧ n < (isqB n k r + 1) * (isqB n k r + 1) := by
  induction k generalizing r with
  | zero => exact ⟨h0, h, by simpa [isqB] using h'⟩
  | succ k ih =>
    unfold isqB
    have hp : (0 : Int) < 2 ^ k := Int.pow_pos (by omega)
    have hs : (2 : Int) ^ (k + 1) = 2 ^ k + 2 ^ k := by rw [Int.pow_succ]; omega
    split
    · exact ih _ (by omega) (by assumption) (by rw [Int.add_assoc, ← hs]; exact h')
    · exact ih _ h0 h (by omega)
theorem isqrt_spec {n : Int} (h : 0 ≤ n) (h' : n ≤ 4611686018427387904) : 0 ≤ isqrt n ∧ isqrt n * isqrt n ≤ n ∧ n < (isqrt n + 1) * (isqrt n + 1) := by
  unfold isqrt
  rw [if_neg (by omega)]
  exact isqB_spec n 32 0 (by omega) (by omega) (by simp; omega)
theorem sq_lt {a b : Int} (ha : 0 ≤ a) (hb : 0 ≤ b) (h : a * a < b * b) : a < b := by
  apply Int.lt_of_not_ge
  intro hc
  have : b * b ≤ a * a := Int.mul_le_mul hc hc hb ha
  omega
theorem isqrt_nonneg (n : Int) : 0 ≤ isqrt n := by
  by_cases h : n < 0 ∨ 4611686018427387904 < n
  · unfold isqrt; rw [if_pos h]; omega
  · exact (isqrt_spec (by omega) (by omega)).1
theorem isqrt_le (n : Int) : isqrt n ≤ 2147483648 := by
  by_cases h : n < 0 ∨ 4611686018427387904 < n
  · unfold isqrt; rw [if_pos h]; omega
  · have hs := isqrt_spec (n := n) (by omega) (by omega)
    have := sq_lt (a := isqrt n) (b := 2147483649) hs.1 (by omega) (by omega)
    omega

/-! ### the machine's sums, products and differences of clamped numbers are exact -/
@[go_sem] theorem w_add (a b : Int) : IntKind.i64.wrap (sat a + sat b) = sat a + sat b := by have := sat_le a; have := sat_ge a; have := sat_le b; have := sat_ge b; exact w64_id (by omega) (by omega)
@[go_sem] theorem w_sub (a b : Int) : IntKind.i64.wrap (sat a - sat b) = sat a - sat b := by have := sat_le a; have := sat_ge a; have := sat_le b; have := sat_ge b; exact w64_id (by omega) (by omega)
@[go_sem] theorem w_neg (a : Int) : IntKind.i64.wrap (0 - sat a) = -sat a := by have := sat_le a; have := sat_ge a; rw [w64_id (by omega) (by omega)]; omega
@[go_sem] theorem w_mul (a b : Int) : IntKind.i64.wrap (sat a * sat b) = sat a * sat b := by have := sat_mul a b; exact w64_id (by omega) (by omega)
@[go_sem] theorem w_one (a : Int) : IntKind.i64.wrap (sat a * 65536) = sat a * 65536 := by have := sat_le a; have := sat_ge a; exact w64_id (by omega) (by omega)
@[go_sem] theorem w_none (a : Int) : IntKind.i64.wrap (0 - sat a * 65536) = -(sat a * 65536) := by have := sat_le a; have := sat_ge a; rw [w64_id (by omega) (by omega)]; omega
@[go_sem] theorem w_none' (a : Int) : IntKind.i64.wrap (-sat a * 65536) = -(sat a * 65536) := by have := sat_le a; have := sat_ge a; rw [w64_id (by omega) (by omega)]; omega
@[go_sem] theorem w_dot (a b c d : Int) : IntKind.i64.wrap (sat a * sat b + sat c * sat d) = sat a * sat b + sat c * sat d := by have := sat_mul a b; have := sat_mul c d; exact w64_id (by omega) (by omega)
@[go_sem] theorem w_crs (a b c d : Int) : IntKind.i64.wrap (sat a * sat b - sat c * sat d) = sat a * sat b - sat c * sat d := by have := sat_mul a b; have := sat_mul c d; exact w64_id (by omega) (by omega)
theorem dif_bd (a b : Int) : -1073741822 ≤ sat a - sat b ∧ sat a - sat b ≤ 1073741822 := by have := sat_le a; have := sat_ge a; have := sat_le b; have := sat_ge b; omega
theorem dif_mul (a b c d : Int) : -1152921500311879684 ≤ (sat a - sat b) * (sat c - sat d) ∧ (sat a - sat b) * (sat c - sat d) ≤ 1152921500311879684 :=
  mul_bd (A := 1073741822) (B := 1073741822) (dif_bd a b).1 (dif_bd a b).2 (dif_bd c d).1 (dif_bd c d).2
@[go_sem] theorem w_dmul (a b c d : Int) : IntKind.i64.wrap ((sat a - sat b) * (sat c - sat d)) = (sat a - sat b) * (sat c - sat d) := by have := dif_mul a b c d; exact w64_id (by omega) (by omega)
@[go_sem] theorem w_dadd (a b c d a' b' c' d' : Int) : IntKind.i64.wrap ((sat a - sat b) * (sat c - sat d) + (sat a' - sat b') * (sat c' - sat d')) = (sat a - sat b) * (sat c - sat d) + (sat a' - sat b') * (sat c' - sat d') := by
  have := dif_mul a b c d; have := dif_mul a' b' c' d'; exact w64_id (by omega) (by omega)
@[go_sem] theorem w_dsub (a b c d a' b' c' d' : Int) : IntKind.i64.wrap ((sat a - sat b) * (sat c - sat d) - (sat a' - sat b') * (sat c' - sat d')) = (sat a - sat b) * (sat c - sat d) - (sat a' - sat b') * (sat c' - sat d') := by
  have := dif_mul a b c d; have := dif_mul a' b' c' d'; exact w64_id (by omega) (by omega)
/-- the bit that a round tries. -/
def bitOf : Nat → Int
  | 0 => 0
  | k + 1 => 2 ^ k
theorem bitOf_zero : bitOf 0 = 0 := rfl
theorem bitOf_succ (k : Nat) : bitOf (k + 1) = 2 ^ k := rfl
theorem bitOf_shr (k : Nat) : ((2 : Int) ^ k).fdiv (2 ^ 1) = bitOf k := by
  cases k with
  | zero => decide
  | succ k => rw [bitOf_succ, Int.pow_succ, Int.fdiv_eq_ediv_of_nonneg _ (by decide)]; exact Int.mul_ediv_cancel _ (by decide)
theorem bitOf_half (k : Nat) : IntKind.i64.wrap (((2 : Int) ^ k).tdiv 2) = bitOf k ∨ 32 < k := by
  by_cases h : 32 < k
  · exact .inr h
  · left
    have hk : k ≤ 32 := by omega
    clear h
    have : ∀ k : Nat, k < 33 → IntKind.i64.wrap (((2 : Int) ^ k).tdiv 2) = bitOf k := by decide
    exact this k (by omega)
theorem pow_le32 (k : Nat) (h : k ≤ 32) : (2 : Int) ^ k ≤ 4294967296 := by
  have : ∀ k : Nat, k < 33 → (2 : Int) ^ k ≤ 4294967296 := by decide
  exact this k (by omega)
/-- what is known of the root at the head of a round. -/
structure IS (n : Int) where
  k : Nat
  r : Int
  hk : k ≤ 32
  hm : (2 : Int) ^ k ∣ r
  h0 : 0 ≤ r
  h1 : r + 2 ^ k ≤ 4294967296
  he : isqB n k r = isqB n 32 0
def IS.start (n : Int) : IS n := ⟨32, 0, by omega, ⟨0, by simp⟩, by omega, by decide, rfl⟩
theorem is_dvd {k : Nat} {r : Int} (h : (2 : Int) ^ (k + 1) ∣ r) : (2 : Int) ^ k ∣ r := Int.dvd_trans ⟨2, by rw [Int.pow_succ]⟩ h
theorem is_up {k : Nat} {r : Int} (h1 : r + 2 ^ (k + 1) ≤ 4294967296) : r + 2 ^ k + 2 ^ k ≤ 4294967296 := by
  rw [Int.pow_succ] at h1; omega
theorem is_dn {k : Nat} {r : Int} (h1 : r + 2 ^ (k + 1) ≤ 4294967296) : r + 2 ^ k ≤ 4294967296 := by
  have : (0 : Int) < 2 ^ k := Int.pow_pos (by omega)
  have := is_up h1; omega
theorem is_or {k : Nat} {r : Int} (hm : (2 : Int) ^ (k + 1) ∣ r) (h0 : 0 ≤ r) (h1 : r + 2 ^ (k + 1) ≤ 4294967296) : bits .or .i64 r (2 ^ k) = r + 2 ^ k := by
  have hp : (0 : Int) < 2 ^ k := Int.pow_pos (by omega)
  have := is_dn h1
  refine bits_join .i64 63 (by decide) (fun n h h' => w64_id (by omega) (by simp at h'; omega)) (k + 1) r (2 ^ k) h0 (Int.emod_eq_zero_of_dvd hm) (by omega) (by omega) ?_ (by omega)
  rw [Int.pow_succ]; omega
theorem is_sq {k : Nat} {r : Int} (h0 : 0 ≤ r) (h1 : r + 2 ^ (k + 1) ≤ 4294967296) : 0 ≤ r + 2 ^ k ∧ r + 2 ^ k ≤ 4294967295 ∧ 0 ≤ (r + 2 ^ k) * (r + 2 ^ k) ∧ (r + 2 ^ k) * (r + 2 ^ k) ≤ 18446744065119617025 := by
  have hp : (0 : Int) < 2 ^ k := Int.pow_pos (by omega)
  have := is_up h1
  have h2 : r + 2 ^ k ≤ 4294967295 := by omega
  have h3 : 0 ≤ r + 2 ^ k := by omega
  exact ⟨h3, h2, Int.mul_nonneg h3 h3, Int.mul_le_mul h2 h2 h3 (by omega)⟩
theorem is_div {n s : Int} (hs : 0 < s) (hn : 0 ≤ n) : (s ≤ n.tdiv s) = (s * s ≤ n) := by
  rw [Int.tdiv_eq_ediv_of_nonneg hn]
  exact propext (Int.le_ediv_iff_mul_le hs)
theorem is_half {k : Nat} (h : k + 1 ≤ 32) : IntKind.i64.wrap (((2 : Int) ^ k).tdiv 2) = bitOf k := by
  rcases bitOf_half k with h' | h'
  · exact h'
  · omega
theorem is_pos (k : Nat) : (0 : Int) < 2 ^ k := Int.pow_pos (by omega)
theorem is_done {n r : Int} (h : 0 ≤ n) (h' : n ≤ 4611686018427387904) (he : isqB n 0 r = isqB n 32 0) : r = isqrt n := by
  unfold isqrt; rw [if_neg (by omega), ← he, isqB]
theorem acond_tt (A B : Unit → Prop) : AL.acond true A B = A () := propext ⟨fun h => h.1 rfl, fun h => AL.acond_true h⟩
theorem acond_ff (A B : Unit → Prop) : AL.acond false A B = B () := propext ⟨fun h => h.2 rfl, fun h => AL.acond_false h⟩
def IS.up {n : Int} {k : Nat} {r : Int} (hk : k + 1 ≤ 32) (hm : (2 : Int) ^ (k + 1) ∣ r) (h0 : 0 ≤ r) (h1 : r + 2 ^ (k + 1) ≤ 4294967296) (he : isqB n (k + 1) r = isqB n 32 0)
    (h : (r + 2 ^ k) * (r + 2 ^ k) ≤ n) : IS n :=
  ⟨k, r + 2 ^ k, by omega, Int.dvd_add (is_dvd hm) ⟨1, by simp⟩, (is_sq h0 h1).1, is_up h1, by rw [← he, isqB, if_pos h]⟩
def IS.dn {n : Int} {k : Nat} {r : Int} (hk : k + 1 ≤ 32) (hm : (2 : Int) ^ (k + 1) ∣ r) (h0 : 0 ≤ r) (h1 : r + 2 ^ (k + 1) ≤ 4294967296) (he : isqB n (k + 1) r = isqB n 32 0)
    (h : ¬ (r + 2 ^ k) * (r + 2 ^ k) ≤ n) : IS n :=
  ⟨k, r, by omega, is_dvd hm, h0, is_dn h1, by rw [← he, isqB, if_neg h]⟩

theorem leaf_i {a b : Int} (h : a = b) : AL.AV.sc (.int .i64 a) = AL.AV.i b := by rw [h]
theorem leaf_b {a b : Bool} (h : a = b) : AL.AV.sc (.bool a) = AL.AV.b b := by rw [h]
end Go.Carom
