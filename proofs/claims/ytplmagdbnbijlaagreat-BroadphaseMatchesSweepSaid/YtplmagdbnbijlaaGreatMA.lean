/-
  The plain law of chapter 1: fixed-point numbers on the integers. Conditions: none; no program in sight.
-/
import Derived.Test.YtplmagdbnbijlaaGreatAlB
import Derived.ProofKit
import Derived.Laws.BitsLemmas
set_option linter.all false
namespace Go.Carom
open Go
theorem w64_id {n : Int} (h : -9223372036854775808 ≤ n) (h' : n ≤ 9223372036854775807) : IntKind.i64.wrap n = n := by
  simp [IntKind.wrap, IntKind.signed, IntKind.bits]; omega
theorem wu64_id {n : Int} (h : 0 ≤ n) (h' : n ≤ 18446744073709551615) : IntKind.u64.wrap n = n := by
  simp [IntKind.wrap, IntKind.signed, IntKind.bits]; omega
def sat (x : Int) : Int := if x < -536870911 then -536870911 else if 536870911 < x then 536870911 else x
theorem sat_le (x : Int) : sat x ≤ 536870911 := by unfold sat; split; omega; split <;> omega
theorem sat_ge (x : Int) : -536870911 ≤ sat x := by unfold sat; split; omega; split <;> omega
theorem sat_id {x : Int} (h : -536870911 ≤ x) (h' : x ≤ 536870911) : sat x = x := by unfold sat; split; omega; split <;> omega
theorem sat_sat (x : Int) : sat (sat x) = sat x := sat_id (sat_ge x) (sat_le x)
theorem sat_zero : sat 0 = 0 := rfl
theorem mul_bd {a b A B : Int} (ha : -A ≤ a) (ha' : a ≤ A) (hb : -B ≤ b) (hb' : b ≤ B) : -(A * B) ≤ a * b ∧ a * b ≤ A * B := by
  have hA : 0 ≤ A := by omega
  have hB : 0 ≤ B := by omega
  have h1 : a * b ≤ A * B := by
    rcases Int.le_total 0 a with h | h
    · exact Int.le_trans (Int.mul_le_mul_of_nonneg_left hb' h) (Int.mul_le_mul_of_nonneg_right ha' hB)
    · have : a * b ≤ a * (-B) := Int.mul_le_mul_of_nonpos_left h hb
      have h2 : (-a) * B ≤ A * B := Int.mul_le_mul_of_nonneg_right (by omega) hB
      have h3 : a * (-B) = (-a) * B := by rw [Int.mul_neg, Int.neg_mul]
      omega
  have h2 : -(A * B) ≤ a * b := by
    have h3 : a * (-b) ≤ A * B := by
      rcases Int.le_total 0 a with h | h
      · exact Int.le_trans (Int.mul_le_mul_of_nonneg_left (by omega) h) (Int.mul_le_mul_of_nonneg_right ha' hB)
      · have h4 : a * (-b) = (-a) * b := by rw [Int.mul_neg, Int.neg_mul]
        rw [h4]
        exact Int.le_trans (Int.mul_le_mul_of_nonneg_left hb' (by omega)) (Int.mul_le_mul_of_nonneg_right (by omega) hB)
    rw [Int.mul_neg] at h3
    omega
  exact ⟨h2, h1⟩
theorem sat_mul (a b : Int) : -288230375077969921 ≤ sat a * sat b ∧ sat a * sat b ≤ 288230375077969921 := mul_bd (A := 536870911) (B := 536870911) (sat_ge a) (sat_le a) (sat_ge b) (sat_le b)
def rdiv (n d : Int) : Int :=
  if d < 1 ∨ 4611686018427387904 < d ∨ n < -4611686018427387904 ∨ 4611686018427387904 < n then 0
  else if d - n.tmod d ≤ n.tmod d then n.tdiv d + 1 else if d + n.tmod d ≤ -(n.tmod d) then n.tdiv d - 1 else n.tdiv d
theorem tdiv_bd {n d : Int} (hd : 1 ≤ d) (h : -4611686018427387904 ≤ n) (h' : n ≤ 4611686018427387904) : -4611686018427387904 ≤ n.tdiv d ∧ n.tdiv d ≤ 4611686018427387904 := by
  rcases Int.le_total 0 n with h0 | h0
  · rw [Int.tdiv_eq_ediv_of_nonneg h0]
    have := Int.ediv_le_self d h0
    have := Int.ediv_nonneg h0 (by omega : 0 ≤ d)
    omega
  · have e : n.tdiv d = -((-n).tdiv d) := by rw [Int.neg_tdiv]; omega
    rw [e, Int.tdiv_eq_ediv_of_nonneg (by omega : 0 ≤ -n)]
    have := Int.ediv_le_self d (by omega : 0 ≤ -n)
    have := Int.ediv_nonneg (by omega : 0 ≤ -n) (by omega : 0 ≤ d)
    omega
theorem tmod_bd {n d : Int} (hd : 1 ≤ d) : -d < n.tmod d ∧ n.tmod d < d := by
  rcases Int.le_total 0 n with h0 | h0
  · have := Int.tmod_lt_of_pos n (by omega : 0 < d)
    have := Int.tmod_nonneg d h0
    omega
  · have e : n.tmod d = -((-n).tmod d) := by rw [Int.neg_tmod]; omega
    have := Int.tmod_lt_of_pos (-n) (by omega : 0 < d)
    have := Int.tmod_nonneg d (by omega : 0 ≤ -n)
    omega
theorem rdiv_ref {n d : Int} (hd : 1 ≤ d) (hd' : d ≤ 4611686018427387904) (h : -4611686018427387904 ≤ n) (h' : n ≤ 4611686018427387904) :
    rdiv n d = let m := if n < 0 then -n else n
      let q := m.tdiv d
      let r := m - q * d
      let q' := if d - r ≤ r then q + 1 else q
      if n < 0 then -q' else q' := by
  unfold rdiv
  rw [if_neg (by omega)]
  have e : ∀ m : Int, m - m.tdiv d * d = m.tmod d := fun m => by have := Int.tmod_add_tdiv_mul m d; omega
  simp only [e]
  by_cases hn : n < 0
  · rw [if_pos hn, if_pos hn]
    have h1 : n.tmod d = -((-n).tmod d) := by rw [Int.neg_tmod]; omega
    have h2 : n.tdiv d = -((-n).tdiv d) := by rw [Int.neg_tdiv]; omega
    have h3 := Int.tmod_nonneg d (by omega : 0 ≤ -n)
    rw [h1, h2]
    generalize (-n).tdiv d = q at *
    generalize (-n).tmod d = r at *
    (repeat' split) <;> omega
  · rw [if_neg hn, if_neg hn]
    have h3 := Int.tmod_nonneg d (by omega : 0 ≤ n)
    generalize n.tdiv d = q at *
    generalize n.tmod d = r at *
    (repeat' split) <;> omega
def fadd (a b : Int) : Int := sat (sat a + sat b)
def fsub (a b : Int) : Int := sat (sat a - sat b)
def fmul (a b : Int) : Int := sat (rdiv (sat a * sat b) 65536)
def fclamp (x lo hi : Int) : Int := if hi < lo ∨ x < lo then lo else if hi < x then hi else x
def fdiv (a b : Int) : Int :=
  if sat b = 0 then fclamp (sat a * 65536) (-1) 1 * 536870911
  else if sat b < 0 then sat (rdiv (-(sat a * 65536)) (-(sat b))) else sat (rdiv (sat a * 65536) (sat b))
def isqB (n : Int) : Nat → Int → Int
  | 0, r => r
  | k + 1, r => isqB n k (if (r + 2 ^ k) * (r + 2 ^ k) ≤ n then r + 2 ^ k else r)
def isqrt (n : Int) : Int := if n < 0 ∨ 4611686018427387904 < n then 0 else isqB n 32 0
theorem isqB_spec (n : Int) (k : Nat) (r : Int) (h0 : 0 ≤ r) (h : r * r ≤ n) (h' : n < (r + 2 ^ k) * (r + 2 ^ k)) :
    0 ≤ isqB n k r ∧ isqB n k r * isqB n k r ≤ n ∧ n < (isqB n k r + 1) * (isqB n k r + 1) := by
  induction k generalizing r with
  | zero => exact ⟨h0, h, by simpa [isqB] using h'⟩
  | succ k ih =>
    unfold isqB
    have hp : (0 : Int) < 2 ^ k := Int.pow_pos (by omega)
    have hs : (2 : Int) ^ (k + 1) = 2 ^ k + 2 ^ k := by rw [Int.pow_succ]; omega
    split
    · exact ih _ (by omega) (by assumption) (by rw [Int.add_assoc, ← hs]; exact h')
    · exact ih _ h0 h (by omega)
theorem isqrt_spec {n : Int} (h : 0 ≤ n) (h' : n ≤ 4611686018427387904) : 0 ≤ isqrt n ∧ isqrt n * isqrt n ≤ n ∧ n < (isqrt n + 1) * (isqrt n + 1) := by
  unfold isqrt
  rw [if_neg (by omega)]
  exact isqB_spec n 32 0 (by omega) (by omega) (by simp; omega)
theorem sq_lt {a b : Int} (ha : 0 ≤ a) (hb : 0 ≤ b) (h : a * a < b * b) : a < b := by
  apply Int.lt_of_not_ge
  intro hc
  have : b * b ≤ a * a := Int.mul_le_mul hc hc hb ha
  omega
theorem isqrt_nonneg (n : Int) : 0 ≤ isqrt n := by
  by_cases h : n < 0 ∨ 4611686018427387904 < n
  · unfold isqrt; rw [if_pos h]; omega
  · exact (isqrt_spec (by omega) (by omega)).1
/-! ### the machine's sums, products and differences of clamped numbers are exact -/
@[go_sem] theorem w_add (a b : Int) : IntKind.i64.wrap (sat a + sat b) = sat a + sat b := by have := sat_le a; have := sat_ge a; have := sat_le b; have := sat_ge b; exact w64_id (by omega) (by omega)
@[go_sem] theorem w_sub (a b : Int) : IntKind.i64.wrap (sat a - sat b) = sat a - sat b := by have := sat_le a; have := sat_ge a; have := sat_le b; have := sat_ge b; exact w64_id (by omega) (by omega)
@[go_sem] theorem w_neg (a : Int) : IntKind.i64.wrap (0 - sat a) = -sat a := by have := sat_le a; have := sat_ge a; rw [w64_id (by omega) (by omega)]; omega
@[go_sem] theorem w_mul (a b : Int) : IntKind.i64.wrap (sat a * sat b) = sat a * sat b := by have := sat_mul a b; exact w64_id (by omega) (by omega)
@[go_sem] theorem w_one (a : Int) : IntKind.i64.wrap (sat a * 65536) = sat a * 65536 := by have := sat_le a; have := sat_ge a; exact w64_id (by omega) (by omega)
@[go_sem] theorem w_none (a : Int) : IntKind.i64.wrap (0 - sat a * 65536) = -(sat a * 65536) := by have := sat_le a; have := sat_ge a; rw [w64_id (by omega) (by omega)]; omega
@[go_sem] theorem w_none' (a : Int) : IntKind.i64.wrap (-sat a * 65536) = -(sat a * 65536) := by have := sat_le a; have := sat_ge a; rw [w64_id (by omega) (by omega)]; omega
@[go_sem] theorem w_dot (a b c d : Int) : IntKind.i64.wrap (sat a * sat b + sat c * sat d) = sat a * sat b + sat c * sat d := by have := sat_mul a b; have := sat_mul c d; exact w64_id (by omega) (by omega)
@[go_sem] theorem w_crs (a b c d : Int) : IntKind.i64.wrap (sat a * sat b - sat c * sat d) = sat a * sat b - sat c * sat d := by have := sat_mul a b; have := sat_mul c d; exact w64_id (by omega) (by omega)
theorem dif_bd (a b : Int) : -1073741822 ≤ sat a - sat b ∧ sat a - sat b ≤ 1073741822 := by have := sat_le a; have := sat_ge a; have := sat_le b; have := sat_ge b; omega
theorem dif_mul (a b c d : Int) : -1152921500311879684 ≤ (sat a - sat b) * (sat c - sat d) ∧ (sat a - sat b) * (sat c - sat d) ≤ 1152921500311879684 :=
  mul_bd (A := 1073741822) (B := 1073741822) (dif_bd a b).1 (dif_bd a b).2 (dif_bd c d).1 (dif_bd c d).2
@[go_sem] theorem w_dmul (a b c d : Int) : IntKind.i64.wrap ((sat a - sat b) * (sat c - sat d)) = (sat a - sat b) * (sat c - sat d) := by have := dif_mul a b c d; exact w64_id (by omega) (by omega)
@[go_sem] theorem w_dadd (a b c d a' b' c' d' : Int) : IntKind.i64.wrap ((sat a - sat b) * (sat c - sat d) + (sat a' - sat b') * (sat c' - sat d')) = (sat a - sat b) * (sat c - sat d) + (sat a' - sat b') * (sat c' - sat d') := by
  have := dif_mul a b c d; have := dif_mul a' b' c' d'; exact w64_id (by omega) (by omega)
@[go_sem] theorem w_dsub (a b c d a' b' c' d' : Int) : IntKind.i64.wrap ((sat a - sat b) * (sat c - sat d) - (sat a' - sat b') * (sat c' - sat d')) = (sat a - sat b) * (sat c - sat d) - (sat a' - sat b') * (sat c' - sat d') := by
  have := dif_mul a b c d; have := dif_mul a' b' c' d'; exact w64_id (by omega) (by omega)
def bitOf : Nat → Int
  | 0 => 0
  | k + 1 => 2 ^ k
theorem bitOf_zero : bitOf 0 = 0 := rfl
theorem bitOf_succ (k : Nat) : bitOf (k + 1) = 2 ^ k := rfl
theorem bitOf_shr (k : Nat) : ((2 : Int) ^ k).fdiv (2 ^ 1) = bitOf k := by
  cases k with
  | zero => decide
  | succ k => rw [bitOf_succ, Int.pow_succ, Int.fdiv_eq_ediv_of_nonneg _ (by decide)]; exact Int.mul_ediv_cancel _ (by decide)
theorem bitOf_half (k : Nat) : IntKind.i64.wrap (((2 : Int) ^ k).tdiv 2) = bitOf k ∨ 32 < k := by
  by_cases h : 32 < k
  · exact .inr h
  · left
    have hk : k ≤ 32 := by omega
    clear h
    have : ∀ k : Nat, k < 33 → IntKind.i64.wrap (((2 : Int) ^ k).tdiv 2) = bitOf k := by decide
    exact this k (by omega)
structure IS (n : Int) where
  k : Nat
  r : Int
  hk : k ≤ 32
  hm : (2 : Int) ^ k ∣ r
  h0 : 0 ≤ r
  h1 : r + 2 ^ k ≤ 4294967296
  he : isqB n k r = isqB n 32 0
def IS.start (n : Int) : IS n := ⟨32, 0, by omega, ⟨0, by simp⟩, by omega, by decide, rfl⟩
theorem is_dvd {k : Nat} {r : Int} (h : (2 : Int) ^ (k + 1) ∣ r) : (2 : Int) ^ k ∣ r := Int.dvd_trans ⟨2, by rw [Int.pow_succ]⟩ h
theorem is_up {k : Nat} {r : Int} (h1 : r + 2 ^ (k + 1) ≤ 4294967296) : r + 2 ^ k + 2 ^ k ≤ 4294967296 := by
  rw [Int.pow_succ] at h1; omega
theorem is_dn {k : Nat} {r : Int} (h1 : r + 2 ^ (k + 1) ≤ 4294967296) : r + 2 ^ k ≤ 4294967296 := by
  have : (0 : Int) < 2 ^ k := Int.pow_pos (by omega)
  have := is_up h1; omega
theorem is_or {k : Nat} {r : Int} (hm : (2 : Int) ^ (k + 1) ∣ r) (h0 : 0 ≤ r) (h1 : r + 2 ^ (k + 1) ≤ 4294967296) : bits .or .i64 r (2 ^ k) = r + 2 ^ k := by
  have hp : (0 : Int) < 2 ^ k := Int.pow_pos (by omega)
  have := is_dn h1
  refine bits_join .i64 63 (by decide) (fun n h h' => w64_id (by omega) (by simp at h'; omega)) (k + 1) r (2 ^ k) h0 (Int.emod_eq_zero_of_dvd hm) (by omega) (by omega) ?_ (by omega)
  rw [Int.pow_succ]; omega
theorem is_sq {k : Nat} {r : Int} (h0 : 0 ≤ r) (h1 : r + 2 ^ (k + 1) ≤ 4294967296) : 0 ≤ r + 2 ^ k ∧ r + 2 ^ k ≤ 4294967295 ∧ 0 ≤ (r + 2 ^ k) * (r + 2 ^ k) ∧ (r + 2 ^ k) * (r + 2 ^ k) ≤ 18446744065119617025 := by
  have hp : (0 : Int) < 2 ^ k := Int.pow_pos (by omega)
  have := is_up h1
  have h2 : r + 2 ^ k ≤ 4294967295 := by omega
  have h3 : 0 ≤ r + 2 ^ k := by omega
  exact ⟨h3, h2, Int.mul_nonneg h3 h3, Int.mul_le_mul h2 h2 h3 (by omega)⟩
theorem is_div {n s : Int} (hs : 0 < s) (hn : 0 ≤ n) : (s ≤ n.tdiv s) = (s * s ≤ n) := by
  rw [Int.tdiv_eq_ediv_of_nonneg hn]
  exact propext (Int.le_ediv_iff_mul_le hs)
theorem is_half {k : Nat} (h : k + 1 ≤ 32) : IntKind.i64.wrap (((2 : Int) ^ k).tdiv 2) = bitOf k := by
  rcases bitOf_half k with h' | h'
  · exact h'
  · omega
theorem is_pos (k : Nat) : (0 : Int) < 2 ^ k := Int.pow_pos (by omega)
theorem is_done {n r : Int} (h : 0 ≤ n) (h' : n ≤ 4611686018427387904) (he : isqB n 0 r = isqB n 32 0) : r = isqrt n := by
  unfold isqrt; rw [if_neg (by omega), ← he, isqB]
theorem acond_tt (A B : Unit → Prop) : AL.acond true A B = A () := propext ⟨fun h => h.1 rfl, fun h => AL.acond_true h⟩
theorem acond_ff (A B : Unit → Prop) : AL.acond false A B = B () := propext ⟨fun h => h.2 rfl, fun h => AL.acond_false h⟩
def IS.up {n : Int} {k : Nat} {r : Int} (hk : k + 1 ≤ 32) (hm : (2 : Int) ^ (k + 1) ∣ r) (h0 : 0 ≤ r) (h1 : r + 2 ^ (k + 1) ≤ 4294967296) (he : isqB n (k + 1) r = isqB n 32 0)
    (h : (r + 2 ^ k) * (r + 2 ^ k) ≤ n) : IS n :=
  ⟨k, r + 2 ^ k, by omega, Int.dvd_add (is_dvd hm) ⟨1, by simp⟩, (is_sq h0 h1).1, is_up h1, by rw [← he, isqB, if_pos h]⟩
def IS.dn {n : Int} {k : Nat} {r : Int} (hk : k + 1 ≤ 32) (hm : (2 : Int) ^ (k + 1) ∣ r) (h0 : 0 ≤ r) (h1 : r + 2 ^ (k + 1) ≤ 4294967296) (he : isqB n (k + 1) r = isqB n 32 0)
    (h : ¬ (r + 2 ^ k) * (r + 2 ^ k) ≤ n) : IS n :=
  ⟨k, r, by omega, is_dvd hm, h0, is_dn h1, by rw [← he, isqB, if_neg h]⟩
theorem leaf_i {a b : Int} (h : a = b) : AL.AV.sc (.int .i64 a) = AL.AV.i b := by rw [h]
theorem leaf_b {a b : Bool} (h : a = b) : AL.AV.sc (.bool a) = AL.AV.b b := by rw [h]
end Go.Carom
/-
  The plain law of chapters 2 to 4: angles, vectors, transforms. Conditions: none; no program in sight.
-/
namespace Go.Carom
open Go
theorem fmul_bd (a b : Int) : -536870911 ≤ fmul a b ∧ fmul a b ≤ 536870911 := ⟨sat_ge _, sat_le _⟩
theorem fsub_bd (a b : Int) : -536870911 ≤ fsub a b ∧ fsub a b ≤ 536870911 := ⟨sat_ge _, sat_le _⟩
@[go_sem] theorem w_nfmul (a b : Int) : IntKind.i64.wrap (0 - fmul a b) = -fmul a b := by have := fmul_bd a b; rw [w64_id (by omega) (by omega)]; omega
/-! ### angles -/
def anorm (a : Int) : Int := if 205888 ≤ a.tmod 411776 then a.tmod 411776 - 411776 else if a.tmod 411776 < -205888 then a.tmod 411776 + 411776 else a.tmod 411776
theorem anorm_bd (a : Int) : -205888 ≤ anorm a ∧ anorm a < 205888 := by
  have := tmod_bd (n := a) (d := 411776) (by omega)
  unfold anorm
  (repeat' split) <;> omega
def aabs (x : Int) : Int := if x < 0 then IntKind.i64.wrap (0 - x) else x
def nabs (a : Int) : Int := if anorm a < 0 then -anorm a else anorm a
theorem nabs_bd (a : Int) : 0 ≤ nabs a ∧ nabs a ≤ 205888 := by have := anorm_bd a; unfold nabs; split <;> omega
@[go_sem] theorem aabs_norm (a : Int) : aabs (anorm a) = nabs a := by
  have := anorm_bd a
  unfold aabs nabs
  split
  · rw [w64_id (by omega) (by omega)]; omega
  · rfl
@[go_sem] theorem w_pi (a : Int) : IntKind.i64.wrap (205888 - nabs a) = 205888 - nabs a := by have := nabs_bd a; exact w64_id (by omega) (by omega)
@[go_sem] theorem w_hpi (a : Int) : IntKind.i64.wrap (102944 - nabs a) = 102944 - nabs a := by have := nabs_bd a; exact w64_id (by omega) (by omega)
def sinq (x : Int) : Int := fmul (fdiv x 102944) (fsub 102873 (fmul (fmul (fdiv x 102944) (fdiv x 102944)) (fsub 41906 (fmul (fmul (fdiv x 102944) (fdiv x 102944)) 4569))))
def asin (a : Int) : Int := if anorm a < 0 then -sinq (if 102944 < nabs a then 205888 - nabs a else nabs a) else sinq (if 102944 < nabs a then 205888 - nabs a else nabs a)
def acos (a : Int) : Int := asin (102944 - nabs a)
theorem sinq_bd (a : Int) : -536870911 ≤ sinq a ∧ sinq a ≤ 536870911 := fmul_bd _ _
theorem asin_bd (a : Int) : -536870911 ≤ asin a ∧ asin a ≤ 536870911 := by
  unfold asin
  split
  · have := sinq_bd (if 102944 < nabs a then 205888 - nabs a else nabs a); omega
  · exact sinq_bd _
@[go_sem] theorem w_nsinq (a : Int) : IntKind.i64.wrap (0 - sinq a) = -sinq a := by have := sinq_bd a; rw [w64_id (by omega) (by omega)]; omega
theorem asin_sq (a : Int) : -288230375077969921 ≤ asin a * asin a ∧ asin a * asin a ≤ 288230375077969921 := mul_bd (A := 536870911) (B := 536870911) (asin_bd a).1 (asin_bd a).2 (asin_bd a).1 (asin_bd a).2
theorem acos_sq (a : Int) : -288230375077969921 ≤ acos a * acos a ∧ acos a * acos a ≤ 288230375077969921 := asin_sq _
@[go_sem] theorem w_s2 (a : Int) : IntKind.i64.wrap (asin a * asin a) = asin a * asin a := by have := asin_sq a; exact w64_id (by omega) (by omega)
@[go_sem] theorem w_c2 (a : Int) : IntKind.i64.wrap (acos a * acos a) = acos a * acos a := by have := acos_sq a; exact w64_id (by omega) (by omega)
@[go_sem] theorem w_cs2 (a : Int) : IntKind.i64.wrap (acos a * acos a + asin a * asin a) = acos a * acos a + asin a * asin a := by have := acos_sq a; have := asin_sq a; exact w64_id (by omega) (by omega)
def rotl (a : Int) : Int := isqrt (acos a * acos a + asin a * asin a)
def rotc (a : Int) : Int := fdiv (acos a) (rotl a)
def rots (a : Int) : Int := fdiv (asin a) (rotl a)
def adiff (a b : Int) : Int := anorm (anorm b - anorm a)
@[go_sem] theorem w_nsub (a b : Int) : IntKind.i64.wrap (anorm b - anorm a) = anorm b - anorm a := by have := anorm_bd a; have := anorm_bd b; exact w64_id (by omega) (by omega)
@[go_sem] theorem w_nadd (a b : Int) : IntKind.i64.wrap (anorm b + anorm a) = anorm b + anorm a := by have := anorm_bd a; have := anorm_bd b; exact w64_id (by omega) (by omega)
@[go_sem] theorem w_nmul (a b c : Int) : IntKind.i64.wrap (anorm a + fmul b c) = anorm a + fmul b c := by have := anorm_bd a; have := fmul_bd b c; exact w64_id (by omega) (by omega)
/-! ### vectors -/
def flerp (a b t : Int) : Int := fadd a (fmul (fsub b a) t)
def prd (n : Int) : Int := sat (rdiv n 65536)
def vdot (x y x' y' : Int) : Int := prd (sat x * sat x' + sat y * sat y')
def vcrs (x y x' y' : Int) : Int := prd (sat x * sat y' - sat y * sat x')
def dsq (x y x' y' : Int) : Int := (sat x' - sat x) * (sat x' - sat x) + (sat y' - sat y) * (sat y' - sat y)
def vlen (x y : Int) : Int := isqrt (sat x * sat x + sat y * sat y)
theorem vlen_dsq (x y : Int) : isqrt (dsq 0 0 x y) = vlen x y := by simp [dsq, vlen, sat_zero]
def rtx (c s x y : Int) : Int := prd (sat c * sat x - sat s * sat y)
def rty (c s x y : Int) : Int := prd (sat s * sat x + sat c * sat y)
def area2 (ax ay bx byy cx cy : Int) : Int := (sat bx - sat ax) * (sat cy - sat ay) - (sat byy - sat ay) * (sat cx - sat ax)
def orient (ax ay bx byy cx cy : Int) : Int := if 0 < area2 ax ay bx byy cx cy then 1 else if area2 ax ay bx byy cx cy < 0 then -1 else 0
/-! ### transforms -/
def apx (px py a x y : Int) : Int := fadd (rtx (rotc a) (rots a) x y) px
def apy (px py a x y : Int) : Int := fadd (rty (rotc a) (rots a) x y) py
end Go.Carom
/-
  The plain law of loops over rows of points. Conditions: none; no program in sight.
-/
namespace Go.Carom
open Go Go.AL
def ev (p : Int × Int) : AV := .agg [.i p.1, .i p.2]
def vx (ps : List (Int × Int)) (i : Nat) : Int := (ps.getD i (0, 0)).1
def vy (ps : List (Int × Int)) (i : Nat) : Int := (ps.getD i (0, 0)).2
theorem ev_getD {ps : List (Int × Int)} {i : Nat} (h : i < ps.length) : (ps.map ev).getD i .und = .agg [.i (vx ps i), .i (vy ps i)] := by
  simp [List.getD_eq_getElem?_getD, h, ev, vx, vy]
theorem lt_tup {N : Nat} {cs : List AV} (h : ∀ c ∈ cs, Lt N c) : Lt N (.tup cs) := .tup _ h
theorem lt_ev (N : Nat) (p : Int × Int) : Lt N (ev p) := lt_agg (lt_cons (lt_i _ _) (lt_cons (lt_i _ _) lt_nil))
theorem lt_vs (N : Nat) (ps : List (Int × Int)) : Lt N (.sl (ps.map ev)) := .sl _ (lt_map fun x => lt_ev N x)
structure LS (n : Nat) (good : Nat → Bool) where
  i : Nat
  hi : i ≤ n
  h : ∀ j, j < i → good j = true
def LS.start (n : Nat) (good : Nat → Bool) : LS n good := ⟨0, Nat.zero_le _, fun j h => by omega⟩
def LS.next {n : Nat} {good : Nat → Bool} {i : Nat} (hi : i < n) (h : ∀ j, j < i → good j = true) (hg : good i = true) : LS n good :=
  ⟨i + 1, hi, fun j hj => by
    by_cases e : j = i
    · subst e; exact hg
    · exact h j (by omega)⟩
theorem LS.done {n : Nat} {good : Nat → Bool} {i : Nat} (hi : ¬ i < n) (h : ∀ j, j < i → good j = true) : (List.range n).all good = true := by
  rw [List.all_eq_true]; intro j hj; exact h j (by simp at hj; omega)
theorem LS.fail {n : Nat} {good : Nat → Bool} {i : Nat} (hi : i < n) (hg : good i = false) : (List.range n).all good = false := by
  rw [List.all_eq_false]; exact ⟨i, by simpa using hi, by simp [hg]⟩
structure Fs (n : Nat) where
  i : Nat
  hi : i ≤ n
def Fs.start (n : Nat) : Fs n := ⟨0, Nat.zero_le _⟩
def Fs.next {n i : Nat} (hi : i < n) : Fs n := ⟨i + 1, hi⟩
theorem ilt {i n : Nat} (h : i < n) : ((i : Int) < (n : Int)) = True := by simp; omega
theorem inlt {i n : Nat} (h : ¬ i < n) : ((i : Int) < (n : Int)) = False := by simp; omega
theorem icast (i : Nat) : Int.toNat (i : Int) = i := Int.toNat_natCast i
theorem inn (i : Nat) : (0 ≤ (i : Int)) = True := by simp
theorem isucc {i n : Nat} (h : i < n) (hn : n ≤ maxLen) : IntKind.i64.wrap ((i : Int) + 1) = ((i + 1 : Nat) : Int) := by
  have : maxLen ≤ 9223372036854775807 := by decide
  rw [w64_id (by omega) (by omega)]; rfl
theorem imod {i n : Nat} (h : i < n) : Int.tmod ((i + 1 : Nat) : Int) (n : Int) = (((i + 1) % n : Nat) : Int) := by
  rw [Int.tmod_eq_emod_of_nonneg (by omega)]; rfl
theorem imlt {i n : Nat} (h : i < n) : (((i + 1) % n : Nat) : Int) < (n : Int) := by
  have := Nat.mod_lt (i + 1) (by omega : 0 < n); omega
/-! ### polygons -/
def inr (x y : Int) : Bool := decide (-1048576 ≤ x) && decide (x ≤ 1048576) && decide (-1048576 ≤ y) && decide (y ≤ 1048576)
def allIR (ps : List (Int × Int)) : Bool := (List.range ps.length).all fun i => inr (vx ps i) (vy ps i)
def or3 (ps : List (Int × Int)) (i j k : Nat) : Int := orient (vx ps i) (vy ps i) (vx ps j) (vy ps j) (vx ps k) (vy ps k)
def cvk (ps : List (Int × Int)) (i k : Nat) : Bool := decide (k = i) || decide (k = (i + 1) % ps.length) || decide (or3 ps i ((i + 1) % ps.length) k = 1)
def cvi (ps : List (Int × Int)) (i : Nat) : Bool := (List.range ps.length).all (cvk ps i)
def convex (ps : List (Int × Int)) : Bool := decide (3 ≤ ps.length) && decide (ps.length ≤ 8) && allIR ps && (List.range ps.length).all (cvi ps)
theorem convex_no {ps : List (Int × Int)} (h : (decide ((ps.length : Int) < 3) || decide (8 < (ps.length : Int)) || !allIR ps) = true) : false = convex ps := by
  unfold convex
  simp only [Bool.or_eq_true, decide_eq_true_eq, Bool.not_eq_true'] at h
  rcases h with (h | h) | h
  · rw [decide_eq_false (by omega : ¬ 3 ≤ ps.length)]; rfl
  · rw [decide_eq_false (by omega : ¬ ps.length ≤ 8)]; simp
  · rw [h]; simp
theorem convex_if {ps : List (Int × Int)} (h : (decide ((ps.length : Int) < 3) || decide (8 < (ps.length : Int)) || !allIR ps) = false) : convex ps = (List.range ps.length).all (cvi ps) := by
  unfold convex
  simp only [Bool.or_eq_false_iff, decide_eq_false_iff_not, Bool.not_eq_false'] at h
  rw [decide_eq_true (by omega : 3 ≤ ps.length), decide_eq_true (by omega : ps.length ≤ 8), h.2]
  simp
theorem convex_no' {ps : List (Int × Int)} (h : (decide ((ps.length : Int) < 3) || decide (8 < (ps.length : Int))) = true) : false = convex ps := convex_no (by rw [h]; rfl)
theorem convex_ir {ps : List (Int × Int)} (h : allIR ps = false) : convex ps = false := (convex_no (by rw [h]; simp)).symm
theorem convex_if' {ps : List (Int × Int)} (h : (decide ((ps.length : Int) < 3) || decide (8 < (ps.length : Int))) = false) (h' : allIR ps = true) : convex ps = (List.range ps.length).all (cvi ps) := convex_if (by rw [h, h']; rfl)
theorem cvk_eq (ps : List (Int × Int)) (i k : Nat) : (!decide ((k : Int) = (i : Int)) && !decide ((k : Int) = (((i + 1) % ps.length : Nat) : Int)) &&
    !decide (orient (vx ps i) (vy ps i) (vx ps ((i + 1) % ps.length)) (vy ps ((i + 1) % ps.length)) (vx ps k) (vy ps k) = 1)) = !cvk ps i k := by
  rw [show decide ((k : Int) = (i : Int)) = decide (k = i) from decide_eq_decide.2 Int.natCast_inj,
    show decide ((k : Int) = (((i + 1) % ps.length : Nat) : Int)) = decide (k = (i + 1) % ps.length) from decide_eq_decide.2 Int.natCast_inj]
  simp only [cvk, or3, Bool.not_or]
  first | rfl | (congr 2)
theorem imax_le {i n : Nat} (h : i < n) (hn : n ≤ maxLen) : (i ≤ 9223372036854775806) = True := eq_true (by have : maxLen = 9223372036854775807 := rfl; omega)
theorem ine0 {i n : Nat} (h : i < n) : ((n : Int) = 0) = False := eq_false (by omega)
theorem imlt' {i n : Nat} (h : i < n) : ((((i + 1) % n : Nat) : Int) < (n : Int)) = True := eq_true (imlt h)
theorem imod_lt {i n : Nat} (h : i < n) : (i + 1) % n < n := Nat.mod_lt _ (by omega)
/-! ### the shortest edge -/
def edl (ps : List (Int × Int)) (i : Nat) : Int := vlen (fsub (vx ps ((i + 1) % ps.length)) (vx ps i)) (fsub (vy ps ((i + 1) % ps.length)) (vy ps i))
def seP (ps : List (Int × Int)) : Nat → Int
  | 0 => 536870911
  | i + 1 => if edl ps i < seP ps i then edl ps i else seP ps i
def seR (ps : List (Int × Int)) : Nat → Int
  | 0 => -1
  | i + 1 => if seR ps i < 0 ∨ edl ps i < seR ps i then edl ps i else seR ps i
def shortest (ps : List (Int × Int)) : Int := if convex ps = true then seP ps ps.length else 0
theorem seR_up {ps : List (Int × Int)} {i : Nat} (h : (decide (seR ps i < 0) || decide (edl ps i < seR ps i)) = true) : edl ps i = seR ps (i + 1) := by
  rw [seR, if_pos (by simpa using h)]
theorem seR_dn {ps : List (Int × Int)} {i : Nat} (h : (decide (seR ps i < 0) || decide (edl ps i < seR ps i)) = false) : seR ps i = seR ps (i + 1) := by
  rw [seR, if_neg (by simpa using h)]
theorem vlen_nonneg (x y : Int) : 0 ≤ vlen x y := isqrt_nonneg _
theorem vlen_le {x y : Int} (hx : -2097152 ≤ x) (hx' : x ≤ 2097152) (hy : -2097152 ≤ y) (hy' : y ≤ 2097152) : vlen x y ≤ 4194304 := by
  unfold vlen
  rw [sat_id (by omega) (by omega), sat_id (by omega) (by omega)]
  have h1 := mul_bd (A := 2097152) (B := 2097152) hx hx' hx hx'
  have h2 := mul_bd (A := 2097152) (B := 2097152) hy hy' hy hy'
  have h3 : 0 ≤ x * x := by rcases Int.le_total 0 x with h | h; exact Int.mul_nonneg h h; exact Int.mul_nonneg_of_nonpos_of_nonpos h h
  have h4 : 0 ≤ y * y := by rcases Int.le_total 0 y with h | h; exact Int.mul_nonneg h h; exact Int.mul_nonneg_of_nonpos_of_nonpos h h
  have hs := isqrt_spec (n := x * x + y * y) (by omega) (by omega)
  have := sq_lt (a := isqrt (x * x + y * y)) (b := 4194305) hs.1 (by omega) (by omega)
  omega
theorem inr_bd {ps : List (Int × Int)} (h : allIR ps = true) {i : Nat} (hi : i < ps.length) : (-1048576 ≤ vx ps i ∧ vx ps i ≤ 1048576) ∧ -1048576 ≤ vy ps i ∧ vy ps i ≤ 1048576 := by
  have := List.all_eq_true.1 h i (by simpa using hi)
  simp [inr] at this
  omega
theorem convex_parts {ps : List (Int × Int)} (h : convex ps = true) : 3 ≤ ps.length ∧ ps.length ≤ 8 ∧ allIR ps = true := by
  simp only [convex, Bool.and_eq_true, decide_eq_true_eq] at h
  exact ⟨h.1.1.1, h.1.1.2, h.1.2⟩
theorem fsub_id {a b : Int} (ha : -1048576 ≤ a) (ha' : a ≤ 1048576) (hb : -1048576 ≤ b) (hb' : b ≤ 1048576) : fsub a b = a - b := by
  unfold fsub; rw [sat_id (x := a) (by omega) (by omega), sat_id (x := b) (by omega) (by omega), sat_id (by omega) (by omega)]
theorem edl_bd {ps : List (Int × Int)} (h : allIR ps = true) {i : Nat} (hi : i < ps.length) : 0 ≤ edl ps i ∧ edl ps i ≤ 4194304 := by
  refine ⟨vlen_nonneg _ _, ?_⟩
  have h1 := inr_bd h hi
  have h2 := inr_bd h (imod_lt hi)
  unfold edl
  rw [fsub_id (by omega) (by omega) (by omega) (by omega), fsub_id (by omega) (by omega) (by omega) (by omega)]
  exact vlen_le (by omega) (by omega) (by omega) (by omega)
theorem seR_eq {ps : List (Int × Int)} (h : convex ps = true) : seR ps ps.length = seP ps ps.length := by
  obtain ⟨h3, _, hr⟩ := convex_parts h
  suffices hs : ∀ i, i + 1 ≤ ps.length → seR ps (i + 1) = seP ps (i + 1) ∧ 0 ≤ seP ps (i + 1) by
    have := hs (ps.length - 1) (by omega)
    rw [show ps.length - 1 + 1 = ps.length by omega] at this
    exact this.1
  intro i
  induction i with
  | zero =>
    intro hi
    have := edl_bd hr (i := 0) (by omega)
    have e1 : seR ps 1 = edl ps 0 := by
      show (if seR ps 0 < 0 ∨ edl ps 0 < seR ps 0 then edl ps 0 else seR ps 0) = edl ps 0
      exact if_pos (.inl (by show (-1 : Int) < 0; decide))
    have e2 : seP ps 1 = edl ps 0 := by
      show (if edl ps 0 < seP ps 0 then edl ps 0 else seP ps 0) = edl ps 0
      exact if_pos (by show edl ps 0 < 536870911; omega)
    rw [e1, e2]
    exact ⟨rfl, this.1⟩
  | succ i ih =>
    intro hi
    have hb := edl_bd hr (i := i + 1) (by omega)
    obtain ⟨h1, h2⟩ := ih (by omega)
    rw [seR, seP, h1]
    by_cases hc : edl ps (i + 1) < seP ps (i + 1)
    · rw [if_pos (.inr hc), if_pos hc]; exact ⟨rfl, hb.1⟩
    · rw [if_neg (by omega), if_neg hc]; exact ⟨rfl, h2⟩
/-! ### the area -/
def trx (ps : List (Int × Int)) (i : Nat) : Int := IntKind.i64.wrap (vx ps i - vx ps 0)
def try_ (ps : List (Int × Int)) (i : Nat) : Int := IntKind.i64.wrap (vy ps i - vy ps 0)
def cr (ps : List (Int × Int)) (i : Nat) : Int := rdiv (IntKind.i64.wrap (IntKind.i64.wrap (trx ps i * try_ ps (i + 1)) - IntKind.i64.wrap (try_ ps i * trx ps (i + 1)))) 65536
def fsum (ps : List (Int × Int)) : Nat → Int
  | 0 => 0
  | k + 1 => IntKind.i64.wrap (fsum ps k + cr ps (k + 1))
def tri (ps : List (Int × Int)) (j : Nat) : AV := .agg [.i (trx ps (j + 1)), .i (try_ ps (j + 1)), .i (trx ps (j + 1 + 1)), .i (try_ ps (j + 1 + 1)), .i (cr ps (j + 1))]
def tris (ps : List (Int × Int)) (k : Nat) : List AV := (List.range k).map (tri ps)
theorem tris_succ (ps : List (Int × Int)) (k : Nat) : tris ps (k + 1) = tris ps k ++ [tri ps k] := by simp [tris, List.range_succ]
theorem tris_len (ps : List (Int × Int)) (k : Nat) : (tris ps k).length = k := by simp [tris]
theorem lt_tris (N : Nat) (ps : List (Int × Int)) (k : Nat) : ∀ e ∈ tris ps k, Lt N e := by
  intro e he
  obtain ⟨j, _, rfl⟩ := List.mem_map.1 he
  exact lt_agg (lt_cons (lt_i _ _) (lt_cons (lt_i _ _) (lt_cons (lt_i _ _) (lt_cons (lt_i _ _) (lt_cons (lt_i _ _) lt_nil)))))
theorem lt_stris (N : Nat) (ps : List (Int × Int)) (k : Nat) : Lt N (.sl (tris ps k)) := .sl _ (lt_tris N ps k)
def area (ps : List (Int × Int)) : Int := if convex ps = true then rdiv (fsum ps (ps.length - 2)) 2 else 0
/-! ### the farthest point -/
end Go.Carom
/-
  The plain law of chapters 5 and 10: boxes and segments. Conditions: none; no program in sight.
-/
namespace Go.Carom
open Go Go.AL
def imin (a b : Int) : Int := if b < a then b else a
def imax (a b : Int) : Int := if a < b then b else a
def vsatd (x y : Int) : Bool := decide (sat x = x) && decide (sat y = y)
def bvalid (x y u v : Int) : Bool := decide (x ≤ u) && decide (y ≤ v) && vsatd x y && vsatd u v
def bover (x y u v x' y' u' v' : Int) : Bool := decide (x ≤ u') && decide (x' ≤ u) && decide (y ≤ v') && decide (y' ≤ v)
def boverlaps (x y u v x' y' u' v' : Int) : Bool := bvalid x y u v && bvalid x' y' u' v' && bover x y u v x' y' u' v'
def loX (ps : List (Int × Int)) : Nat → Int
  | 0 => sat (vx ps 0)
  | i + 1 => imin (loX ps i) (sat (vx ps (i + 1)))
def loY (ps : List (Int × Int)) : Nat → Int
  | 0 => sat (vy ps 0)
  | i + 1 => imin (loY ps i) (sat (vy ps (i + 1)))
def hiX (ps : List (Int × Int)) : Nat → Int
  | 0 => sat (vx ps 0)
  | i + 1 => imax (hiX ps i) (sat (vx ps (i + 1)))
def hiY (ps : List (Int × Int)) : Nat → Int
  | 0 => sat (vy ps 0)
  | i + 1 => imax (hiY ps i) (sat (vy ps (i + 1)))
theorem vs_all (ps : List (Int × Int)) : (∀ v ∈ ps.map ev, v.cells.length = 2) = True := eq_true (by
  intro v hv
  obtain ⟨p, _, rfl⟩ := List.mem_map.1 hv
  rfl)
theorem vs_take (ps : List (Int × Int)) : (ps.map ev).take ps.length = ps.map ev := by
  rw [List.take_of_length_le (by simp)]
theorem vs_tail (ps : List (Int × Int)) : (ps.map ev).drop 1 = (ps.drop 1).map ev := List.map_drop.symm
theorem vx_drop (ps : List (Int × Int)) (i : Nat) : vx (ps.drop 1) i = vx ps (i + 1) := by simp [vx, List.getD_eq_getElem?_getD, Nat.add_comm]
theorem vy_drop (ps : List (Int × Int)) (i : Nat) : vy (ps.drop 1) i = vy ps (i + 1) := by simp [vy, List.getD_eq_getElem?_getD, Nat.add_comm]
end Go.Carom
/-
  The plain law of chapter 10: segments. Conditions: none; no program in sight.
-/
namespace Go.Carom
open Go Go.AL
def frat (n d : Int) : Int := if d < 1 ∨ 4611686018427387904 < d ∨ n < 1 then 0 else if d ≤ n then 65536 else if d < 70368744177664 then rdiv (n * 65536) d else imin (rdiv n (rdiv d 65536)) 65536
/-! ### the closest point of a segment -/
def cpn (ax ay bx byy px py : Int) : Int := (sat px - sat ax) * (sat bx - sat ax) + (sat py - sat ay) * (sat byy - sat ay)
def cpt (ax ay bx byy px py : Int) : Int := frat (cpn ax ay bx byy px py) (dsq (sat ax) (sat ay) (sat bx) (sat byy))
def cpx (ax ay bx byy px py : Int) : Int := if cpt ax ay bx byy px py = 0 then sat ax else if cpt ax ay bx byy px py = 65536 then sat bx else flerp (sat ax) (sat bx) (cpt ax ay bx byy px py)
def cpy (ax ay bx byy px py : Int) : Int := if cpt ax ay bx byy px py = 0 then sat ay else if cpt ax ay bx byy px py = 65536 then sat byy else flerp (sat ay) (sat byy) (cpt ax ay bx byy px py)
/-! ### two segments -/
theorem orient_bd (a b c d e f : Int) : -1 ≤ orient a b c d e f ∧ orient a b c d e f ≤ 1 := by unfold orient; split; omega; split <;> omega
@[go_sem] theorem w_or (a b c d e f a' b' c' d' e' f' : Int) : IntKind.i64.wrap (orient a b c d e f * orient a' b' c' d' e' f') = orient a b c d e f * orient a' b' c' d' e' f' := by
  have h := mul_bd (A := 1) (B := 1) (orient_bd a b c d e f).1 (orient_bd a b c d e f).2 (orient_bd a' b' c' d' e' f').1 (orient_bd a' b' c' d' e' f').2
  exact w64_id (by omega) (by omega)
def seg2 (ax ay bx byy cx cy dx dy : Int) : Bool :=
  boverlaps (imin (sat ax) (sat bx)) (imin (sat ay) (sat byy)) (imax (sat ax) (sat bx)) (imax (sat ay) (sat byy)) (imin (sat cx) (sat dx)) (imin (sat cy) (sat dy)) (imax (sat cx) (sat dx)) (imax (sat cy) (sat dy))
def segx (ax ay bx byy cx cy dx dy : Int) : Bool :=
  !(decide (0 < orient ax ay bx byy cx cy * orient ax ay bx byy dx dy) || decide (0 < orient cx cy dx dy ax ay * orient cx cy dx dy bx byy)) && seg2 ax ay bx byy cx cy dx dy
def ldk (cx cy dx dy px py : Int) : Int := IntKind.i64.wrap (IntKind.i64.wrap (IntKind.i64.wrap (dx - cx) * IntKind.i64.wrap (py - cy)) - IntKind.i64.wrap (IntKind.i64.wrap (dy - cy) * IntKind.i64.wrap (px - cx)))
def ldist (cx cy dx dy px py : Int) : Int := imax (ldk cx cy dx dy px py) (IntKind.i64.wrap (0 - ldk cx cy dx dy px py))
structure Q4 where
  a : Int
  b : Int
  c : Int
  d : Int
def Q4.v (q : Q4) : AV := .agg [.i q.a, .i q.b, .i q.c, .i q.d]
def Q4.dist (q : Q4) : Int := dsq q.a q.b q.c q.d
def pick4 (p q : Q4) : Q4 := if p.dist < q.dist then p else q
section
variable (ax ay bx byy cx cy dx dy : Int)
def cb0 : Q4 := ⟨sat ax, sat ay, cpx (sat cx) (sat cy) (sat dx) (sat dy) (sat ax) (sat ay), cpy (sat cx) (sat cy) (sat dx) (sat dy) (sat ax) (sat ay)⟩
def cb1 : Q4 := ⟨sat bx, sat byy, cpx (sat cx) (sat cy) (sat dx) (sat dy) (sat bx) (sat byy), cpy (sat cx) (sat cy) (sat dx) (sat dy) (sat bx) (sat byy)⟩
def cb2 : Q4 := ⟨cpx (sat ax) (sat ay) (sat bx) (sat byy) (sat cx) (sat cy), cpy (sat ax) (sat ay) (sat bx) (sat byy) (sat cx) (sat cy), sat cx, sat cy⟩
def cb3 : Q4 := ⟨cpx (sat ax) (sat ay) (sat bx) (sat byy) (sat dx) (sat dy), cpy (sat ax) (sat ay) (sat bx) (sat byy) (sat dx) (sat dy), sat dx, sat dy⟩
def cbs : Nat → Q4
  | 0 => cb0 ax ay cx cy dx dy
  | 1 => pick4 (cb1 bx byy cx cy dx dy) (cb0 ax ay cx cy dx dy)
  | 2 => pick4 (cb2 ax ay bx byy cx cy) (pick4 (cb1 bx byy cx cy dx dy) (cb0 ax ay cx cy dx dy))
  | _ => pick4 (cb3 ax ay bx byy dx dy) (pick4 (cb2 ax ay bx byy cx cy) (pick4 (cb1 bx byy cx cy dx dy) (cb0 ax ay cx cy dx dy)))
def cmt : Int := frat (ldist (sat cx) (sat cy) (sat dx) (sat dy) (sat ax) (sat ay)) (IntKind.i64.wrap (ldist (sat cx) (sat cy) (sat dx) (sat dy) (sat ax) (sat ay) + ldist (sat cx) (sat cy) (sat dx) (sat dy) (sat bx) (sat byy)))
def cps : Q4 := if segx (sat ax) (sat ay) (sat bx) (sat byy) (sat cx) (sat cy) (sat dx) (sat dy) = true then
    ⟨flerp (sat ax) (sat bx) (cmt ax ay bx byy cx cy dx dy), flerp (sat ay) (sat byy) (cmt ax ay bx byy cx cy dx dy), flerp (sat ax) (sat bx) (cmt ax ay bx byy cx cy dx dy), flerp (sat ay) (sat byy) (cmt ax ay bx byy cx cy dx dy)⟩
  else cbs ax ay bx byy cx cy dx dy 3
def sdist : Int := if segx ax ay bx byy cx cy dx dy = true then 0 else sat (isqrt (cps ax ay bx byy cx cy dx dy).dist)
end
end Go.Carom
/-
  The plain law of chapter 12: shapes. Conditions: none; no program in sight.
-/
namespace Go.Carom
open Go Go.AL
def fidxF (good : Nat → Bool) : Nat → Nat → Int
  | 0, _ => -1
  | m + 1, i => if good i then fidxF good m (i + 1) else (i : Int)
def fidx (n : Nat) (good : Nat → Bool) : Int := fidxF good n 0
theorem fidxF_skip {good : Nat → Bool} (m : Nat) : ∀ (k i : Nat), (∀ j, i ≤ j → j < i + k → good j = true) → fidxF good (k + m) i = fidxF good m (i + k)
  | 0, i, _ => by simp
  | k + 1, i, h => by
    rw [show k + 1 + m = (k + m) + 1 by omega, fidxF, if_pos (h i (Nat.le_refl _) (by omega)), fidxF_skip m k (i + 1) (fun j h1 h2 => h j (by omega) (by omega))]
    congr 1; omega
theorem fidx_hit {n : Nat} {good : Nat → Bool} {i : Nat} (hi : i < n) (h : ∀ j, j < i → good j = true) (hg : good i = false) : fidx n good = i := by
  unfold fidx
  rw [show n = i + ((n - i - 1) + 1) by omega, fidxF_skip _ i 0 (fun j _ h2 => h j (by omega)), fidxF, if_neg (by rw [Nat.zero_add, hg]; decide)]
  simp
theorem fidx_none {n : Nat} {good : Nat → Bool} {i : Nat} (hi : ¬ i < n) (hn : i ≤ n) (h : ∀ j, j < i → good j = true) : fidx n good = -1 := by
  unfold fidx
  rw [show n = i + 0 by omega, fidxF_skip 0 i 0 (fun j _ h2 => h j (by omega)), fidxF]
theorem fidx_neg (n : Nat) (good : Nat → Bool) : decide (0 ≤ fidx n good) = !(List.range n).all good := by
  by_cases h : (List.range n).all good = true
  · rw [h, fidx_none (i := n) (by omega) (Nat.le_refl _) (fun j hj => List.all_eq_true.1 h j (by simpa using hj))]; rfl
  · have h' : (List.range n).all good = false := by simpa using h
    obtain ⟨i, hi, hg⟩ : ∃ i, i < n ∧ good i = false ∧ ∀ j, j < i → good j = true := by
      have : ∀ m, m ≤ n → (∀ j, j < m → good j = true) ∨ ∃ i, i < n ∧ good i = false ∧ ∀ j, j < i → good j = true := by
        intro m
        induction m with
        | zero => exact fun _ => .inl fun j hj => by omega
        | succ m ih =>
          intro hm
          rcases ih (by omega) with h1 | h1
          · cases hg : good m with
            | true => exact .inl fun j hj => by by_cases e : j = m; (subst e; exact hg); exact h1 j (by omega)
            | false => exact .inr ⟨m, by omega, hg, h1⟩
          · exact .inr h1
      rcases this n (Nat.le_refl _) with h1 | h1
      · rw [List.all_eq_true.2 (fun j hj => h1 j (by simpa using hj))] at h'; cases h'
      · exact h1
    rw [h', fidx_hit hi hg.2 hg.1]
    simp
theorem gcst_dead {P : Program} {H : Nat → Option ABox} {nx fid : Nat} {as : List AV} {K : Res → Prop} (h : K ⟨.gd false (.agg [.i 0, .i 0]), [], 0, []⟩) : gcst false P H nx (.clo fid []) as K :=
  .inr (.inr ⟨.agg [.i 0, .i 0], [], (fun e => Bool.noConfusion e), h⟩)
/-! ### shapes -/
def vcount (k n : Int) : Bool := if k = 1 then decide (n = 1) else if k = 2 then decide (n = 2) else decide (3 ≤ n) && decide (n ≤ 8)
def vcountR (k n : Int) : Bool := if k = 3 then decide (3 ≤ n) && decide (n ≤ 8) else decide (n = k)
theorem vcount_eq {k n : Int} (h : 1 ≤ k) (h' : k ≤ 3) : vcountR k n = vcount k n := by
  unfold vcount vcountR
  by_cases h1 : k = 1
  · subst h1; rfl
  · by_cases h2 : k = 2
    · subst h2; rfl
    · rw [if_pos (by omega), if_neg h1, if_neg h2]
def oor (x : Int) : Bool := decide (x < -1048576) || decide (1048576 < x)
theorem oor_inr (x y : Int) : (oor x || oor y) = !inr x y := by
  unfold oor inr; rw [Bool.eq_iff_iff]; simp; omega
def sradB (k r : Int) : Bool := (decide (k = 3) && !decide (r = 0)) || (!decide (k = 3) && (decide (r < 2048) || decide (524288 < r)))
def scapB (k : Int) (ps : List (Int × Int)) : Bool := decide (k = 2) && decide (vlen (fsub (vx ps 1) (vx ps 0)) (fsub (vy ps 1) (vy ps 0)) < 4096)
def spolB (k : Int) (ps : List (Int × Int)) : Bool := decide (k = 3) && (!convex ps || decide (shortest ps < 4096) || decide (area ps < 256))
def sval (k r : Int) (ps : List (Int × Int)) : Int :=
  if k < 1 ∨ 3 < k then 10 else if vcount k ps.length = false then 11 else if allIR ps = false then 6 else if sradB k r = true then 6
  else if scapB k ps = true then 12 else if spolB k ps = true then 12 else 0
end Go.Carom
/-
  The plain law of chapter 12: the core of a shape, its box, its points. Conditions: none; no program in sight.
-/
namespace Go.Carom
open Go Go.AL
theorem take_map_succ {α β : Type} {ps : List α} {i : Nat} {f : α → β} (h : i < ps.length) : (ps.take (i + 1)).map f = (ps.take i).map f ++ [f ps[i]] := by
  rw [List.take_succ_eq_append_getElem h, List.map_append]; rfl
theorem ps_get {ps : List (Int × Int)} {i : Nat} (h : i < ps.length) : ps[i] = (vx ps i, vy ps i) := by
  simp [vx, vy, List.getD_eq_getElem?_getD, h]
theorem within_inr (x y : Int) : (!(decide (-1048576 ≤ x) && decide (x ≤ 1048576)) || !(decide (-1048576 ≤ y) && decide (y ≤ 1048576))) = !inr x y := by
  unfold inr; rw [Bool.eq_iff_iff]; simp; omega
/-! ### the core -/
def tp (px py a : Int) (p : Int × Int) : Int × Int := (apx px py a p.1 p.2, apy px py a p.1 p.2)
def core (k r : Int) (ps : List (Int × Int)) (px py a : Int) : List (Int × Int) := if sval k r ps = 0 then ps.map (tp px py a) else []
theorem core_if {k r : Int} {ps : List (Int × Int)} {px py a : Int} (h : sval k r ps = 0) : core k r ps px py a = ps.map (tp px py a) := if_pos h
theorem core_no {k r : Int} {ps : List (Int × Int)} {px py a : Int} (h : ¬ sval k r ps = 0) : core k r ps px py a = [] := if_neg h
structure SOk (k r : Int) (ps : List (Int × Int)) : Prop where
  k1 : 1 ≤ k
  k3 : k ≤ 3
  n1 : k = 1 → ps.length = 1
  n2 : k = 2 → ps.length = 2
  n3 : k = 3 → 3 ≤ ps.length ∧ ps.length ≤ 8
  ir : allIR ps = true
  rb : sradB k r = false
  cb : scapB k ps = false
  pb : spolB k ps = false
theorem sval_ok {k r : Int} {ps : List (Int × Int)} (h : sval k r ps = 0) : SOk k r ps := by
  unfold sval at h
  split at h
  · omega
  split at h
  · omega
  split at h
  · omega
  split at h
  · omega
  split at h
  · omega
  split at h
  · omega
  rename_i h1 h2 h3 h4 h5 h6
  have hv : vcount k ps.length = true := by simpa using h2
  unfold vcount at hv
  refine ⟨by omega, by omega, fun e => ?_, fun e => ?_, fun e => ?_, by simpa using h3, by simpa using h4, by simpa using h5, by simpa using h6⟩
  · subst e; simp at hv; omega
  · subst e; simp at hv; omega
  · subst e; simp at hv; omega
theorem SOk.pos {k r : Int} {ps : List (Int × Int)} (h : SOk k r ps) : 1 ≤ ps.length ∧ ps.length ≤ 8 := by
  have h1 := h.k1
  have h3 := h.k3
  by_cases e1 : k = 1
  · have := h.n1 e1; omega
  · by_cases e2 : k = 2
    · have := h.n2 e2; omega
    · have := h.n3 (by omega); omega
theorem core_len_if {k r : Int} {ps : List (Int × Int)} {px py a : Int} (h : sval k r ps = 0) : (core k r ps px py a).length = ps.length := by rw [core_if h, List.length_map]
theorem core_len {k r : Int} {ps : List (Int × Int)} {px py a : Int} : (core k r ps px py a).length ≤ 8 := by
  by_cases h : sval k r ps = 0
  · rw [core_len_if h]; exact (sval_ok h).pos.2
  · rw [core_no h]; simp
theorem vx_map (ps : List (Int × Int)) (px py a : Int) {i : Nat} (h : i < ps.length) : vx (ps.map (tp px py a)) i = apx px py a (vx ps i) (vy ps i) := by
  simp [vx, vy, List.getD_eq_getElem?_getD, h, tp]
theorem vy_map (ps : List (Int × Int)) (px py a : Int) {i : Nat} (h : i < ps.length) : vy (ps.map (tp px py a)) i = apy px py a (vx ps i) (vy ps i) := by
  simp [vx, vy, List.getD_eq_getElem?_getD, h, tp]
def Satd (c : List (Int × Int)) : Prop := ∀ i, sat (vx c i) = vx c i ∧ sat (vy c i) = vy c i
theorem core_sat (k r : Int) (ps : List (Int × Int)) (px py a : Int) : Satd (core k r ps px py a) := by
  intro i
  by_cases h : sval k r ps = 0
  · rw [core_if h]
    by_cases hi : i < ps.length
    · rw [vx_map _ _ _ _ hi, vy_map _ _ _ _ hi]
      exact ⟨sat_sat _, sat_sat _⟩
    · have e : (ps.map (tp px py a)).getD i (0, 0) = (0, 0) := by rw [List.getD_eq_getElem?_getD, List.getElem?_eq_none (by simp; omega)]; rfl
      unfold vx vy
      rw [e]; exact ⟨rfl, rfl⟩
  · rw [core_no h]; exact ⟨rfl, rfl⟩
/-! ### the box -/
def boxR (c : List (Int × Int)) (r : Int) : Q4 :=
  if c.length = 0 then ⟨0, 0, 0, 0⟩ else ⟨fsub (loX c (c.length - 1)) r, fsub (loY c (c.length - 1)) r, fadd (hiX c (c.length - 1)) r, fadd (hiY c (c.length - 1)) r⟩
def loXR (c : List (Int × Int)) : Nat → Int
  | 0 => vx c 0
  | i + 1 => imin (loXR c i) (vx c i)
def loYR (c : List (Int × Int)) : Nat → Int
  | 0 => vy c 0
  | i + 1 => imin (loYR c i) (vy c i)
def hiXR (c : List (Int × Int)) : Nat → Int
  | 0 => vx c 0
  | i + 1 => imax (hiXR c i) (vx c i)
def hiYR (c : List (Int × Int)) : Nat → Int
  | 0 => vy c 0
  | i + 1 => imax (hiYR c i) (vy c i)
theorem imin_self (a : Int) : imin a a = a := by unfold imin; split <;> rfl
theorem imax_self (a : Int) : imax a a = a := by unfold imax; split <;> rfl
theorem box_ref {c : List (Int × Int)} (hs : Satd c) (i : Nat) : loXR c (i + 1) = loX c i ∧ loYR c (i + 1) = loY c i ∧ hiXR c (i + 1) = hiX c i ∧ hiYR c (i + 1) = hiY c i := by
  induction i with
  | zero =>
    have := hs 0
    simp only [loXR, loYR, hiXR, hiYR, loX, loY, hiX, hiY, imin_self, imax_self, this.1, this.2, and_self]
  | succ i ih =>
    have := hs (i + 1)
    rw [loXR, loYR, hiXR, hiYR, ih.1, ih.2.1, ih.2.2.1, ih.2.2.2, loX, loY, hiX, hiY, this.1, this.2]
    exact ⟨rfl, rfl, rfl, rfl⟩
theorem boxR_ref {c : List (Int × Int)} (hs : Satd c) (r : Int) (h : ¬ c.length = 0) : boxR c r = ⟨fsub (loXR c c.length) r, fsub (loYR c c.length) r, fadd (hiXR c c.length) r, fadd (hiYR c c.length) r⟩ := by
  unfold boxR
  rw [if_neg h]
  obtain ⟨n, hn⟩ : ∃ n, c.length = n + 1 := ⟨c.length - 1, by omega⟩
  rw [hn, Nat.add_sub_cancel]
  obtain ⟨h1, h2, h3, h4⟩ := box_ref hs n
  rw [h1, h2, h3, h4]
def bexp (x y u v m : Int) : Q4 := if (!bvalid x y u v) = true then ⟨0, 0, 0, 0⟩ else if (!bvalid (fsub x m) (fsub y m) (fadd u m) (fadd v m)) = true then ⟨0, 0, 0, 0⟩ else ⟨fsub x m, fsub y m, fadd u m, fadd v m⟩
/-! ### points -/
def orE (c : List (Int × Int)) (x y : Int) (i : Nat) : Bool := !decide (orient (vx c i) (vy c i) (vx c ((i + 1) % c.length)) (vy c ((i + 1) % c.length)) x y < 0)
def polC (c : List (Int × Int)) (x y : Int) : Bool := (List.range c.length).all (orE c x y)
def shC (c : List (Int × Int)) (r x y : Int) : Bool :=
  if c.length = 0 then false else if c.length = 1 then decide (vlen (fsub x (vx c 0)) (fsub y (vy c 0)) ≤ r)
  else if c.length = 2 then decide (sdist x y x y (vx c 0) (vy c 0) (vx c 1) (vy c 1) ≤ r) else polC c x y
def farR (ps : List (Int × Int)) : Nat → Int
  | 0 => 0
  | i + 1 => imax (farR ps i) (vlen (vx ps i) (vy ps i))
def sradius (k r : Int) (ps : List (Int × Int)) : Int := if sval k r ps = 0 then fadd (farR ps ps.length) r else 0
/-! ### equality of rows of points -/
end Go.Carom
/-
  The plain law of chapter 17: distances. Conditions: none; no program in sight.
-/
namespace Go.Carom
open Go Go.AL
def Q4.d0 : Q4 := ⟨0, 0, 0, 0⟩
def span1 (c : List (Int × Int)) (i : Nat) : Q4 := ⟨vx c i, vy c i, vx c ((i + 1) % c.length), vy c ((i + 1) % c.length)⟩
def spans (k : Int) (c : List (Int × Int)) : List Q4 :=
  if k = 1 then [⟨vx c 0, vy c 0, vx c 0, vy c 0⟩] else if k = 2 then [⟨vx c 0, vy c 0, vx c 1, vy c 1⟩] else if k = 3 then (List.range c.length).map (span1 c) else []
def qsd (s t : Q4) : Int := sdist s.a s.b s.c s.d t.a t.b t.c t.d
def clJ (s : Q4) (bs : List Q4) (m : Int) : Nat → Int
  | 0 => m
  | j + 1 => imin (clJ s bs m j) (qsd s (bs.getD j Q4.d0))
def clI (as bs : List Q4) : Nat → Int
  | 0 => 536870911
  | i + 1 => clJ (as.getD i Q4.d0) bs (clI as bs i) bs.length
def closest (as bs : List Q4) : Int := clI as bs as.length
def sepn (k r : Int) (ps : List (Int × Int)) (px py a k' r' : Int) (ps' : List (Int × Int)) (px' py' a' : Int) : Int :=
  if ¬ sval k r ps = 0 ∨ ¬ sval k' r' ps' = 0 then 536870911
  else if (decide (k = 3) && shC (core k r ps px py a) r (vx (core k' r' ps' px' py' a') 0) (vy (core k' r' ps' px' py' a') 0)) = true then 0
  else if (decide (k' = 3) && shC (core k' r' ps' px' py' a') r' (vx (core k r ps px py a) 0) (vy (core k r ps px py a) 0)) = true then 0
  else imax 0 (fsub (fsub (closest (spans k (core k r ps px py a)) (spans k' (core k' r' ps' px' py' a'))) r) r')
end Go.Carom
/-
  The plain law of chapters 14 and 18: edges and rays. Conditions: none; no program in sight.
-/
namespace Go.Carom
open Go Go.AL
@[go_sem] theorem w_nfsub (a b : Int) : IntKind.i64.wrap (0 - fsub a b) = -fsub a b := by have := fsub_bd a b; rw [w64_id (by omega) (by omega)]; omega
theorem vcrs_bd (a b c d : Int) : -536870911 ≤ vcrs a b c d ∧ vcrs a b c d ≤ 536870911 := ⟨sat_ge _, sat_le _⟩
@[go_sem] theorem w_nvc (a b c d : Int) : IntKind.i64.wrap (0 - vcrs a b c d) = -vcrs a b c d := by have := vcrs_bd a b c d; rw [w64_id (by omega) (by omega)]; omega
/-! ### edges -/
def edgeB (c : List (Int × Int)) (i : Int) : Bool := decide (2 ≤ c.length) && decide (0 ≤ i) && decide (i < c.length)
def edX (c : List (Int × Int)) (i : Int) : Int := if edgeB c i = true then fsub (vx c ((i.toNat + 1) % c.length)) (vx c i.toNat) else 0
theorem edX_bd (c : List (Int × Int)) (i : Int) : -536870911 ≤ edX c i ∧ edX c i ≤ 536870911 := by
  unfold edX; split
  · exact fsub_bd _ _
  · omega
@[go_sem] theorem w_nedX (c : List (Int × Int)) (i : Int) : IntKind.i64.wrap (0 - edX c i) = -edX c i := by have := edX_bd c i; rw [w64_id (by omega) (by omega)]; omega
structure Hit where
  t : Int
  x : Int
  y : Int
  ok : Bool
def Hit.v (h : Hit) : AV := .tup [.i h.t, .agg [.i h.x, .i h.y], .b h.ok]
/-! ### circles -/
section
variable (cx cy r fx fy tx ty : Int)
end
/-! ### polygons -/
structure PSt where
  en : Int
  ex : Int
  fi : Int
  le : Bool
section
variable {c : List (Int × Int)} {fx fy tx ty : Int} {i : Nat}
end
/-! ### capsules, shapes -/
end Go.Carom
/-
  The plain law of chapter 19: times of impact. Conditions: none; no program in sight.
-/
namespace Go.Carom
open Go Go.AL
theorem adiff_bd (a b : Int) : -205888 ≤ adiff a b ∧ adiff a b < 205888 := anorm_bd _
@[go_sem] theorem w_nadiff (a b : Int) : IntKind.i64.wrap (0 - adiff a b) = -adiff a b := by have := adiff_bd a b; rw [w64_id (by omega) (by omega)]; omega
def mbnd (k r : Int) (ps : List (Int × Int)) (px py a px' py' a' : Int) : Int :=
  if ¬ sval k r ps = 0 then 0 else fadd (fadd (vlen (fsub px' px) (fsub py' py)) (fmul (imax (adiff a a') (-adiff a a')) (sradius k r ps))) 4
def ipA (a a' t : Int) : Int := anorm (anorm a + fmul (adiff a a') t)
def toiF (g : Int → Int) (b : Int) : Nat → Int → Int × Bool
  | 0, t => (t, true)
  | n + 1, t => if g t ≤ 512 then (t, true) else if 65536 < t + imax ((g t * 65536).tdiv b) 1 then (0, false) else toiF g b n (t + imax ((g t * 65536).tdiv b) 1)
section
variable (k r : Int) (ps : List (Int × Int)) (px py a px' py' a' k' r' : Int) (qs : List (Int × Int)) (ux uy b ux' uy' b' : Int)
def gapAt (t : Int) : Int := sepn k r ps (flerp px px' t) (flerp py py' t) (ipA a a' t) k' r' qs (flerp ux ux' t) (flerp uy uy' t) (ipA b b' t)
def tbound : Int := 2 * (mbnd k r ps px py a px' py' a' + mbnd k' r' qs ux uy b ux' uy' b')
def toi : Int × Bool := if ¬ sval k r ps = 0 ∨ ¬ sval k' r' qs = 0 then (0, false) else toiF (gapAt k r ps px py a px' py' a' k' r' qs ux uy b ux' uy' b') (tbound k r ps px py a px' py' a' k' r' qs ux uy b ux' uy' b') 40 0
end
structure TS (g : Int → Int) (b : Int) where
  i : Nat
  t : Int
  hi : i ≤ 40
  h0 : 0 ≤ t
  h1 : t ≤ 65536
  he : toiF g b (40 - i) t = toiF g b 40 0
def TS.start (g : Int → Int) (b : Int) : TS g b := ⟨0, 0, by omega, by omega, by omega, rfl⟩
section
variable {g : Int → Int} {b : Int} {i : Nat} {t : Int}
end
end Go.Carom
/-
  How the values that are handed to a law look. Conditions: none; no program in sight.
-/
namespace Go.Carom
open Go Go.AL
theorem in_vec {cs : List AV} (h : InL [.int .i64, .int .i64] cs) : ∃ x y, cs = [.i x, .i y] := by
  obtain ⟨c0, cs, rfl, h0, h⟩ := inL_cons.1 h
  obtain ⟨c1, cs, rfl, h1, h⟩ := inL_cons.1 h
  obtain rfl := inL_nil.1 h
  obtain ⟨x, rfl, _⟩ := inC_int.1 h0
  obtain ⟨y, rfl, _⟩ := inC_int.1 h1
  exact ⟨x, y, rfl⟩
theorem in_vecs {c : AV} (h : InC (.sl true [.int .i64, .int .i64]) c) : ∃ ps : List (Int × Int), c = .sl (ps.map ev) ∧ ps.length ≤ maxLen := by
  obtain ⟨ps, h1, h2, _⟩ := inC_sl (F := ev) (Q := fun _ => True) (fun cs hcs => by
    obtain ⟨x, y, rfl⟩ := in_vec hcs
    exact ⟨(x, y), rfl, trivial⟩) h
  exact ⟨ps, h1, h2⟩
theorem in_int {cs : List AV} (h : InL [.int .i64] cs) : ∃ n, ofC false cs = .i n := by
  obtain ⟨c0, cs', rfl, h0, h'⟩ := inL_cons.1 h
  obtain ⟨n, rfl, _⟩ := inC_int.1 h0
  exact ⟨n, rfl⟩
end Go.Carom
/-
  The plain law of rays: what a cast's answer looks like. Conditions: none; no program in sight.
-/
namespace Go.Carom
open Go Go.AL
/-! ### rays of no length -/
end Go.Carom
/-
  The plain laws of chapters 17 and 19: symmetric distances, the distance from a circle, times of impact. Conditions: none; no program in sight.
-/
namespace Go.Carom
open Go Go.AL
/-! ### symmetry -/
section
variable (k r : Int) (ps : List (Int × Int)) (px py a k' r' : Int) (qs : List (Int × Int)) (ux uy b : Int)
end
/-! ### a circle -/
section
variable (k r : Int) (ps : List (Int × Int)) (px py a : Int)
end
/-! ### times of impact -/
section
variable (k r : Int) (ps : List (Int × Int)) (px py a px' py' a' k' r' : Int) (qs : List (Int × Int)) (ux uy b ux' uy' b' : Int)
end
end Go.Carom
