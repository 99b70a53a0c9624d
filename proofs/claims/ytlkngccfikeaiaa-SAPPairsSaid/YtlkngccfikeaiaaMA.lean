/-
  The plain law of chapter 1: fixed-point numbers on the integers. Conditions: none; no program in sight.
-/
import Derived.Test.YtlkngccfikeaiaaAlB
import Derived.ProofKit
import Derived.Laws.BitsLemmas
set_option linter.all false
namespace Go.Carom
open Go
theorem w64_id {n : Int} (h : -9223372036854775808 ≤ n) (h' : n ≤ 9223372036854775807) : IntKind.i64.wrap n = n := by
  simp [IntKind.wrap, IntKind.signed, IntKind.bits]; omega
def sat (x : Int) : Int := if x < -536870911 then -536870911 else if 536870911 < x then 536870911 else x
theorem sat_le (x : Int) : sat x ≤ 536870911 := by unfold sat; split; omega; split <;> omega
theorem sat_ge (x : Int) : -536870911 ≤ sat x := by unfold sat; split; omega; split <;> omega
theorem mul_bd {a b A B : Int} (ha : -A ≤ a) (ha' : a ≤ A) (hb : -B ≤ b) (hb' : b ≤ B) : -(A * B) ≤ a * b ∧ a * b ≤ A * B := by
  have hA : 0 ≤ A := by omega
  have hB : 0 ≤ B := by omega
  have h1 : a * b ≤ A * B := by
    rcases Int.le_total 0 a with h | h
    · exact Int.le_trans (Int.mul_le_mul_of_nonneg_left hb' h) (Int.mul_le_mul_of_nonneg_right ha' hB)
    · have : a * b ≤ a * (-B) := Int.mul_le_mul_of_nonpos_left h hb
      have h2 : (-a) * B ≤ A * B := Int.mul_le_mul_of_nonneg_right (by omega) hB
      have h3 : a * (-B) = (-a) * B := by rw [Int.mul_neg, Int.neg_mul]
      omega
  have h2 : -(A * B) ≤ a * b := by
    have h3 : a * (-b) ≤ A * B := by
      rcases Int.le_total 0 a with h | h
      · exact Int.le_trans (Int.mul_le_mul_of_nonneg_left (by omega) h) (Int.mul_le_mul_of_nonneg_right ha' hB)
      · have h4 : a * (-b) = (-a) * b := by rw [Int.mul_neg, Int.neg_mul]
        rw [h4]
        exact Int.le_trans (Int.mul_le_mul_of_nonneg_left hb' (by omega)) (Int.mul_le_mul_of_nonneg_right (by omega) hB)
    rw [Int.mul_neg] at h3
    omega
  exact ⟨h2, h1⟩
theorem sat_mul (a b : Int) : -288230375077969921 ≤ sat a * sat b ∧ sat a * sat b ≤ 288230375077969921 := mul_bd (A := 536870911) (B := 536870911) (sat_ge a) (sat_le a) (sat_ge b) (sat_le b)
def rdiv (n d : Int) : Int :=
  if d < 1 ∨ 4611686018427387904 < d ∨ n < -4611686018427387904 ∨ 4611686018427387904 < n then 0
  else if d - n.tmod d ≤ n.tmod d then n.tdiv d + 1 else if d + n.tmod d ≤ -(n.tmod d) then n.tdiv d - 1 else n.tdiv d
theorem tmod_bd {n d : Int} (hd : 1 ≤ d) : -d < n.tmod d ∧ n.tmod d < d := by
  rcases Int.le_total 0 n with h0 | h0
  · have := Int.tmod_lt_of_pos n (by omega : 0 < d)
    have := Int.tmod_nonneg d h0
    omega
  · have e : n.tmod d = -((-n).tmod d) := by rw [Int.neg_tmod]; omega
    have := Int.tmod_lt_of_pos (-n) (by omega : 0 < d)
    have := Int.tmod_nonneg d (by omega : 0 ≤ -n)
    omega
def fadd (a b : Int) : Int := sat (sat a + sat b)
def fsub (a b : Int) : Int := sat (sat a - sat b)
def fmul (a b : Int) : Int := sat (rdiv (sat a * sat b) 65536)
def fclamp (x lo hi : Int) : Int := if hi < lo ∨ x < lo then lo else if hi < x then hi else x
def fdiv (a b : Int) : Int :=
  if sat b = 0 then fclamp (sat a * 65536) (-1) 1 * 536870911
  else if sat b < 0 then sat (rdiv (-(sat a * 65536)) (-(sat b))) else sat (rdiv (sat a * 65536) (sat b))
def isqB (n : Int) : Nat → Int → Int
  | 0, r => r
  | k + 1, r => isqB n k (if (r + 2 ^ k) * (r + 2 ^ k) ≤ n then r + 2 ^ k else r)
def isqrt (n : Int) : Int := if n < 0 ∨ 4611686018427387904 < n then 0 else isqB n 32 0
/-! ### the machine's sums, products and differences of clamped numbers are exact -/
@[go_sem] theorem w_add (a b : Int) : IntKind.i64.wrap (sat a + sat b) = sat a + sat b := by have := sat_le a; have := sat_ge a; have := sat_le b; have := sat_ge b; exact w64_id (by omega) (by omega)
@[go_sem] theorem w_sub (a b : Int) : IntKind.i64.wrap (sat a - sat b) = sat a - sat b := by have := sat_le a; have := sat_ge a; have := sat_le b; have := sat_ge b; exact w64_id (by omega) (by omega)
@[go_sem] theorem w_neg (a : Int) : IntKind.i64.wrap (0 - sat a) = -sat a := by have := sat_le a; have := sat_ge a; rw [w64_id (by omega) (by omega)]; omega
@[go_sem] theorem w_mul (a b : Int) : IntKind.i64.wrap (sat a * sat b) = sat a * sat b := by have := sat_mul a b; exact w64_id (by omega) (by omega)
@[go_sem] theorem w_one (a : Int) : IntKind.i64.wrap (sat a * 65536) = sat a * 65536 := by have := sat_le a; have := sat_ge a; exact w64_id (by omega) (by omega)
@[go_sem] theorem w_none (a : Int) : IntKind.i64.wrap (0 - sat a * 65536) = -(sat a * 65536) := by have := sat_le a; have := sat_ge a; rw [w64_id (by omega) (by omega)]; omega
@[go_sem] theorem w_none' (a : Int) : IntKind.i64.wrap (-sat a * 65536) = -(sat a * 65536) := by have := sat_le a; have := sat_ge a; rw [w64_id (by omega) (by omega)]; omega
@[go_sem] theorem w_dot (a b c d : Int) : IntKind.i64.wrap (sat a * sat b + sat c * sat d) = sat a * sat b + sat c * sat d := by have := sat_mul a b; have := sat_mul c d; exact w64_id (by omega) (by omega)
@[go_sem] theorem w_crs (a b c d : Int) : IntKind.i64.wrap (sat a * sat b - sat c * sat d) = sat a * sat b - sat c * sat d := by have := sat_mul a b; have := sat_mul c d; exact w64_id (by omega) (by omega)
theorem dif_bd (a b : Int) : -1073741822 ≤ sat a - sat b ∧ sat a - sat b ≤ 1073741822 := by have := sat_le a; have := sat_ge a; have := sat_le b; have := sat_ge b; omega
theorem dif_mul (a b c d : Int) : -1152921500311879684 ≤ (sat a - sat b) * (sat c - sat d) ∧ (sat a - sat b) * (sat c - sat d) ≤ 1152921500311879684 :=
  mul_bd (A := 1073741822) (B := 1073741822) (dif_bd a b).1 (dif_bd a b).2 (dif_bd c d).1 (dif_bd c d).2
@[go_sem] theorem w_dmul (a b c d : Int) : IntKind.i64.wrap ((sat a - sat b) * (sat c - sat d)) = (sat a - sat b) * (sat c - sat d) := by have := dif_mul a b c d; exact w64_id (by omega) (by omega)
@[go_sem] theorem w_dadd (a b c d a' b' c' d' : Int) : IntKind.i64.wrap ((sat a - sat b) * (sat c - sat d) + (sat a' - sat b') * (sat c' - sat d')) = (sat a - sat b) * (sat c - sat d) + (sat a' - sat b') * (sat c' - sat d') := by
  have := dif_mul a b c d; have := dif_mul a' b' c' d'; exact w64_id (by omega) (by omega)
@[go_sem] theorem w_dsub (a b c d a' b' c' d' : Int) : IntKind.i64.wrap ((sat a - sat b) * (sat c - sat d) - (sat a' - sat b') * (sat c' - sat d')) = (sat a - sat b) * (sat c - sat d) - (sat a' - sat b') * (sat c' - sat d') := by
  have := dif_mul a b c d; have := dif_mul a' b' c' d'; exact w64_id (by omega) (by omega)
structure IS (n : Int) where
  k : Nat
  r : Int
  hk : k ≤ 32
  hm : (2 : Int) ^ k ∣ r
  h0 : 0 ≤ r
  h1 : r + 2 ^ k ≤ 4294967296
  he : isqB n k r = isqB n 32 0
def IS.start (n : Int) : IS n := ⟨32, 0, by omega, ⟨0, by simp⟩, by omega, by decide, rfl⟩
theorem is_dvd {k : Nat} {r : Int} (h : (2 : Int) ^ (k + 1) ∣ r) : (2 : Int) ^ k ∣ r := Int.dvd_trans ⟨2, by rw [Int.pow_succ]⟩ h
theorem is_up {k : Nat} {r : Int} (h1 : r + 2 ^ (k + 1) ≤ 4294967296) : r + 2 ^ k + 2 ^ k ≤ 4294967296 := by
  rw [Int.pow_succ] at h1; omega
theorem is_sq {k : Nat} {r : Int} (h0 : 0 ≤ r) (h1 : r + 2 ^ (k + 1) ≤ 4294967296) : 0 ≤ r + 2 ^ k ∧ r + 2 ^ k ≤ 4294967295 ∧ 0 ≤ (r + 2 ^ k) * (r + 2 ^ k) ∧ (r + 2 ^ k) * (r + 2 ^ k) ≤ 18446744065119617025 := by
  have hp : (0 : Int) < 2 ^ k := Int.pow_pos (by omega)
  have := is_up h1
  have h2 : r + 2 ^ k ≤ 4294967295 := by omega
  have h3 : 0 ≤ r + 2 ^ k := by omega
  exact ⟨h3, h2, Int.mul_nonneg h3 h3, Int.mul_le_mul h2 h2 h3 (by omega)⟩
theorem acond_tt (A B : Unit → Prop) : AL.acond true A B = A () := propext ⟨fun h => h.1 rfl, fun h => AL.acond_true h⟩
theorem acond_ff (A B : Unit → Prop) : AL.acond false A B = B () := propext ⟨fun h => h.2 rfl, fun h => AL.acond_false h⟩
def IS.up {n : Int} {k : Nat} {r : Int} (hk : k + 1 ≤ 32) (hm : (2 : Int) ^ (k + 1) ∣ r) (h0 : 0 ≤ r) (h1 : r + 2 ^ (k + 1) ≤ 4294967296) (he : isqB n (k + 1) r = isqB n 32 0)
    (h : (r + 2 ^ k) * (r + 2 ^ k) ≤ n) : IS n :=
  ⟨k, r + 2 ^ k, by omega, Int.dvd_add (is_dvd hm) ⟨1, by simp⟩, (is_sq h0 h1).1, is_up h1, by rw [← he, isqB, if_pos h]⟩
theorem leaf_i {a b : Int} (h : a = b) : AL.AV.sc (.int .i64 a) = AL.AV.i b := by rw [h]
theorem leaf_b {a b : Bool} (h : a = b) : AL.AV.sc (.bool a) = AL.AV.b b := by rw [h]
end Go.Carom
/-
  The plain law of chapters 2 to 4: angles, vectors, transforms. Conditions: none; no program in sight.
-/
namespace Go.Carom
open Go
theorem fmul_bd (a b : Int) : -536870911 ≤ fmul a b ∧ fmul a b ≤ 536870911 := ⟨sat_ge _, sat_le _⟩
theorem fadd_bd (a b : Int) : -536870911 ≤ fadd a b ∧ fadd a b ≤ 536870911 := ⟨sat_ge _, sat_le _⟩
theorem fsub_bd (a b : Int) : -536870911 ≤ fsub a b ∧ fsub a b ≤ 536870911 := ⟨sat_ge _, sat_le _⟩
@[go_sem] theorem w_nfmul (a b : Int) : IntKind.i64.wrap (0 - fmul a b) = -fmul a b := by have := fmul_bd a b; rw [w64_id (by omega) (by omega)]; omega
/-! ### angles -/
def anorm (a : Int) : Int := if 205888 ≤ a.tmod 411776 then a.tmod 411776 - 411776 else if a.tmod 411776 < -205888 then a.tmod 411776 + 411776 else a.tmod 411776
theorem anorm_bd (a : Int) : -205888 ≤ anorm a ∧ anorm a < 205888 := by
  have := tmod_bd (n := a) (d := 411776) (by omega)
  unfold anorm
  (repeat' split) <;> omega
def aabs (x : Int) : Int := if x < 0 then IntKind.i64.wrap (0 - x) else x
def nabs (a : Int) : Int := if anorm a < 0 then -anorm a else anorm a
theorem nabs_bd (a : Int) : 0 ≤ nabs a ∧ nabs a ≤ 205888 := by have := anorm_bd a; unfold nabs; split <;> omega
@[go_sem] theorem aabs_norm (a : Int) : aabs (anorm a) = nabs a := by
  have := anorm_bd a
  unfold aabs nabs
  split
  · rw [w64_id (by omega) (by omega)]; omega
  · rfl
@[go_sem] theorem w_pi (a : Int) : IntKind.i64.wrap (205888 - nabs a) = 205888 - nabs a := by have := nabs_bd a; exact w64_id (by omega) (by omega)
@[go_sem] theorem w_hpi (a : Int) : IntKind.i64.wrap (102944 - nabs a) = 102944 - nabs a := by have := nabs_bd a; exact w64_id (by omega) (by omega)
def sinq (x : Int) : Int := fmul (fdiv x 102944) (fsub 102873 (fmul (fmul (fdiv x 102944) (fdiv x 102944)) (fsub 41906 (fmul (fmul (fdiv x 102944) (fdiv x 102944)) 4569))))
def asin (a : Int) : Int := if anorm a < 0 then -sinq (if 102944 < nabs a then 205888 - nabs a else nabs a) else sinq (if 102944 < nabs a then 205888 - nabs a else nabs a)
def acos (a : Int) : Int := asin (102944 - nabs a)
theorem sinq_bd (a : Int) : -536870911 ≤ sinq a ∧ sinq a ≤ 536870911 := fmul_bd _ _
theorem asin_bd (a : Int) : -536870911 ≤ asin a ∧ asin a ≤ 536870911 := by
  unfold asin
  split
  · have := sinq_bd (if 102944 < nabs a then 205888 - nabs a else nabs a); omega
  · exact sinq_bd _
@[go_sem] theorem w_nsinq (a : Int) : IntKind.i64.wrap (0 - sinq a) = -sinq a := by have := sinq_bd a; rw [w64_id (by omega) (by omega)]; omega
theorem asin_sq (a : Int) : -288230375077969921 ≤ asin a * asin a ∧ asin a * asin a ≤ 288230375077969921 := mul_bd (A := 536870911) (B := 536870911) (asin_bd a).1 (asin_bd a).2 (asin_bd a).1 (asin_bd a).2
theorem acos_sq (a : Int) : -288230375077969921 ≤ acos a * acos a ∧ acos a * acos a ≤ 288230375077969921 := asin_sq _
@[go_sem] theorem w_s2 (a : Int) : IntKind.i64.wrap (asin a * asin a) = asin a * asin a := by have := asin_sq a; exact w64_id (by omega) (by omega)
@[go_sem] theorem w_c2 (a : Int) : IntKind.i64.wrap (acos a * acos a) = acos a * acos a := by have := acos_sq a; exact w64_id (by omega) (by omega)
@[go_sem] theorem w_cs2 (a : Int) : IntKind.i64.wrap (acos a * acos a + asin a * asin a) = acos a * acos a + asin a * asin a := by have := acos_sq a; have := asin_sq a; exact w64_id (by omega) (by omega)
def adiff (a b : Int) : Int := anorm (anorm b - anorm a)
@[go_sem] theorem w_nsub (a b : Int) : IntKind.i64.wrap (anorm b - anorm a) = anorm b - anorm a := by have := anorm_bd a; have := anorm_bd b; exact w64_id (by omega) (by omega)
@[go_sem] theorem w_nadd (a b : Int) : IntKind.i64.wrap (anorm b + anorm a) = anorm b + anorm a := by have := anorm_bd a; have := anorm_bd b; exact w64_id (by omega) (by omega)
@[go_sem] theorem w_nmul (a b c : Int) : IntKind.i64.wrap (anorm a + fmul b c) = anorm a + fmul b c := by have := anorm_bd a; have := fmul_bd b c; exact w64_id (by omega) (by omega)
/-! ### vectors -/
def flerp (a b t : Int) : Int := fadd a (fmul (fsub b a) t)
def prd (n : Int) : Int := sat (rdiv n 65536)
def vdot (x y x' y' : Int) : Int := prd (sat x * sat x' + sat y * sat y')
def vcrs (x y x' y' : Int) : Int := prd (sat x * sat y' - sat y * sat x')
def dsq (x y x' y' : Int) : Int := (sat x' - sat x) * (sat x' - sat x) + (sat y' - sat y) * (sat y' - sat y)
def vlen (x y : Int) : Int := isqrt (sat x * sat x + sat y * sat y)
def area2 (ax ay bx byy cx cy : Int) : Int := (sat bx - sat ax) * (sat cy - sat ay) - (sat byy - sat ay) * (sat cx - sat ax)
def orient (ax ay bx byy cx cy : Int) : Int := if 0 < area2 ax ay bx byy cx cy then 1 else if area2 ax ay bx byy cx cy < 0 then -1 else 0
/-! ### transforms -/
end Go.Carom
/-
  The plain law of loops over rows of points. Conditions: none; no program in sight.
-/
namespace Go.Carom
open Go Go.AL
def ev (p : Int × Int) : AV := .agg [.i p.1, .i p.2]
def vx (ps : List (Int × Int)) (i : Nat) : Int := (ps.getD i (0, 0)).1
def vy (ps : List (Int × Int)) (i : Nat) : Int := (ps.getD i (0, 0)).2
theorem lt_tup {N : Nat} {cs : List AV} (h : ∀ c ∈ cs, Lt N c) : Lt N (.tup cs) := .tup _ h
theorem lt_ev (N : Nat) (p : Int × Int) : Lt N (ev p) := lt_agg (lt_cons (lt_i _ _) (lt_cons (lt_i _ _) lt_nil))
theorem lt_vs (N : Nat) (ps : List (Int × Int)) : Lt N (.sl (ps.map ev)) := .sl _ (lt_map fun x => lt_ev N x)
structure LS (n : Nat) (good : Nat → Bool) where
  i : Nat
  hi : i ≤ n
  h : ∀ j, j < i → good j = true
def LS.start (n : Nat) (good : Nat → Bool) : LS n good := ⟨0, Nat.zero_le _, fun j h => by omega⟩
def LS.next {n : Nat} {good : Nat → Bool} {i : Nat} (hi : i < n) (h : ∀ j, j < i → good j = true) (hg : good i = true) : LS n good :=
  ⟨i + 1, hi, fun j hj => by
    by_cases e : j = i
    · subst e; exact hg
    · exact h j (by omega)⟩
theorem LS.done {n : Nat} {good : Nat → Bool} {i : Nat} (hi : ¬ i < n) (h : ∀ j, j < i → good j = true) : (List.range n).all good = true := by
  rw [List.all_eq_true]; intro j hj; exact h j (by simp at hj; omega)
structure Fs (n : Nat) where
  i : Nat
  hi : i ≤ n
def Fs.start (n : Nat) : Fs n := ⟨0, Nat.zero_le _⟩
def Fs.next {n i : Nat} (hi : i < n) : Fs n := ⟨i + 1, hi⟩
theorem ilt {i n : Nat} (h : i < n) : ((i : Int) < (n : Int)) = True := by simp; omega
theorem inlt {i n : Nat} (h : ¬ i < n) : ((i : Int) < (n : Int)) = False := by simp; omega
theorem icast (i : Nat) : Int.toNat (i : Int) = i := Int.toNat_natCast i
theorem inn (i : Nat) : (0 ≤ (i : Int)) = True := by simp
theorem isucc {i n : Nat} (h : i < n) (hn : n ≤ maxLen) : IntKind.i64.wrap ((i : Int) + 1) = ((i + 1 : Nat) : Int) := by
  have : maxLen ≤ 9223372036854775807 := by decide
  rw [w64_id (by omega) (by omega)]; rfl
/-! ### polygons -/
def inr (x y : Int) : Bool := decide (-1048576 ≤ x) && decide (x ≤ 1048576) && decide (-1048576 ≤ y) && decide (y ≤ 1048576)
def allIR (ps : List (Int × Int)) : Bool := (List.range ps.length).all fun i => inr (vx ps i) (vy ps i)
def or3 (ps : List (Int × Int)) (i j k : Nat) : Int := orient (vx ps i) (vy ps i) (vx ps j) (vy ps j) (vx ps k) (vy ps k)
def cvk (ps : List (Int × Int)) (i k : Nat) : Bool := decide (k = i) || decide (k = (i + 1) % ps.length) || decide (or3 ps i ((i + 1) % ps.length) k = 1)
def cvi (ps : List (Int × Int)) (i : Nat) : Bool := (List.range ps.length).all (cvk ps i)
def convex (ps : List (Int × Int)) : Bool := decide (3 ≤ ps.length) && decide (ps.length ≤ 8) && allIR ps && (List.range ps.length).all (cvi ps)
/-! ### the shortest edge -/
def edl (ps : List (Int × Int)) (i : Nat) : Int := vlen (fsub (vx ps ((i + 1) % ps.length)) (vx ps i)) (fsub (vy ps ((i + 1) % ps.length)) (vy ps i))
def seP (ps : List (Int × Int)) : Nat → Int
  | 0 => 536870911
  | i + 1 => if edl ps i < seP ps i then edl ps i else seP ps i
def shortest (ps : List (Int × Int)) : Int := if convex ps = true then seP ps ps.length else 0
/-! ### the area -/
def trx (ps : List (Int × Int)) (i : Nat) : Int := IntKind.i64.wrap (vx ps i - vx ps 0)
def try_ (ps : List (Int × Int)) (i : Nat) : Int := IntKind.i64.wrap (vy ps i - vy ps 0)
def cr (ps : List (Int × Int)) (i : Nat) : Int := rdiv (IntKind.i64.wrap (IntKind.i64.wrap (trx ps i * try_ ps (i + 1)) - IntKind.i64.wrap (try_ ps i * trx ps (i + 1)))) 65536
def fsum (ps : List (Int × Int)) : Nat → Int
  | 0 => 0
  | k + 1 => IntKind.i64.wrap (fsum ps k + cr ps (k + 1))
def tri (ps : List (Int × Int)) (j : Nat) : AV := .agg [.i (trx ps (j + 1)), .i (try_ ps (j + 1)), .i (trx ps (j + 1 + 1)), .i (try_ ps (j + 1 + 1)), .i (cr ps (j + 1))]
def area (ps : List (Int × Int)) : Int := if convex ps = true then rdiv (fsum ps (ps.length - 2)) 2 else 0
/-! ### the farthest point -/
end Go.Carom
/-
  The plain law of chapters 5 and 10: boxes and segments. Conditions: none; no program in sight.
-/
namespace Go.Carom
open Go Go.AL
def imin (a b : Int) : Int := if b < a then b else a
def imax (a b : Int) : Int := if a < b then b else a
def vsatd (x y : Int) : Bool := decide (sat x = x) && decide (sat y = y)
def bvalid (x y u v : Int) : Bool := decide (x ≤ u) && decide (y ≤ v) && vsatd x y && vsatd u v
def bover (x y u v x' y' u' v' : Int) : Bool := decide (x ≤ u') && decide (x' ≤ u) && decide (y ≤ v') && decide (y' ≤ v)
def boverlaps (x y u v x' y' u' v' : Int) : Bool := bvalid x y u v && bvalid x' y' u' v' && bover x y u v x' y' u' v'
end Go.Carom
/-
  The plain law of chapter 10: segments. Conditions: none; no program in sight.
-/
namespace Go.Carom
open Go Go.AL
def frat (n d : Int) : Int := if d < 1 ∨ 4611686018427387904 < d ∨ n < 1 then 0 else if d ≤ n then 65536 else if d < 70368744177664 then rdiv (n * 65536) d else imin (rdiv n (rdiv d 65536)) 65536
/-! ### the closest point of a segment -/
def cpn (ax ay bx byy px py : Int) : Int := (sat px - sat ax) * (sat bx - sat ax) + (sat py - sat ay) * (sat byy - sat ay)
def cpt (ax ay bx byy px py : Int) : Int := frat (cpn ax ay bx byy px py) (dsq (sat ax) (sat ay) (sat bx) (sat byy))
def cpx (ax ay bx byy px py : Int) : Int := if cpt ax ay bx byy px py = 0 then sat ax else if cpt ax ay bx byy px py = 65536 then sat bx else flerp (sat ax) (sat bx) (cpt ax ay bx byy px py)
def cpy (ax ay bx byy px py : Int) : Int := if cpt ax ay bx byy px py = 0 then sat ay else if cpt ax ay bx byy px py = 65536 then sat byy else flerp (sat ay) (sat byy) (cpt ax ay bx byy px py)
/-! ### two segments -/
theorem orient_bd (a b c d e f : Int) : -1 ≤ orient a b c d e f ∧ orient a b c d e f ≤ 1 := by unfold orient; split; omega; split <;> omega
@[go_sem] theorem w_or (a b c d e f a' b' c' d' e' f' : Int) : IntKind.i64.wrap (orient a b c d e f * orient a' b' c' d' e' f') = orient a b c d e f * orient a' b' c' d' e' f' := by
  have h := mul_bd (A := 1) (B := 1) (orient_bd a b c d e f).1 (orient_bd a b c d e f).2 (orient_bd a' b' c' d' e' f').1 (orient_bd a' b' c' d' e' f').2
  exact w64_id (by omega) (by omega)
structure Q4 where
  a : Int
  b : Int
  c : Int
  d : Int
def Q4.v (q : Q4) : AV := .agg [.i q.a, .i q.b, .i q.c, .i q.d]
section
variable (ax ay bx byy cx cy dx dy : Int)
end
end Go.Carom
/-
  The plain law of chapter 12: shapes. Conditions: none; no program in sight.
-/
namespace Go.Carom
open Go Go.AL
/-! ### shapes -/
def sradB (k r : Int) : Bool := (decide (k = 3) && !decide (r = 0)) || (!decide (k = 3) && (decide (r < 2048) || decide (524288 < r)))
def scapB (k : Int) (ps : List (Int × Int)) : Bool := decide (k = 2) && decide (vlen (fsub (vx ps 1) (vx ps 0)) (fsub (vy ps 1) (vy ps 0)) < 4096)
def spolB (k : Int) (ps : List (Int × Int)) : Bool := decide (k = 3) && (!convex ps || decide (shortest ps < 4096) || decide (area ps < 256))
end Go.Carom
/-
  The plain law of chapter 12: the core of a shape, its box, its points. Conditions: none; no program in sight.
-/
namespace Go.Carom
open Go Go.AL
/-! ### the core -/
structure SOk (k r : Int) (ps : List (Int × Int)) : Prop where
  k1 : 1 ≤ k
  k3 : k ≤ 3
  n1 : k = 1 → ps.length = 1
  n2 : k = 2 → ps.length = 2
  n3 : k = 3 → 3 ≤ ps.length ∧ ps.length ≤ 8
  ir : allIR ps = true
  rb : sradB k r = false
  cb : scapB k ps = false
  pb : spolB k ps = false
/-! ### the box -/
/-! ### points -/
/-! ### equality of rows of points -/
end Go.Carom
/-
  The plain law of chapter 17: distances. Conditions: none; no program in sight.
-/
namespace Go.Carom
open Go Go.AL
def Q4.d0 : Q4 := ⟨0, 0, 0, 0⟩
end Go.Carom
/-
  The plain law of chapters 14 and 18: edges and rays. Conditions: none; no program in sight.
-/
namespace Go.Carom
open Go Go.AL
@[go_sem] theorem w_nfsub (a b : Int) : IntKind.i64.wrap (0 - fsub a b) = -fsub a b := by have := fsub_bd a b; rw [w64_id (by omega) (by omega)]; omega
theorem vcrs_bd (a b c d : Int) : -536870911 ≤ vcrs a b c d ∧ vcrs a b c d ≤ 536870911 := ⟨sat_ge _, sat_le _⟩
@[go_sem] theorem w_nvc (a b c d : Int) : IntKind.i64.wrap (0 - vcrs a b c d) = -vcrs a b c d := by have := vcrs_bd a b c d; rw [w64_id (by omega) (by omega)]; omega
/-! ### edges -/
def edgeB (c : List (Int × Int)) (i : Int) : Bool := decide (2 ≤ c.length) && decide (0 ≤ i) && decide (i < c.length)
def edX (c : List (Int × Int)) (i : Int) : Int := if edgeB c i = true then fsub (vx c ((i.toNat + 1) % c.length)) (vx c i.toNat) else 0
theorem edX_bd (c : List (Int × Int)) (i : Int) : -536870911 ≤ edX c i ∧ edX c i ≤ 536870911 := by
  unfold edX; split
  · exact fsub_bd _ _
  · omega
@[go_sem] theorem w_nedX (c : List (Int × Int)) (i : Int) : IntKind.i64.wrap (0 - edX c i) = -edX c i := by have := edX_bd c i; rw [w64_id (by omega) (by omega)]; omega
structure Hit where
  t : Int
  x : Int
  y : Int
  ok : Bool
def Hit.no : Hit := ⟨0, 0, 0, false⟩
def Hit.v (h : Hit) : AV := .tup [.i h.t, .agg [.i h.x, .i h.y], .b h.ok]
/-! ### circles -/
section
variable (cx cy r fx fy tx ty : Int)
end
/-! ### polygons -/
structure PSt where
  en : Int
  ex : Int
  fi : Int
  le : Bool
section
variable {c : List (Int × Int)} {fx fy tx ty : Int} {i : Nat}
end
/-! ### capsules, shapes -/
end Go.Carom
/-
  The plain law of chapter 19: times of impact. Conditions: none; no program in sight.
-/
namespace Go.Carom
open Go Go.AL
theorem adiff_bd (a b : Int) : -205888 ≤ adiff a b ∧ adiff a b < 205888 := anorm_bd _
@[go_sem] theorem w_nadiff (a b : Int) : IntKind.i64.wrap (0 - adiff a b) = -adiff a b := by have := adiff_bd a b; rw [w64_id (by omega) (by omega)]; omega
def toiF (g : Int → Int) (b : Int) : Nat → Int → Int × Bool
  | 0, t => (t, true)
  | n + 1, t => if g t ≤ 512 then (t, true) else if 65536 < t + imax ((g t * 65536).tdiv b) 1 then (0, false) else toiF g b n (t + imax ((g t * 65536).tdiv b) 1)
section
variable (k r : Int) (ps : List (Int × Int)) (px py a px' py' a' k' r' : Int) (qs : List (Int × Int)) (ux uy b ux' uy' b' : Int)
end
structure TS (g : Int → Int) (b : Int) where
  i : Nat
  t : Int
  hi : i ≤ 40
  h0 : 0 ≤ t
  h1 : t ≤ 65536
  he : toiF g b (40 - i) t = toiF g b 40 0
def TS.start (g : Int → Int) (b : Int) : TS g b := ⟨0, 0, by omega, by omega, by omega, rfl⟩
section
variable {g : Int → Int} {b : Int} {i : Nat} {t : Int}
end
end Go.Carom
/-
  How the values that are handed to a law look. Conditions: none; no program in sight.
-/
namespace Go.Carom
open Go Go.AL
end Go.Carom
/-
  The plain law of rays: what a cast's answer looks like. Conditions: none; no program in sight.
-/
namespace Go.Carom
open Go Go.AL
def Hit.Ok (h : Hit) : Prop := (h.ok = true → 0 ≤ h.t ∧ h.t ≤ 65536) ∧ (h.ok = false → h = Hit.no)
/-! ### rays of no length -/
end Go.Carom
/-
  The plain laws of chapters 17 and 19: symmetric distances, the distance from a circle, times of impact. Conditions: none; no program in sight.
-/
namespace Go.Carom
open Go Go.AL
/-! ### symmetry -/
section
variable (k r : Int) (ps : List (Int × Int)) (px py a k' r' : Int) (qs : List (Int × Int)) (ux uy b : Int)
end
/-! ### a circle -/
section
variable (k r : Int) (ps : List (Int × Int)) (px py a : Int)
end
/-! ### times of impact -/
section
variable (k r : Int) (ps : List (Int × Int)) (px py a px' py' a' k' r' : Int) (qs : List (Int × Int)) (ux uy b ux' uy' b' : Int)
end
end Go.Carom
