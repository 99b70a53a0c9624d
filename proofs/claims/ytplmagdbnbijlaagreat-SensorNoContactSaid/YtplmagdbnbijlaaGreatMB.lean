/-
  The plain law of translation: what does not change when all is moved by the same vector. Conditions: none; no program in sight.
-/
import Derived.Test.YtplmagdbnbijlaaGreatMA
set_option linter.all false
namespace Go.Carom
open Go Go.AL
/-! ### bounds -/
theorem rdiv_abs {n d m : Int} (hd : 1 ≤ d) (hd' : d ≤ 4611686018427387904) (hn : -4611686018427387904 ≤ n) (hn' : n ≤ 4611686018427387904) (hm : 0 ≤ m) (h : n ≤ m * d) (h' : -n ≤ m * d) : -m ≤ rdiv n d ∧ rdiv n d ≤ m := by
  by_cases h0 : 0 ≤ n
  · have := rdiv_mono0 hd hd' h0 hn'
    exact ⟨by omega, rdiv_le hd hd' h0 hn' hm h⟩
  · have e : rdiv n d = -rdiv (-n) d := by rw [rdiv_neg]; omega
    have h1 := rdiv_mono0 (n := -n) hd hd' (by omega) (by omega)
    have h2 := rdiv_le (n := -n) hd hd' (by omega) (by omega) hm h'
    omega
theorem sat_abs {c l : Int} (h : -l ≤ c) (h' : c ≤ l) : -sat l ≤ sat c ∧ sat c ≤ sat l := by
  unfold sat; (repeat' split) <;> omega
theorem fdiv_unit {c l : Int} (h : -l ≤ c) (h' : c ≤ l) : -65536 ≤ fdiv c l ∧ fdiv c l ≤ 65536 := by
  have hs := sat_abs h h'
  have h1 := sat_le l
  have h2 := sat_le c
  have h3 := sat_ge c
  unfold fdiv
  generalize sat l = m at *
  generalize sat c = n at *
  by_cases hm : m = 0
  · have : n = 0 := by omega
    subst this
    rw [if_pos hm]
    decide
  · rw [if_neg hm, if_neg (by omega)]
    have := rdiv_abs (n := n * 65536) (d := m) (m := 65536) (by omega) (by omega) (by omega) (by omega) (by omega) (by omega) (by omega)
    generalize rdiv _ _ = q at *
    unfold sat; (repeat' split) <;> omega
/-! ### a number that is moved -/
def Nr (x : Int) : Prop := -207618048 ≤ x ∧ x ≤ 207618048
def Sm (u : Int) : Prop := -67108864 ≤ u ∧ u ≤ 67108864
section
variable {u v : Int} (hu : Sm u) (hv : Sm v)
variable {ax ay bx byy cx cy dx dy : Int} (ha : Nr ax) (ha' : Nr ay) (hb : Nr bx) (hb' : Nr byy) (hc : Nr cx) (hc' : Nr cy) (hd : Nr dx) (hd' : Nr dy)
include hu hv ha ha' hb hb'
end
/-! ### distances -/
def Nc (x : Int) : Prop := -69206016 ≤ x ∧ x ≤ 69206016
section
variable {u v : Int} (hu : Sm u) (hv : Sm v)
variable {ax ay bx byy cx cy dx dy : Int} (ha : Nc ax) (ha' : Nc ay) (hb : Nc bx) (hb' : Nc byy)
include hu hv ha ha' hb hb'
end
/-! ### cores -/
structure Mv (u v : Int) (us us' : List Q4) : Prop where
  l : us'.length = us.length
  h : ∀ i, i < us.length → us'.getD i Q4.d0 = ⟨(us.getD i Q4.d0).a + u, (us.getD i Q4.d0).b + v, (us.getD i Q4.d0).c + u, (us.getD i Q4.d0).d + v⟩ ∧ (Nc (us.getD i Q4.d0).a ∧ Nc (us.getD i Q4.d0).b) ∧ (Nc (us.getD i Q4.d0).c ∧ Nc (us.getD i Q4.d0).d)
end Go.Carom
/-
  The segments of a core, as the reference lays them: their first points and their last points. Conditions: none; no program in sight.
-/
namespace Go.Carom
open Go Go.AL
structure SegOk (us : List Q4) (A B : List (Int × Int)) : Prop where
  la : A.length = us.length
  lb : B.length = us.length
  h : ∀ i, i < us.length → us.getD i Q4.d0 = ⟨vx A i, vy A i, vx B i, vy B i⟩
end Go.Carom
/-
  How a motion that is handed to a law looks. Conditions: none; no program in sight.
-/
namespace Go.Carom
open Go Go.AL
end Go.Carom
/-
  The plain law of a shape's distance from its own points. Conditions: none; no program in sight.
-/
namespace Go.Carom
open Go Go.AL
section
variable {k r : Int} {ps : List (Int × Int)} (px py a : Int)
end
end Go.Carom
/-
  The plain law of a shape's box: its core and its support points lie in it. Conditions: none; no program in sight.
-/
namespace Go.Carom
open Go Go.AL
theorem nrm_bd (x y : Int) : (-65536 ≤ vnx x y ∧ vnx x y ≤ 65536) ∧ (-65536 ≤ vny x y ∧ vny x y ≤ 65536) := by
  have hx := sq_nonneg' (sat x)
  have hy := sq_nonneg' (sat y)
  have hm := sat_mul x x
  have hm' := sat_mul y y
  have hl : ∀ z : Int, z * z ≤ sat x * sat x + sat y * sat y → 0 ≤ z → z ≤ vlen x y := fun z hz hz0 => isq_le (by omega) (by omega) hz0 hz
  have hp : 0 ≤ vlen x y := isqrt_nonneg _
  have c1 : sat x ≤ vlen x y := by
    by_cases c : 0 ≤ sat x
    · exact hl _ (by omega) c
    · omega
  have c2 : -sat x ≤ vlen x y := by
    by_cases c : 0 ≤ -sat x
    · exact hl _ (by rw [Int.neg_mul_neg]; omega) c
    · omega
  have s1 : sat y ≤ vlen x y := by
    by_cases c : 0 ≤ sat y
    · exact hl _ (by omega) c
    · omega
  have s2 : -sat y ≤ vlen x y := by
    by_cases c : 0 ≤ -sat y
    · exact hl _ (by rw [Int.neg_mul_neg]; omega) c
    · omega
  have e : ∀ a l, fdiv a l = fdiv (sat a) l := fun a l => by unfold fdiv; rw [sat_sat]
  have f1 := fdiv_unit (c := sat x) (l := vlen x y) (by omega) c1
  have f2 := fdiv_unit (c := sat y) (l := vlen x y) (by omega) s1
  rw [← e] at f1 f2
  unfold vnx vny
  constructor <;> split <;> omega
end Go.Carom
/-
  The plain law of turns: how long a turned vector is, and the area of a polygon that is turned and rounded. Conditions: none; no program in sight.
-/
namespace Go.Carom
open Go Go.AL
/-! ### sines -/
end Go.Carom
/-
  The plain law of a shape's box: a point that a shape contains lies in its box. Conditions: none; no program in sight.
-/
namespace Go.Carom
open Go Go.AL
/-! ### how long a turned vector is -/
/-! ### products of sums -/
/-! ### a turned and rounded vertex -/
/-! ### areas -/
/-! ### turning around a point -/
structure Near (c : List (Int × Int)) (r X Y : Int) : Prop where
  x1 : ∃ i, i < c.length ∧ vx c i - r ≤ X
  x2 : ∃ i, i < c.length ∧ X ≤ vx c i + r
  y1 : ∃ i, i < c.length ∧ vy c i - r ≤ Y
  y2 : ∃ i, i < c.length ∧ Y ≤ vy c i + r
/-! ### round shapes -/
end Go.Carom
/-
  The plain law of contact manifolds: what the functions of chapters 14 to 16 compute. Conditions: none; no program in sight.
-/
namespace Go.Carom
open Go Go.AL
theorem nc0 : ((0 : Nat) : Int) = 0 := rfl
theorem nc1 : ((1 : Nat) : Int) = 1 := rfl
theorem nc2 : ((2 : Nat) : Int) = 2 := rfl
/-! ### edges -/
def edgX (a : List (Int × Int)) (i : Nat) : Int := fsub (vx a ((i + 1) % a.length)) (vx a i)
def edgY (a : List (Int × Int)) (i : Nat) : Int := fsub (vy a ((i + 1) % a.length)) (vy a i)
def nmX (a : List (Int × Int)) (i : Nat) : Int := vnx (edgY a i) (-edgX a i)
def nmY (a : List (Int × Int)) (i : Nat) : Int := vny (edgY a i) (-edgX a i)
def drX (a : List (Int × Int)) (i : Nat) : Int := vnx (edgX a i) (edgY a i)
def drY (a : List (Int × Int)) (i : Nat) : Int := vny (edgX a i) (edgY a i)
def mnF (f : Nat → Int) : Nat → Int
  | 0 => f 0
  | m + 1 => if f (m + 1) < mnF f m then f (m + 1) else mnF f m
def mnG (f : Nat → Int) : Nat → Nat × Int
  | 0 => (0, f 0)
  | m + 1 => if f (m + 1) < (mnG f m).2 then (m + 1, f (m + 1)) else mnG f m
def mxG (f : Nat → Int) : Nat → Nat × Int
  | 0 => (0, f 0)
  | m + 1 => if (mxG f m).2 < f (m + 1) then (m + 1, f (m + 1)) else mxG f m
theorem mnG_le (f : Nat → Int) (m : Nat) : (mnG f m).1 ≤ m := by
  induction m with
  | zero => exact Nat.le_refl _
  | succ m ih =>
    rw [mnG]
    split
    · exact Nat.le_refl _
    · exact Nat.le_succ_of_le ih
theorem mxG_le (f : Nat → Int) (m : Nat) : (mxG f m).1 ≤ m := by
  induction m with
  | zero => exact Nat.le_refl _
  | succ m ih =>
    rw [mxG]
    split
    · exact Nat.le_refl _
    · exact Nat.le_succ_of_le ih
def mnL (f : Nat → Int) : Nat → Int
  | 0 => 0
  | m + 1 => mnF f m
def mnI (f : Nat → Int) : Nat → Int
  | 0 => -1
  | m + 1 => ((mnG f m).1 : Nat)
def mnV (f : Nat → Int) : Nat → Int
  | 0 => 0
  | m + 1 => (mnG f m).2
def mxI (f : Nat → Int) : Nat → Int
  | 0 => -1
  | m + 1 => ((mxG f m).1 : Nat)
def mxV (f : Nat → Int) : Nat → Int
  | 0 => 0
  | m + 1 => (mxG f m).2
theorem mnL_succ (f : Nat → Int) (i : Nat) : mnL f (i + 1) = if (i : Int) = 0 ∨ f i < mnL f i then f i else mnL f i := by
  cases i with
  | zero => simp [mnL, mnF]
  | succ i =>
    show mnF f (i + 1) = _
    rw [mnF, mnL]
    have : ¬ ((i + 1 : Nat) : Int) = 0 := by omega
    simp only [this, false_or]
theorem mnI_up {f : Nat → Int} {i : Nat} (h : mnI f i < 0 ∨ f i < mnV f i) : mnI f (i + 1) = i ∧ mnV f (i + 1) = f i := by
  cases i with
  | zero => exact ⟨rfl, rfl⟩
  | succ i =>
    have h' : f (i + 1) < (mnG f i).2 := by
      rcases h with h | h
      · simp only [mnI] at h; omega
      · exact h
    have e : mnG f (i + 1) = (i + 1, f (i + 1)) := if_pos h'
    exact ⟨by show (((mnG f (i + 1)).1 : Nat) : Int) = _; rw [e], by show (mnG f (i + 1)).2 = _; rw [e]⟩
theorem mnI_dn {f : Nat → Int} {i : Nat} (h : ¬ (mnI f i < 0 ∨ f i < mnV f i)) : mnI f (i + 1) = mnI f i ∧ mnV f (i + 1) = mnV f i := by
  cases i with
  | zero => exact absurd (.inl (show (-1 : Int) < 0 by decide)) h
  | succ i =>
    have h' : ¬ f (i + 1) < (mnG f i).2 := fun e => h (.inr e)
    have e : mnG f (i + 1) = mnG f i := if_neg h'
    exact ⟨by show (((mnG f (i + 1)).1 : Nat) : Int) = _; rw [e]; rfl, by show (mnG f (i + 1)).2 = _; rw [e]; rfl⟩
theorem mxI_up {f : Nat → Int} {i : Nat} (h : mxI f i < 0 ∨ mxV f i < f i) : mxI f (i + 1) = i ∧ mxV f (i + 1) = f i := by
  cases i with
  | zero => exact ⟨rfl, rfl⟩
  | succ i =>
    have h' : (mxG f i).2 < f (i + 1) := by
      rcases h with h | h
      · simp only [mxI] at h; omega
      · exact h
    have e : mxG f (i + 1) = (i + 1, f (i + 1)) := if_pos h'
    exact ⟨by show (((mxG f (i + 1)).1 : Nat) : Int) = _; rw [e], by show (mxG f (i + 1)).2 = _; rw [e]⟩
theorem mxI_dn {f : Nat → Int} {i : Nat} (h : ¬ (mxI f i < 0 ∨ mxV f i < f i)) : mxI f (i + 1) = mxI f i ∧ mxV f (i + 1) = mxV f i := by
  cases i with
  | zero => exact absurd (.inl (show (-1 : Int) < 0 by decide)) h
  | succ i =>
    have h' : ¬ (mxG f i).2 < f (i + 1) := fun e => h (.inr e)
    have e : mxG f (i + 1) = mxG f i := if_neg h'
    exact ⟨by show (((mxG f (i + 1)).1 : Nat) : Int) = _; rw [e]; rfl, by show (mxG f (i + 1)).2 = _; rw [e]; rfl⟩
def sdot (nx ny ox oy : Int) (b : List (Int × Int)) (j : Nat) : Int := vdot nx ny (fsub (vx b j) ox) (fsub (vy b j) oy)
def sepF (a b : List (Int × Int)) (i : Nat) : Int := mnF (sdot (nmX a i) (nmY a i) (vx a i) (vy a i) b) (b.length - 1)
def mxs (a b : List (Int × Int)) : Nat × Int := mxG (sepF a b) (a.length - 1)
def incF (b : List (Int × Int)) (nx ny : Int) (i : Nat) : Int := vdot (nmX b i) (nmY b i) nx ny
def incE (b : List (Int × Int)) (nx ny : Int) : Nat := (mnG (incF b nx ny) (b.length - 1)).1
theorem mnL_up {f : Nat → Int} {i : Nat} (h : (decide ((i : Int) = 0) || decide (f i < mnL f i)) = true) : mnL f (i + 1) = f i := by
  rw [mnL_succ, if_pos (by simpa using h)]
theorem mnL_dn {f : Nat → Int} {i : Nat} (h : (decide ((i : Int) = 0) || decide (f i < mnL f i)) = false) : mnL f (i + 1) = mnL f i := by
  rw [mnL_succ, if_neg (by simpa using h)]
theorem mnL_fin {f : Nat → Int} {n : Nat} (h : 0 < n) : mnL f n = mnF f (n - 1) := by
  obtain ⟨m, rfl⟩ : ∃ m, n = m + 1 := ⟨n - 1, by omega⟩
  rfl
theorem mnI_fin {f : Nat → Int} {n : Nat} (h : 0 < n) : mnI f n = ((mnG f (n - 1)).1 : Nat) := by
  obtain ⟨m, rfl⟩ : ∃ m, n = m + 1 := ⟨n - 1, by omega⟩
  rfl
theorem mxI_fin {f : Nat → Int} {n : Nat} (h : 0 < n) : mxI f n = ((mxG f (n - 1)).1 : Nat) ∧ mxV f n = (mxG f (n - 1)).2 := by
  obtain ⟨m, rfl⟩ : ∃ m, n = m + 1 := ⟨n - 1, by omega⟩
  exact ⟨rfl, rfl⟩
theorem mnB_up {f : Nat → Int} {i : Nat} (h : (decide (mnI f i < 0) || decide (f i < mnV f i)) = true) : mnI f (i + 1) = i ∧ mnV f (i + 1) = f i := mnI_up (by simpa using h)
theorem mnB_dn {f : Nat → Int} {i : Nat} (h : (decide (mnI f i < 0) || decide (f i < mnV f i)) = false) : mnI f (i + 1) = mnI f i ∧ mnV f (i + 1) = mnV f i := mnI_dn (by simpa using h)
theorem mxB_up {f : Nat → Int} {i : Nat} (h : (decide (mxI f i < 0) || decide (mxV f i < f i)) = true) : mxI f (i + 1) = i ∧ mxV f (i + 1) = f i := mxI_up (by simpa using h)
theorem mxB_dn {f : Nat → Int} {i : Nat} (h : (decide (mxI f i < 0) || decide (mxV f i < f i)) = false) : mxI f (i + 1) = mxI f i ∧ mxV f (i + 1) = mxV f i := mxI_dn (by simpa using h)
theorem mxs_lt {a b : List (Int × Int)} (h : 0 < a.length) : (mxs a b).1 < a.length := by have := mxG_le (sepF a b) (a.length - 1); unfold mxs; omega
theorem incE_lt {b : List (Int × Int)} {nx ny : Int} (h : 0 < b.length) : incE b nx ny < b.length := by have := mnG_le (incF b nx ny) (b.length - 1); unfold incE; omega
/-! ### clipping -/
structure CV where
  x : Int
  y : Int
  id : Int
def CV.v (c : CV) : AV := .agg [.i c.x, .i c.y, .i c.id]
theorem lt_cv (N : Nat) (c : CV) : Lt N c.v := lt_agg (lt_cons (lt_i _ _) (lt_cons (lt_i _ _) (lt_cons (lt_i _ _) lt_nil)))
theorem lt_cvs (N : Nat) (l : List CV) : Lt N (.sl (l.map CV.v)) := .sl _ (lt_map fun x => lt_cv N x)
def CV.d (c : CV) (ox oy nx ny : Int) : Int := vdot nx ny (fsub c.x ox) (fsub c.y oy)
def CV.mv (s o : CV) (d e : Int) : CV := ⟨flerp s.x o.x (frat d (d - e)), flerp s.y o.y (frat d (d - e)), s.id⟩
def hplane (l : List CV) (ox oy nx ny : Int) : List CV :=
  match l with
  | [a, b] => if 0 < a.d ox oy nx ny ∧ 0 < b.d ox oy nx ny then [] else if 0 < a.d ox oy nx ny then [a.mv b (a.d ox oy nx ny) (b.d ox oy nx ny), b]
    else if 0 < b.d ox oy nx ny then [a, b.mv a (b.d ox oy nx ny) (a.d ox oy nx ny)] else [a, b]
  | _ => []
def Cut (l : List CV) : Prop := l = [] ∨ ∃ a b, l = [a, b] ∧ a.id = 0 ∧ b.id = 1
theorem hplane_cut {l : List CV} (h : Cut l) (ox oy nx ny : Int) : Cut (hplane l ox oy nx ny) := by
  rcases h with rfl | ⟨a, b, rfl, ha, hb⟩
  · exact .inl rfl
  · by_cases h1 : 0 < a.d ox oy nx ny ∧ 0 < b.d ox oy nx ny
    · exact .inl (if_pos h1)
    · by_cases h2 : 0 < a.d ox oy nx ny
      · exact .inr ⟨a.mv b (a.d ox oy nx ny) (b.d ox oy nx ny), b, (if_neg h1).trans (if_pos h2), ha, hb⟩
      · by_cases h3 : 0 < b.d ox oy nx ny
        · exact .inr ⟨a, b.mv a (b.d ox oy nx ny) (a.d ox oy nx ny), (if_neg h1).trans ((if_neg h2).trans (if_pos h3)), ha, hb⟩
        · exact .inr ⟨a, b, (if_neg h1).trans ((if_neg h2).trans (if_neg h3)), ha, hb⟩
theorem hp_0 {a b : CV} {ox oy nx ny : Int} (h : (decide (0 < a.d ox oy nx ny) && decide (0 < b.d ox oy nx ny)) = true) : hplane [a, b] ox oy nx ny = [] := if_pos (by simpa using h)
theorem hp_1 {a b : CV} {ox oy nx ny : Int} (h : (decide (0 < a.d ox oy nx ny) && decide (0 < b.d ox oy nx ny)) = false) (h2 : decide (0 < a.d ox oy nx ny) = true) : hplane [a, b] ox oy nx ny = [a.mv b (a.d ox oy nx ny) (b.d ox oy nx ny), b] :=
  (if_neg (fun e => by rw [decide_eq_true e.1, decide_eq_true e.2] at h; cases h)).trans (if_pos (of_decide_eq_true h2))
theorem hp_2 {a b : CV} {ox oy nx ny : Int} (h2 : decide (0 < a.d ox oy nx ny) = false) (h3 : decide (0 < b.d ox oy nx ny) = true) : hplane [a, b] ox oy nx ny = [a, b.mv a (b.d ox oy nx ny) (a.d ox oy nx ny)] :=
  (if_neg (fun e => of_decide_eq_false h2 e.1)).trans ((if_neg (of_decide_eq_false h2)).trans (if_pos (of_decide_eq_true h3)))
theorem hp_3 {a b : CV} {ox oy nx ny : Int} (h2 : decide (0 < a.d ox oy nx ny) = false) (h3 : decide (0 < b.d ox oy nx ny) = false) : hplane [a, b] ox oy nx ny = [a, b] :=
  (if_neg (fun e => of_decide_eq_false h2 e.1)).trans ((if_neg (of_decide_eq_false h2)).trans (if_neg (of_decide_eq_false h3)))
def toE0 (b : List (Int × Int)) (k : Nat) : List CV := [⟨vx b k, vy b k, 0⟩, ⟨vx b ((k + 1) % b.length), vy b ((k + 1) % b.length), 1⟩]
def toE (a : List (Int × Int)) (i : Nat) (b : List (Int × Int)) (k : Nat) : List CV :=
  hplane (hplane (toE0 b k) (vx a ((i + 1) % a.length)) (vy a ((i + 1) % a.length)) (drX a i) (drY a i)) (vx a i) (vy a i) (fmul (drX a i) (-65536)) (fmul (drY a i) (-65536))
theorem toE0_cut (b : List (Int × Int)) (k : Nat) : Cut (toE0 b k) := .inr ⟨_, _, rfl, rfl, rfl⟩
theorem toE_cut (a : List (Int × Int)) (i : Nat) (b : List (Int × Int)) (k : Nat) : Cut (toE a i b k) := hplane_cut (hplane_cut (toE0_cut b k) _ _ _ _) _ _ _ _
theorem nmXY_bd (a : List (Int × Int)) (i : Nat) : (-65536 ≤ nmX a i ∧ nmX a i ≤ 65536) ∧ (-65536 ≤ nmY a i ∧ nmY a i ≤ 65536) := nrm_bd _ _
/-! ### manifolds -/
structure CPt where
  x : Int
  y : Int
  s : Int
  id : Int
def CPt.v (c : CPt) : AV := .agg [.i c.x, .i c.y, .i c.s, .i c.id, .i 0, .i 0]
theorem lt_cpt (N : Nat) (c : CPt) : Lt N c.v := lt_agg (lt_cons (lt_i _ _) (lt_cons (lt_i _ _) (lt_cons (lt_i _ _) (lt_cons (lt_i _ _) (lt_cons (lt_i _ _) (lt_cons (lt_i _ _) lt_nil))))))
theorem lt_cpts (N : Nat) (l : List CPt) : Lt N (.sl (l.map CPt.v)) := .sl _ (lt_map fun x => lt_cpt N x)
structure Mf where
  x : Int
  y : Int
  ps : List CPt
def Mf.v (m : Mf) : AV := .agg [.i m.x, .i m.y, .sl (m.ps.map CPt.v)]
def Mf.z : Mf := ⟨0, 0, []⟩
theorem lt_mf (N : Nat) (m : Mf) : Lt N m.v := lt_agg (lt_cons (lt_i _ _) (lt_cons (lt_i _ _) (lt_cons (lt_cpts _ _) lt_nil)))
def Mf.ok (m : Mf) : Bool := !decide (m.ps.length = 0)
def Mf.fin (m : Mf) : Mf := if m.ps.length = 0 then Mf.z else m
def Mf.flip (m : Mf) : Mf := if m.ps.length = 0 then Mf.z else ⟨-m.x, -m.y, m.ps⟩
def addP (nx ny : Int) (l : List CPt) (px py disp sep id : Int) : List CPt := if sep ≤ 1024 then l ++ [⟨fadd px (fmul nx disp), fadd py (fmul ny disp), sep, id⟩] else l
def half2 (x : Int) : Int := rdiv x 2
def dirX (x y u : Int) : Int := if vlen x y = 0 then u else vnx x y
def dirY (x y u : Int) : Int := if vlen x y = 0 then u else vny x y
def rndX (q : Q4) : Int := dirX (fsub q.c q.a) (fsub q.d q.b) 0
def rndY (q : Q4) : Int := dirY (fsub q.c q.a) (fsub q.d q.b) 65536
def rndS (q : Q4) (r s : Int) : Int := fsub (fsub (vlen (fsub q.c q.a) (fsub q.d q.b)) r) s
def rndQ (q : Q4) (r s : Int) : Mf := Mf.fin ⟨rndX q, rndY q, addP (rndX q) (rndY q) [] q.a q.b (fadd r (half2 (rndS q r s))) (rndS q r s) 0⟩
def rndM (ax ay bx byy r cx cy dx dy s : Int) : Mf := rndQ (cps ax ay bx byy cx cy dx dy) r s
theorem fin1_in {x y nx ny px py d s id : Int} (h : s ≤ 1024) : Mf.fin ⟨x, y, addP nx ny [] px py d s id⟩ = ⟨x, y, [⟨fadd px (fmul nx d), fadd py (fmul ny d), s, id⟩]⟩ := by
  unfold addP; rw [if_pos h]; rfl
theorem fin1_out {x y nx ny px py d s id : Int} (h : ¬ s ≤ 1024) : Mf.fin ⟨x, y, addP nx ny [] px py d s id⟩ = Mf.z := by
  unfold addP; rw [if_neg h]; rfl
def cloE (a : List (Int × Int)) (cx cy : Int) (i : Nat) : Int × Int :=
  (cpx (vx a i) (vy a i) (vx a ((i + 1) % a.length)) (vy a ((i + 1) % a.length)) cx cy, cpy (vx a i) (vy a i) (vx a ((i + 1) % a.length)) (vy a ((i + 1) % a.length)) cx cy)
def clo (a : List (Int × Int)) (cx cy : Int) : Nat → Int × Int
  | 0 => cloE a cx cy 0
  | m + 1 => if dsq (cloE a cx cy (m + 1)).1 (cloE a cx cy (m + 1)).2 cx cy < dsq (clo a cx cy m).1 (clo a cx cy m).2 cx cy then cloE a cx cy (m + 1) else clo a cx cy m
def pcN (a : List (Int × Int)) (cx cy : Int) : Int × Int × Int :=
  if 0 < (mxs a [(cx, cy)]).2 then
    (dirX (fsub cx (clo a cx cy (a.length - 1)).1) (fsub cy (clo a cx cy (a.length - 1)).2) (nmX a (mxs a [(cx, cy)]).1),
     dirY (fsub cx (clo a cx cy (a.length - 1)).1) (fsub cy (clo a cx cy (a.length - 1)).2) (nmY a (mxs a [(cx, cy)]).1),
     vlen (fsub cx (clo a cx cy (a.length - 1)).1) (fsub cy (clo a cx cy (a.length - 1)).2))
  else (nmX a (mxs a [(cx, cy)]).1, nmY a (mxs a [(cx, cy)]).1, (mxs a [(cx, cy)]).2)
def pcM (a : List (Int × Int)) (cx cy s : Int) : Mf :=
  let n := pcN a cx cy
  Mf.fin ⟨n.1, n.2.1, addP n.1 n.2.1 [] cx cy (-half2 (fadd n.2.2 s)) (fsub n.2.2 s) 0⟩
def cliD (a : List (Int × Int)) (r : Int) (i : Nat) (c : CV) : Int := fsub (vdot (nmX a i) (nmY a i) (fsub c.x (vx a i)) (fsub c.y (vy a i))) r
def cliP (a : List (Int × Int)) (r s : Int) (i j : Nat) (l : List CPt) (c : CV) : List CPt :=
  addP (nmX a i) (nmY a i) l c.x c.y (-half2 (fadd (cliD a r i c) s)) (fsub (cliD a r i c) s) (64 * (i : Int) + 8 * (j : Int) + c.id)
def cliL (a : List (Int × Int)) (r : Int) (b : List (Int × Int)) (s : Int) (i : Nat) : List CPt :=
  (toE a i b (incE b (nmX a i) (nmY a i))).foldl (cliP a r s i (incE b (nmX a i) (nmY a i))) []
def cliM (a : List (Int × Int)) (r : Int) (b : List (Int × Int)) (s : Int) (i : Nat) : Mf := Mf.fin ⟨nmX a i, nmY a i, cliL a r b s i⟩
theorem cliM_nil {a : List (Int × Int)} {r : Int} {b : List (Int × Int)} {s : Int} {i : Nat} (h : toE a i b (incE b (nmX a i) (nmY a i)) = []) : cliM a r b s i = Mf.z := by
  unfold cliM cliL; rw [h]; rfl
theorem cliM_two {a : List (Int × Int)} {r : Int} {b : List (Int × Int)} {s : Int} {i : Nat} {p q : CV} (h : toE a i b (incE b (nmX a i) (nmY a i)) = [p, q]) :
    cliM a r b s i = Mf.fin ⟨nmX a i, nmY a i, cliP a r s i (incE b (nmX a i) (nmY a i)) (cliP a r s i (incE b (nmX a i) (nmY a i)) [] p) q⟩ := by
  unfold cliM cliL; rw [h]; rfl
def cliC (a : List (Int × Int)) (r s : Int) (i j : Nat) (c : CV) : CPt :=
  ⟨fadd c.x (fmul (nmX a i) (-half2 (fadd (cliD a r i c) s))), fadd c.y (fmul (nmY a i) (-half2 (fadd (cliD a r i c) s))), fsub (cliD a r i c) s, 64 * (i : Int) + 8 * (j : Int) + c.id⟩
theorem cliP_in {a : List (Int × Int)} {r s : Int} {i j : Nat} {l : List CPt} {c : CV} (h : fsub (cliD a r i c) s ≤ 1024) : cliP a r s i j l c = l ++ [cliC a r s i j c] := if_pos h
theorem cliP_out {a : List (Int × Int)} {r s : Int} {i j : Nat} {l : List CPt} {c : CV} (h : ¬ fsub (cliD a r i c) s ≤ 1024) : cliP a r s i j l c = l := if_neg h
theorem half_neg (x y : Int) : IntKind.i64.wrap (0 - half2 (fadd x y)) = -half2 (fadd x y) := by
  have h := fadd_bd x y
  have := rdiv_abs (n := fadd x y) (d := 2) (m := 536870911) (by omega) (by omega) (by omega) (by omega) (by omega) (by omega) (by omega)
  unfold half2
  rw [w64_id (by omega) (by omega)]; omega
theorem clo_up {a : List (Int × Int)} {cx cy : Int} {m : Nat} (h : decide (dsq (cloE a cx cy (m + 1)).1 (cloE a cx cy (m + 1)).2 cx cy < dsq (clo a cx cy m).1 (clo a cx cy m).2 cx cy) = true) : clo a cx cy (m + 1) = cloE a cx cy (m + 1) := if_pos (of_decide_eq_true h)
theorem clo_dn {a : List (Int × Int)} {cx cy : Int} {m : Nat} (h : decide (dsq (cloE a cx cy (m + 1)).1 (cloE a cx cy (m + 1)).2 cx cy < dsq (clo a cx cy m).1 (clo a cx cy m).2 cx cy) = false) : clo a cx cy (m + 1) = clo a cx cy m := if_neg (of_decide_eq_false h)
structure P6 where
  a : Int
  b : Int
  c : Int
  d : Int
  e : Int
  f : Int
def P6.v (p : P6) : AV := .agg [.i p.a, .i p.b, .i p.c, .i p.d, .i p.e, .i p.f]
def CPt.p6 (c : CPt) : P6 := ⟨c.x, c.y, c.s, c.id, 0, 0⟩
theorem cpts_p6 (l : List CPt) : l.map CPt.v = (l.map CPt.p6).map P6.v := by rw [List.map_map]; rfl
theorem lt_p6 (N : Nat) (c : P6) : Lt N c.v := lt_agg (lt_cons (lt_i _ _) (lt_cons (lt_i _ _) (lt_cons (lt_i _ _) (lt_cons (lt_i _ _) (lt_cons (lt_i _ _) (lt_cons (lt_i _ _) lt_nil))))))
theorem lt_p6s (N : Nat) (l : List P6) : Lt N (.sl (l.map P6.v)) := .sl _ (lt_map fun x => lt_p6 N x)
theorem p6s_all (l : List P6) : (∀ v ∈ l.map P6.v, v.cells.length = 6 ∧ ∀ c ∈ v.cells, c.one = true) = True := eq_true (by
  intro v hv
  obtain ⟨p, _, rfl⟩ := List.mem_map.1 hv
  refine ⟨rfl, fun c hc => ?_⟩
  simp only [P6.v, AV.cells, List.mem_cons, List.not_mem_nil, or_false] at hc
  rcases hc with rfl | rfl | rfl | rfl | rfl | rfl <;> rfl)
theorem p6s_len (l : List P6) : ∀ v ∈ l.map P6.v, v.cells.length = 6 := fun v hv => (of_eq_true (p6s_all l) v hv).1
theorem p6s_one (l : List P6) : ∀ v ∈ l.map P6.v, ∀ c ∈ v.cells, c.one = true := fun v hv => (of_eq_true (p6s_all l) v hv).2
def ng (x : Int) : Int := IntKind.i64.wrap (0 - x)
theorem ng_id {x : Int} (h : -536870911 ≤ x) (h' : x ≤ 536870911) : ng x = -x := by unfold ng; rw [w64_id (by omega) (by omega)]; omega
def up12 (c : CPt) : CPt := { c with id := c.id + 4096 }
def Mf.up (m : Mf) : Mf := { m with ps := m.ps.map up12 }
def facM (a : List (Int × Int)) (r : Int) (b : List (Int × Int)) (s : Int) : Mf :=
  if 1024 < fsub (fsub (imax (mxs a b).2 (mxs b a).2) r) s then Mf.z
  else if (mxs b a).2 ≤ fadd (mxs a b).2 64 then cliM a r b s (mxs a b).1
  else (cliM b s a r (mxs b a).1).up.flip
def coll (k r : Int) (c : List (Int × Int)) (k' r' : Int) (c' : List (Int × Int)) : Mf :=
  if c.length = 0 ∨ c'.length = 0 then Mf.z
  else if k ≠ 3 ∧ k' ≠ 3 then rndM (vx c 0) (vy c 0) (vx c (c.length - 1)) (vy c (c.length - 1)) r (vx c' 0) (vy c' 0) (vx c' (c'.length - 1)) (vy c' (c'.length - 1)) r'
  else if k' = 1 then pcM c (vx c' 0) (vy c' 0) r'
  else if k = 1 then (pcM c' (vx c 0) (vy c 0) r).flip
  else facM c r c' r'
/-! ### what a manifold is -/
structure MOk (m : Mf) : Prop where
  n2 : m.ps.length ≤ 2
  z : m.ps.length = 0 → m = Mf.z
  sp : ∀ c ∈ m.ps, c.s ≤ 1024
  ids : ∀ a b, m.ps = [a, b] → a.id ≠ b.id
theorem MOk.zero : MOk Mf.z := ⟨by decide, fun _ => rfl, (fun c h => by cases h), (fun a b h => by cases h)⟩
theorem MOk.fin {x y : Int} {l : List CPt} (h2 : l.length ≤ 2) (hs : ∀ c ∈ l, c.s ≤ 1024) (hi : ∀ a b, l = [a, b] → a.id ≠ b.id) : MOk (Mf.fin ⟨x, y, l⟩) := by
  unfold Mf.fin
  split
  · exact MOk.zero
  · rename_i h
    exact ⟨h2, fun e => absurd e h, hs, hi⟩
theorem MOk.flip {m : Mf} (h : MOk m) : MOk m.flip := by
  unfold Mf.flip
  split
  · exact MOk.zero
  · rename_i e
    exact ⟨h.n2, fun e' => absurd e' e, h.sp, h.ids⟩
theorem MOk.up {m : Mf} (h : MOk m) (hp : m.ps.length ≠ 0) : MOk m.up := by
  obtain ⟨x, y, l⟩ := m
  refine ⟨by simpa [Mf.up] using h.n2, fun e => absurd (by simpa [Mf.up] using e) hp, fun c hc => ?_, fun a b hab => ?_⟩
  · obtain ⟨d, hd, rfl⟩ := List.mem_map.1 (show c ∈ l.map up12 from hc)
    exact h.sp d hd
  · have hab' : l.map up12 = [a, b] := hab
    match l, hab' with
    | [c, d], hab' =>
      simp only [List.map_cons, List.map_nil, List.cons.injEq, and_true] at hab'
      obtain ⟨rfl, rfl⟩ := hab'
      have := h.ids c d rfl
      unfold up12
      show c.id + 4096 ≠ d.id + 4096
      omega
theorem addP1 {nx ny px py disp sep id : Int} : (addP nx ny [] px py disp sep id).length ≤ 2 ∧ (∀ c ∈ addP nx ny [] px py disp sep id, c.s ≤ 1024) ∧ ∀ a b, addP nx ny [] px py disp sep id = [a, b] → a.id ≠ b.id := by
  unfold addP
  split
  · rename_i h
    exact ⟨by simp, fun c hc => by simp at hc; subst hc; exact h, fun a b h => by simp at h⟩
  · exact ⟨by simp, fun c hc => by simp at hc, fun a b h => by simp at h⟩
theorem addP2 {nx ny x1 y1 d1 s1 i1 x2 y2 d2 s2 i2 : Int} {l : List CPt} (h : i1 ≠ i2) (hl : l = addP nx ny (addP nx ny [] x1 y1 d1 s1 i1) x2 y2 d2 s2 i2) : l.length ≤ 2 ∧ (∀ c ∈ l, c.s ≤ 1024) ∧ ∀ a b, l = [a, b] → a.id ≠ b.id := by
  have key : l = [] ∨ (∃ a : CPt, l = [a] ∧ a.s ≤ 1024) ∨ ∃ a b : CPt, l = [a, b] ∧ a.s ≤ 1024 ∧ b.s ≤ 1024 ∧ a.id ≠ b.id := by
    unfold addP at hl
    by_cases h1 : s1 ≤ 1024
    · by_cases h2 : s2 ≤ 1024
      · rw [if_pos h1, if_pos h2] at hl
        exact .inr (.inr ⟨_, _, hl, h1, h2, h⟩)
      · rw [if_pos h1, if_neg h2] at hl
        exact .inr (.inl ⟨_, hl, h1⟩)
    · by_cases h2 : s2 ≤ 1024
      · rw [if_neg h1, if_pos h2] at hl
        exact .inr (.inl ⟨_, hl, h2⟩)
      · rw [if_neg h1, if_neg h2] at hl
        exact .inl hl
  rcases key with e | ⟨a, e, ha⟩ | ⟨a, b, e, ha, hb, hab⟩
  · subst e; exact ⟨by simp, fun c hc => by simp at hc, fun a b e => by simp at e⟩
  · subst e; exact ⟨by simp, fun c hc => by simp at hc; subst hc; exact ha, fun a b e => by simp at e⟩
  · subst e
    refine ⟨by simp, fun c hc => ?_, fun u v e => ?_⟩
    · rcases List.mem_cons.1 hc with rfl | hc
      · exact ha
      · rw [List.mem_singleton.1 hc]; exact hb
    · simp only [List.cons.injEq, and_true] at e
      obtain ⟨rfl, rfl⟩ := e
      exact hab
theorem cli_ok (a : List (Int × Int)) (r : Int) (b : List (Int × Int)) (s : Int) (i : Nat) : MOk (cliM a r b s i) := by
  unfold cliM cliL
  generalize incE b (nmX a i) (nmY a i) = j
  rcases toE_cut a i b j with h | ⟨p, q, h, hp, hq⟩
  · rw [h]; exact MOk.fin (by simp) (fun c hc => by simp at hc) (fun a b h => by simp at h)
  · rw [h]
    have hne : 64 * (i : Int) + 8 * (j : Int) + p.id ≠ 64 * (i : Int) + 8 * (j : Int) + q.id := by omega
    have := addP2 (l := List.foldl (cliP a r s i j) [] [p, q]) hne rfl
    exact MOk.fin this.1 this.2.1 this.2.2
theorem pc_ok (a : List (Int × Int)) (cx cy s : Int) : MOk (pcM a cx cy s) := by
  unfold pcM
  exact MOk.fin addP1.1 addP1.2.1 addP1.2.2
theorem coll_ok (k r : Int) (c : List (Int × Int)) (k' r' : Int) (c' : List (Int × Int)) : MOk (coll k r c k' r' c') := by
  unfold coll
  split
  · exact MOk.zero
  · split
    · unfold rndM rndQ; exact MOk.fin addP1.1 addP1.2.1 addP1.2.2
    · split
      · exact pc_ok _ _ _ _
      · split
        · exact (pc_ok _ _ _ _).flip
        · unfold facM
          split
          · exact MOk.zero
          · split
            · exact cli_ok _ _ _ _ _
            · have h := cli_ok c' r' c r (mxs c' c).1
              by_cases e : (cliM c' r' c r (mxs c' c).1).ps.length = 0
              · rw [h.z e]; exact MOk.zero
              · exact (h.up e).flip
end Go.Carom
/-
  The plain law of contact manifolds: the reference's way, and what is known of the numbers. Conditions: none; no program in sight.
-/
namespace Go.Carom
open Go Go.AL
def Mf.Bd (m : Mf) : Prop := (-65536 ≤ m.x ∧ m.x ≤ 65536) ∧ (-65536 ≤ m.y ∧ m.y ≤ 65536)
theorem Mf.Bd.z : Mf.z.Bd := ⟨by decide, by decide⟩
theorem Mf.Bd.fin {x y : Int} {l : List CPt} (hx : -65536 ≤ x ∧ x ≤ 65536) (hy : -65536 ≤ y ∧ y ≤ 65536) : (Mf.fin ⟨x, y, l⟩).Bd := by
  unfold Mf.fin
  split
  · exact Mf.Bd.z
  · exact ⟨hx, hy⟩
theorem pcN_bd (a : List (Int × Int)) (cx cy : Int) : (-65536 ≤ (pcN a cx cy).1 ∧ (pcN a cx cy).1 ≤ 65536) ∧ (-65536 ≤ (pcN a cx cy).2.1 ∧ (pcN a cx cy).2.1 ≤ 65536) := by
  have h1 := nmXY_bd a (mxs a [(cx, cy)]).1
  unfold pcN
  split
  · dsimp only
    refine ⟨?_, ?_⟩
    · unfold dirX; split
      · exact h1.1
      · exact (nrm_bd _ _).1
    · unfold dirY; split
      · exact h1.2
      · exact (nrm_bd _ _).2
  · exact h1
theorem pc_bd (a : List (Int × Int)) (cx cy s : Int) : (pcM a cx cy s).Bd := Mf.Bd.fin (pcN_bd a cx cy).1 (pcN_bd a cx cy).2
theorem Mf.flip_z {m : Mf} (h : m.ps.length = 0) : m.flip = Mf.z := if_pos h
theorem Mf.flip_nz {x y : Int} {l : List CPt} (h : ¬ l.length = 0) : (Mf.mk x y l).flip = ⟨-x, -y, l⟩ := if_neg h
structure CoreOk (k : Int) (c : List (Int × Int)) : Prop where
  k1 : 1 ≤ k
  k3 : k ≤ 3
  n8 : c.length ≤ 8
  pos : 1 ≤ c.length
  n1 : k = 1 → c.length = 1
  n2 : k = 2 → c.length = 2
  n3 : k = 3 → 3 ≤ c.length
theorem core_ok {k r : Int} {ps : List (Int × Int)} (px py a : Int) (hv : sval k r ps = 0) : CoreOk k (core k r ps px py a) := by
  have ok := sval_ok hv
  have l := core_len_if (px := px) (py := py) (a := a) hv
  refine ⟨ok.k1, ok.k3, by rw [l]; exact ok.pos.2, by rw [l]; exact ok.pos.1, fun e => by rw [l]; exact ok.n1 e, fun e => by rw [l]; exact ok.n2 e, fun e => ?_⟩
  rw [l]
  have h1 := ok.k1_iff
  have h2 := ok.k2_iff
  have hp := ok.pos.1
  rcases Nat.lt_or_ge ps.length 3 with h | h
  · exfalso
    have : ps.length = 1 ∨ ps.length = 2 := by omega
    rcases this with e | e
    · have := h1.2 e; omega
    · have := h2.2 e; omega
  · exact h
def collS (k r : Int) (ps : List (Int × Int)) (px py a k' r' : Int) (qs : List (Int × Int)) (ux uy b : Int) : Mf := coll k r (core k r ps px py a) k' r' (core k' r' qs ux uy b)
theorem collS_no {k r : Int} {ps : List (Int × Int)} {px py a k' r' : Int} {qs : List (Int × Int)} {ux uy b : Int} (h : ¬ sval k r ps = 0 ∨ ¬ sval k' r' qs = 0) : collS k r ps px py a k' r' qs ux uy b = Mf.z := by
  unfold collS coll
  rw [if_pos]
  rcases h with h | h
  · left; rw [core_no h]; rfl
  · right; rw [core_no h]; rfl
theorem coll_rnd {k r : Int} {c : List (Int × Int)} {k' r' : Int} {c' : List (Int × Int)} (h : 1 ≤ c.length) (h' : 1 ≤ c'.length) (h1 : k ≠ 3) (h2 : k' ≠ 3) : coll k r c k' r' c' = rndM (vx c 0) (vy c 0) (vx c (c.length - 1)) (vy c (c.length - 1)) r (vx c' 0) (vy c' 0) (vx c' (c'.length - 1)) (vy c' (c'.length - 1)) r' := by
  unfold coll; rw [if_neg (by omega), if_pos ⟨h1, h2⟩]
theorem coll_pc {k r : Int} {c : List (Int × Int)} {r' : Int} {c' : List (Int × Int)} (h : 1 ≤ c.length) (h' : 1 ≤ c'.length) (h1 : k = 3) : coll k r c 1 r' c' = pcM c (vx c' 0) (vy c' 0) r' := by
  unfold coll; rw [if_neg (by omega), if_neg (fun e => e.1 h1), if_pos rfl]
theorem coll_cp {r : Int} {c : List (Int × Int)} {k' r' : Int} {c' : List (Int × Int)} (h : 1 ≤ c.length) (h' : 1 ≤ c'.length) (h1 : k' = 3) : coll 1 r c k' r' c' = (pcM c' (vx c 0) (vy c 0) r).flip := by
  unfold coll; rw [if_neg (by omega), if_neg (fun e => e.2 h1), if_neg (by omega), if_pos rfl]
theorem coll_fac {k r : Int} {c : List (Int × Int)} {k' r' : Int} {c' : List (Int × Int)} (h : 1 ≤ c.length) (h' : 1 ≤ c'.length) (h0 : k = 3 ∨ k' = 3) (h1 : k ≠ 1) (h2 : k' ≠ 1) : coll k r c k' r' c' = facM c r c' r' := by
  unfold coll; rw [if_neg (by omega), if_neg (by omega), if_neg h2, if_neg h1]
end Go.Carom
