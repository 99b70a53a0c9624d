/-
  The plain law of loops over rows of points. Conditions: none; no program in sight.
-/
import Derived.Test.YtehlfgikcipdaaaM2
set_option linter.all false
namespace Go.Carom
open Go Go.AL

/-- a point as a value. -/
def ev (p : Int × Int) : AV := .agg [.i p.1, .i p.2]
def vx (ps : List (Int × Int)) (i : Nat) : Int := (ps.getD i (0, 0)).1
def vy (ps : List (Int × Int)) (i : Nat) : Int := (ps.getD i (0, 0)).2
theorem ev_getD {ps : List (Int × Int)} {i : Nat} (h : i < ps.length) : (ps.map ev).getD i .und = .agg [.i (vx ps i), .i (vy ps i)] := by
  simp [List.getD_eq_getElem?_getD, h, ev, vx, vy]
theorem lt_tup {N : Nat} {cs : List AV} (h : ∀ c ∈ cs, Lt N c) : Lt N (.tup cs) := .tup _ h
theorem lt_ev (N : Nat) (p : Int × Int) : Lt N (ev p) := lt_agg (lt_cons (lt_i _ _) (lt_cons (lt_i _ _) lt_nil))
theorem lt_vs (N : Nat) (ps : List (Int × Int)) : Lt N (.sl (ps.map ev)) := .sl _ (lt_map fun x => lt_ev N x)

/-- how far a search has come: all before are good. -/
structure LS (n : Nat) (good : Nat → Bool) where
  i : Nat
  hi : i ≤ n
  h : ∀ j, j < i → good j = true
def LS.start (n : Nat) (good : Nat → Bool) : LS n good := ⟨0, Nat.zero_le _, fun j h => by omega⟩
def LS.next {n : Nat} {good : Nat → Bool} {i : Nat} (hi : i < n) (h : ∀ j, j < i → good j = true) (hg : good i = true) : LS n good :=
  ⟨i + 1, hi, fun j hj => by
    by_cases e : j = i
    · subst e; exact hg
    · exact h j (by omega)⟩
theorem LS.done {n : Nat} {good : Nat → Bool} {i : Nat} (hi : ¬ i < n) (h : ∀ j, j < i → good j = true) : (List.range n).all good = true := by
  rw [List.all_eq_true]; intro j hj; exact h j (by simp at hj; omega)
theorem LS.fail {n : Nat} {good : Nat → Bool} {i : Nat} (hi : i < n) (hg : good i = false) : (List.range n).all good = false := by
  rw [List.all_eq_false]; exact ⟨i, by simpa using hi, by simp [hg]⟩
/-- how far a sum has come. -/
structure FS (n : Nat) where
  i : Nat
  hi : i ≤ n
def FS.start (n : Nat) : FS n := ⟨0, Nat.zero_le _⟩
def FS.next {n i : Nat} (hi : i < n) : FS n := ⟨i + 1, hi⟩

theorem ilt {i n : Nat} (h : i < n) : ((i : Int) < (n : Int)) = True := by simp; omega
theorem inlt {i n : Nat} (h : ¬ i < n) : ((i : Int) < (n : Int)) = False := by simp; omega
theorem icast (i : Nat) : Int.toNat (i : Int) = i := Int.toNat_natCast i
theorem inn (i : Nat) : (0 ≤ (i : Int)) = True := by simp
theorem isucc {i n : Nat} (h : i < n) (hn : n ≤ maxLen) : IntKind.i64.wrap ((i : Int) + 1) = ((i + 1 : Nat) : Int) := by
  have : maxLen ≤ 9223372036854775807 := by decide
  rw [w64_id (by omega) (by omega)]; rfl
theorem imod {i n : Nat} (h : i < n) : Int.tmod ((i + 1 : Nat) : Int) (n : Int) = (((i + 1) % n : Nat) : Int) := by
  rw [Int.tmod_eq_emod_of_nonneg (by omega)]; rfl
theorem imlt {i n : Nat} (h : i < n) : (((i + 1) % n : Nat) : Int) < (n : Int) := by
  have := Nat.mod_lt (i + 1) (by omega : 0 < n); omega

/-! ### polygons -/
def inr (x y : Int) : Bool := decide (-1048576 ≤ x) && decide (x ≤ 1048576) && decide (-1048576 ≤ y) && decide (y ≤ 1048576)
def allIR (ps : List (Int × Int)) : Bool := (List.range ps.length).all fun i => inr (vx ps i) (vy ps i)
def or3 (ps : List (Int × Int)) (i j k : Nat) : Int := orient (vx ps i) (vy ps i) (vx ps j) (vy ps j) (vx ps k) (vy ps k)
def cvk (ps : List (Int × Int)) (i k : Nat) : Bool := decide (k = i) || decide (k = (i + 1) % ps.length) || decide (or3 ps i ((i + 1) % ps.length) k = 1)
def cvi (ps : List (Int × Int)) (i : Nat) : Bool := (List.range ps.length).all (cvk ps i)
def convex (ps : List (Int × Int)) : Bool := decide (3 ≤ ps.length) && decide (ps.length ≤ 8) && allIR ps && (List.range ps.length).all (cvi ps)
theorem convex_no {ps : List (Int × Int)} (h : (decide ((ps.length : Int) < 3) || decide (8 < (ps.length : Int)) || !allIR ps) = true) : false = convex ps := by
  unfold convex
  simp only [Bool.or_eq_true, decide_eq_true_eq, Bool.not_eq_true'] at h
  rcases h with (h | h) | h
  · rw [decide_eq_false (by omega : ¬ 3 ≤ ps.length)]; rfl
  · rw [decide_eq_false (by omega : ¬ ps.length ≤ 8)]; simp
  · rw [h]; simp
theorem convex_if {ps : List (Int × Int)} (h : (decide ((ps.length : Int) < 3) || decide (8 < (ps.length : Int)) || !allIR ps) = false) : convex ps = (List.range ps.length).all (cvi ps) := by
  unfold convex
  simp only [Bool.or_eq_false_iff, decide_eq_false_iff_not, Bool.not_eq_false'] at h
  rw [decide_eq_true (by omega : 3 ≤ ps.length), decide_eq_true (by omega : ps.length ≤ 8), h.2]
  simp
theorem convex_no' {ps : List (Int × Int)} (h : (decide ((ps.length : Int) < 3) || decide (8 < (ps.length : Int))) = true) : false = convex ps := convex_no (by rw [h]; rfl)
theorem convex_ir {ps : List (Int × Int)} (h : allIR ps = false) : convex ps = false := (convex_no (by rw [h]; simp)).symm
theorem convex_if' {ps : List (Int × Int)} (h : (decide ((ps.length : Int) < 3) || decide (8 < (ps.length : Int))) = false) (h' : allIR ps = true) : convex ps = (List.range ps.length).all (cvi ps) := convex_if (by rw [h, h']; rfl)
theorem cvk_eq (ps : List (Int × Int)) (i k : Nat) : (!decide ((k : Int) = (i : Int)) && !decide ((k : Int) = (((i + 1) % ps.length : Nat) : Int)) &&
    !decide (orient (vx ps i) (vy ps i) (vx ps ((i + 1) % ps.length)) (vy ps ((i + 1) % ps.length)) (vx ps k) (vy ps k) = 1)) = !cvk ps i k := by
  rw [show decide ((k : Int) = (i : Int)) = decide (k = i) from decide_eq_decide.2 Int.natCast_inj,
    show decide ((k : Int) = (((i + 1) % ps.length : Nat) : Int)) = decide (k = (i + 1) % ps.length) from decide_eq_decide.2 Int.natCast_inj]
  simp only [cvk, or3, Bool.not_or]
  first | rfl | (congr 2)
theorem imax_le {i n : Nat} (h : i < n) (hn : n ≤ maxLen) : (i ≤ 9223372036854775806) = True := eq_true (by have : maxLen = 9223372036854775807 := rfl; omega)
theorem ine0 {i n : Nat} (h : i < n) : ((n : Int) = 0) = False := eq_false (by omega)
theorem imlt' {i n : Nat} (h : i < n) : ((((i + 1) % n : Nat) : Int) < (n : Int)) = True := eq_true (imlt h)
theorem imod_lt {i n : Nat} (h : i < n) : (i + 1) % n < n := Nat.mod_lt _ (by omega)

/-! ### the shortest edge -/
def edl (ps : List (Int × Int)) (i : Nat) : Int := vlen (fsub (vx ps ((i + 1) % ps.length)) (vx ps i)) (fsub (vy ps ((i + 1) % ps.length)) (vy ps i))
def seP (ps : List (Int × Int)) : Nat → Int
  | 0 => 536870911
  | i + 1 => if edl ps i < seP ps i then edl ps i else seP ps i
def seR (ps : List (Int × Int)) : Nat → Int
  | 0 => -1
  | i + 1 => if seR ps i < 0 ∨ edl ps i < seR ps i then edl ps i else seR ps i
def shortest (ps : List (Int × Int)) : Int := if convex ps = true then seP ps ps.length else 0
theorem seR_up {ps : List (Int × Int)} {i : Nat} (h : (decide (seR ps i < 0) || decide (edl ps i < seR ps i)) = true) : edl ps i = seR ps (i + 1) := by
  rw [seR, if_pos (by simpa using h)]
theorem seR_dn {ps : List (Int × Int)} {i : Nat} (h : (decide (seR ps i < 0) || decide (edl ps i < seR ps i)) = false) : seR ps i = seR ps (i + 1) := by
  rw [seR, if_neg (by simpa using h)]
theorem vlen_nonneg (x y : Int) : 0 ≤ vlen x y := isqrt_nonneg _
/-- the length of what lies within reach. -/
theorem vlen_le {x y : Int} (hx : -2097152 ≤ x) (hx' : x ≤ 2097152) (hy : -2097152 ≤ y) (hy' : y ≤ 2097152) : vlen x y ≤ 4194304 := by
  unfold vlen
  rw [sat_id (by omega) (by omega), sat_id (by omega) (by omega)]
  have h1 := mul_bd (A := 2097152) (B := 2097152) hx hx' hx hx'
  have h2 := mul_bd (A := 2097152) (B := 2097152) hy hy' hy hy'
  have h3 : 0 ≤ x * x := by rcases Int.le_total 0 x with h | h; exact Int.mul_nonneg h h; exact Int.mul_nonneg_of_nonpos_of_nonpos h h
  have h4 : 0 ≤ y * y := by rcases Int.le_total 0 y with h | h; exact Int.mul_nonneg h h; exact Int.mul_nonneg_of_nonpos_of_nonpos h h
  have hs := isqrt_spec (n := x * x + y * y) (by omega) (by omega)
  have := sq_lt (a := isqrt (x * x + y * y)) (b := 4194305) hs.1 (by omega) (by omega)
  omega
theorem inr_bd {ps : List (Int × Int)} (h : allIR ps = true) {i : Nat} (hi : i < ps.length) : (-1048576 ≤ vx ps i ∧ vx ps i ≤ 1048576) ∧ -1048576 ≤ vy ps i ∧ vy ps i ≤ 1048576 := by
  have := List.all_eq_true.1 h i (by simpa using hi)
  simp [inr] at this
  omega
theorem convex_parts {ps : List (Int × Int)} (h : convex ps = true) : 3 ≤ ps.length ∧ ps.length ≤ 8 ∧ allIR ps = true := by
  simp only [convex, Bool.and_eq_true, decide_eq_true_eq] at h
  exact ⟨h.1.1.1, h.1.1.2, h.1.2⟩
theorem fsub_id {a b : Int} (ha : -1048576 ≤ a) (ha' : a ≤ 1048576) (hb : -1048576 ≤ b) (hb' : b ≤ 1048576) : fsub a b = a - b := by
  unfold fsub; rw [sat_id (x := a) (by omega) (by omega), sat_id (x := b) (by omega) (by omega), sat_id (by omega) (by omega)]
theorem edl_bd {ps : List (Int × Int)} (h : allIR ps = true) {i : Nat} (hi : i < ps.length) : 0 ≤ edl ps i ∧ edl ps i ≤ 4194304 := by
  refine ⟨vlen_nonneg _ _, ?_⟩
  have h1 := inr_bd h hi
  have h2 := inr_bd h (imod_lt hi)
  unfold edl
  rw [fsub_id (by omega) (by omega) (by omega) (by omega), fsub_id (by omega) (by omega) (by omega) (by omega)]
  exact vlen_le (by omega) (by omega) (by omega) (by omega)
theorem seR_eq {ps : List (Int × Int)} (h : convex ps = true) : seR ps ps.length = seP ps ps.length := by
  obtain ⟨h3, _, hr⟩ := convex_parts h
  suffices hs : ∀ i, i + 1 ≤ ps.length → seR ps (i + 1) = seP ps (i + 1) ∧ 0 ≤ seP ps (i + 1) by
    have := hs (ps.length - 1) (by omega)
    rw [show ps.length - 1 + 1 = ps.length by omega] at this
    exact this.1
  intro i
  induction i with
  | zero =>
    intro hi
    have := edl_bd hr (i := 0) (by omega)
    have e1 : seR ps 1 = edl ps 0 := by
      show (if seR ps 0 < 0 ∨ edl ps 0 < seR ps 0 then edl ps 0 else seR ps 0) = edl ps 0
      exact if_pos (.inl (by show (-1 : Int) < 0; decide))
    have e2 : seP ps 1 = edl ps 0 := by
      show (if edl ps 0 < seP ps 0 then edl ps 0 else seP ps 0) = edl ps 0
      exact if_pos (by show edl ps 0 < 536870911; omega)
    rw [e1, e2]
    exact ⟨rfl, this.1⟩
  | succ i ih =>
    intro hi
    have hb := edl_bd hr (i := i + 1) (by omega)
    obtain ⟨h1, h2⟩ := ih (by omega)
    rw [seR, seP, h1]
    by_cases hc : edl ps (i + 1) < seP ps (i + 1)
    · rw [if_pos (.inr hc), if_pos hc]; exact ⟨rfl, hb.1⟩
    · rw [if_neg (by omega), if_neg hc]; exact ⟨rfl, h2⟩

/-! ### the area -/
def trx (ps : List (Int × Int)) (i : Nat) : Int := IntKind.i64.wrap (vx ps i - vx ps 0)
def try_ (ps : List (Int × Int)) (i : Nat) : Int := IntKind.i64.wrap (vy ps i - vy ps 0)
def cr (ps : List (Int × Int)) (i : Nat) : Int := rdiv (IntKind.i64.wrap (IntKind.i64.wrap (trx ps i * try_ ps (i + 1)) - IntKind.i64.wrap (try_ ps i * trx ps (i + 1)))) 65536
def fsum (ps : List (Int × Int)) : Nat → Int
  | 0 => 0
  | k + 1 => IntKind.i64.wrap (fsum ps k + cr ps (k + 1))
def tri (ps : List (Int × Int)) (j : Nat) : AV := .agg [.i (trx ps (j + 1)), .i (try_ ps (j + 1)), .i (trx ps (j + 1 + 1)), .i (try_ ps (j + 1 + 1)), .i (cr ps (j + 1))]
def tris (ps : List (Int × Int)) (k : Nat) : List AV := (List.range k).map (tri ps)
theorem tris_succ (ps : List (Int × Int)) (k : Nat) : tris ps (k + 1) = tris ps k ++ [tri ps k] := by simp [tris, List.range_succ]
theorem tris_len (ps : List (Int × Int)) (k : Nat) : (tris ps k).length = k := by simp [tris]
theorem lt_tris (N : Nat) (ps : List (Int × Int)) (k : Nat) : ∀ e ∈ tris ps k, Lt N e := by
  intro e he
  obtain ⟨j, _, rfl⟩ := List.mem_map.1 he
  exact lt_agg (lt_cons (lt_i _ _) (lt_cons (lt_i _ _) (lt_cons (lt_i _ _) (lt_cons (lt_i _ _) (lt_cons (lt_i _ _) lt_nil)))))
theorem lt_stris (N : Nat) (ps : List (Int × Int)) (k : Nat) : Lt N (.sl (tris ps k)) := .sl _ (lt_tris N ps k)
def area (ps : List (Int × Int)) : Int := if convex ps = true then rdiv (fsum ps (ps.length - 2)) 2 else 0
/-! ### the farthest point -/
def spd (ps : List (Int × Int)) (x y : Int) (i : Nat) : Int := sat (vx ps i) * sat x + sat (vy ps i) * sat y
/-- the index of the farthest of the first points, and how far. -/
def spB (ps : List (Int × Int)) (x y : Int) : Nat → Int × Int
  | 0 => (-1, 0)
  | i + 1 => if (spB ps x y i).1 < 0 ∨ (spB ps x y i).2 < spd ps x y i then ((i : Int), spd ps x y i) else spB ps x y i
theorem spB_up {ps : List (Int × Int)} {x y : Int} {i : Nat} (h : (decide ((spB ps x y i).1 < 0) || decide ((spB ps x y i).2 < spd ps x y i)) = true) : spB ps x y (i + 1) = ((i : Int), spd ps x y i) := by
  rw [spB, if_pos (by simpa using h)]
theorem spB_dn {ps : List (Int × Int)} {x y : Int} {i : Nat} (h : (decide ((spB ps x y i).1 < 0) || decide ((spB ps x y i).2 < spd ps x y i)) = false) : spB ps x y (i + 1) = spB ps x y i := by
  rw [spB, if_neg (by simpa using h)]
end Go.Carom
