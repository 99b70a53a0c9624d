/-
  The plain laws of chapters 17 and 19: symmetric distances, the distance from a circle, times of impact. Conditions: none; no program in sight.
-/
import Derived.Test.YtehlfgikcipdaaaM10
import Derived.Test.YtehlfgikcipdaaaM12
set_option linter.all false
namespace Go.Carom
open Go Go.AL

/-! ### symmetry -/
theorem sqd (a b : Int) : (a - b) * (a - b) = (b - a) * (b - a) := by rw [← Int.neg_sub b a, Int.neg_mul_neg]
theorem dsq_sym (x y x' y' : Int) : dsq x y x' y' = dsq x' y' x y := by unfold dsq; rw [sqd (sat x') (sat x), sqd (sat y') (sat y)]
theorem dsq_self (x y : Int) : dsq x y x y = 0 := by unfold dsq; rw [Int.sub_self, Int.sub_self]; rfl
theorem pick4_dist (p q : Q4) : (pick4 p q).dist = imin q.dist p.dist := by unfold pick4 imin; split <;> rfl
theorem cb02 (ax ay bx byy cx cy : Int) : (cb0 cx cy ax ay bx byy).dist = (cb2 ax ay bx byy cx cy).dist := dsq_sym _ _ _ _
theorem cb13 (ax ay bx byy dx dy : Int) : (cb1 dx dy ax ay bx byy).dist = (cb3 ax ay bx byy dx dy).dist := dsq_sym _ _ _ _
theorem cbs_dist (ax ay bx byy cx cy dx dy : Int) : (cbs ax ay bx byy cx cy dx dy 3).dist = imin (imin (imin (cb0 ax ay cx cy dx dy).dist (cb1 bx byy cx cy dx dy).dist) (cb2 ax ay bx byy cx cy).dist) (cb3 ax ay bx byy dx dy).dist := by
  show (pick4 _ (pick4 _ (pick4 _ _))).dist = _
  rw [pick4_dist, pick4_dist, pick4_dist]
theorem imin4 (a b c d : Int) : imin (imin (imin a b) c) d = imin (imin (imin c d) a) b := by
  unfold imin; (repeat' split) <;> omega
theorem cbs_sym (ax ay bx byy cx cy dx dy : Int) : (cbs ax ay bx byy cx cy dx dy 3).dist = (cbs cx cy dx dy ax ay bx byy 3).dist := by
  rw [cbs_dist, cbs_dist, cb02 ax ay bx byy cx cy, cb13 ax ay bx byy dx dy, ← cb02 cx cy dx dy ax ay, ← cb13 cx cy dx dy bx byy]
  exact imin4 _ _ _ _
theorem boverlaps_sym (x y u v x' y' u' v' : Int) : boverlaps x y u v x' y' u' v' = boverlaps x' y' u' v' x y u v := by
  unfold boverlaps bover
  rw [Bool.eq_iff_iff]
  simp only [Bool.and_eq_true, decide_eq_true_eq]
  constructor <;> (rintro ⟨⟨h1, h2⟩, ⟨⟨h3, h4⟩, h5⟩, h6⟩; exact ⟨⟨h2, h1⟩, ⟨⟨h4, h3⟩, h6⟩, h5⟩)
theorem segx_sym (ax ay bx byy cx cy dx dy : Int) : segx ax ay bx byy cx cy dx dy = segx cx cy dx dy ax ay bx byy := by
  unfold segx seg2; rw [boverlaps_sym, Bool.or_comm]
theorem cps_dist (ax ay bx byy cx cy dx dy : Int) : (cps ax ay bx byy cx cy dx dy).dist = if segx (sat ax) (sat ay) (sat bx) (sat byy) (sat cx) (sat cy) (sat dx) (sat dy) = true then 0 else (cbs ax ay bx byy cx cy dx dy 3).dist := by
  unfold cps; split
  · exact dsq_self _ _
  · rfl
theorem sdist_sym (ax ay bx byy cx cy dx dy : Int) : sdist ax ay bx byy cx cy dx dy = sdist cx cy dx dy ax ay bx byy := by
  unfold sdist
  rw [cps_dist, cps_dist, segx_sym ax ay, segx_sym (sat ax) (sat ay), cbs_sym ax ay]
theorem qsd_sym (s t : Q4) : qsd s t = qsd t s := sdist_sym _ _ _ _ _ _ _ _
theorem le_imin {d a b : Int} : d ≤ imin a b ↔ d ≤ a ∧ d ≤ b := by unfold imin; split <;> omega
theorem le_clJ {s : Q4} {bs : List Q4} {m d : Int} {n : Nat} : d ≤ clJ s bs m n ↔ d ≤ m ∧ ∀ j, j < n → d ≤ qsd s (bs.getD j Q4.d0) := by
  induction n with
  | zero => exact ⟨fun h => ⟨h, fun j hj => absurd hj (Nat.not_lt_zero j)⟩, fun h => h.1⟩
  | succ n ih =>
    rw [clJ, le_imin, ih]
    constructor
    · rintro ⟨⟨h1, h2⟩, h3⟩
      refine ⟨h1, fun j hj => ?_⟩
      by_cases e : j = n
      · subst e; exact h3
      · exact h2 j (by omega)
    · rintro ⟨h1, h2⟩
      exact ⟨⟨h1, fun j hj => h2 j (by omega)⟩, h2 n (by omega)⟩
theorem le_clI {us vs : List Q4} {d : Int} {n : Nat} : d ≤ clI us vs n ↔ d ≤ 536870911 ∧ ∀ i, i < n → ∀ j, j < vs.length → d ≤ qsd (us.getD i Q4.d0) (vs.getD j Q4.d0) := by
  induction n with
  | zero => exact ⟨fun h => ⟨h, fun i hi => absurd hi (Nat.not_lt_zero i)⟩, fun h => h.1⟩
  | succ n ih =>
    rw [clI, le_clJ, ih]
    constructor
    · rintro ⟨⟨h1, h2⟩, h3⟩
      refine ⟨h1, fun i hi => ?_⟩
      by_cases e : i = n
      · subst e; exact h3
      · exact h2 i (by omega)
    · rintro ⟨h1, h2⟩
      exact ⟨⟨h1, fun i hi => h2 i (by omega)⟩, h2 n (by omega)⟩
theorem le_closest {us vs : List Q4} {d : Int} : d ≤ closest us vs ↔ d ≤ 536870911 ∧ ∀ i, i < us.length → ∀ j, j < vs.length → d ≤ qsd (us.getD i Q4.d0) (vs.getD j Q4.d0) := le_clI
theorem closest_sym (us vs : List Q4) : closest us vs = closest vs us := by
  have h : ∀ us vs : List Q4, closest us vs ≤ closest vs us := fun us vs => by
    have h0 := le_closest.1 (Int.le_refl (closest us vs))
    exact le_closest.2 ⟨h0.1, fun i hi j hj => by rw [qsd_sym]; exact h0.2 j hj i hi⟩
  exact Int.le_antisymm (h _ _) (h _ _)
theorem fsub2 {c r r' : Int} (h : 0 ≤ c) (h' : c ≤ 536870911) (h1 : 0 ≤ r) (h2 : r ≤ 524288) (h3 : 0 ≤ r') (h4 : r' ≤ 524288) : fsub (fsub c r) r' = c - r - r' := by
  unfold fsub
  rw [sat_id (x := c) (by omega) (by omega), sat_id (x := r) (by omega) (by omega), sat_id (x := r') (by omega) (by omega), sat_id (x := c - r) (by omega) (by omega), sat_id (x := c - r) (by omega) (by omega), sat_id (by omega) (by omega)]
theorem fsub1 {c r : Int} (h : 0 ≤ c) (h' : c ≤ 536870911) (h1 : 0 ≤ r) (h2 : r ≤ 524288) : fsub c r = c - r := by
  unfold fsub
  rw [sat_id (x := c) (by omega) (by omega), sat_id (x := r) (by omega) (by omega), sat_id (x := c - r) (by omega) (by omega)]
section
variable (k r : Int) (ps : List (Int × Int)) (px py a k' r' : Int) (qs : List (Int × Int)) (ux uy b : Int)
theorem sepn_sym : sepn k r ps px py a k' r' qs ux uy b = sepn k' r' qs ux uy b k r ps px py a := by
  unfold sepn
  by_cases h : ¬ sval k r ps = 0 ∨ ¬ sval k' r' qs = 0
  · rw [if_pos h, if_pos h.symm]
  · rw [if_neg h, if_neg (show ¬ (¬ sval k' r' qs = 0 ∨ ¬ sval k r ps = 0) from fun e => h e.symm)]
    have v : sval k r ps = 0 := Decidable.not_not.1 fun e => h (Or.inl e)
    have v' : sval k' r' qs = 0 := Decidable.not_not.1 fun e => h (Or.inr e)
    have hb := closest_bd (spans k (core k r ps px py a)) (spans k' (core k' r' qs ux uy b))
    have r0 := (sval_ok v).r0
    have r1 := (sval_ok v').r0
    rw [closest_sym (spans k' (core k' r' qs ux uy b)), fsub2 hb.1 hb.2 r0.1 r0.2 r1.1 r1.2, fsub2 hb.1 hb.2 r1.1 r1.2 r0.1 r0.2, show ∀ x y z : Int, x - y - z = x - z - y from fun x y z => by omega]
    split <;> split <;> rfl
theorem overl_sym : overl k r ps px py a k' r' qs ux uy b = overl k' r' qs ux uy b k r ps px py a := by
  unfold overl; rw [sepn_sym, Bool.and_comm (decide (sval k r ps = 0))]
theorem sepn_no (h : ¬ (sval k r ps = 0 ∧ sval k' r' qs = 0)) : sepn k r ps px py a k' r' qs ux uy b = 536870911 := if_pos (Decidable.not_and_iff_not_or_not.1 h)
end
/-! ### a circle -/
theorem fmul_0 (t : Int) : fmul 0 t = 0 := by unfold fmul; rw [sat_zero, Int.zero_mul]; rfl
theorem fadd_0 (x : Int) : fadd x 0 = sat x := by unfold fadd; rw [sat_zero, Int.add_zero, sat_sat]
theorem fsub_same (x : Int) : fsub x x = 0 := by unfold fsub; rw [Int.sub_self]; rfl
theorem isqrt_0 : isqrt 0 = 0 := by
  have h := isqrt_spec (n := 0) (by omega) (by omega)
  have := sq_lt (a := isqrt 0) (b := 1) h.1 (by omega) (by omega)
  omega
theorem vlen_0 : vlen 0 0 = 0 := isqrt_0
theorem rt_0 (c s : Int) : rtx c s 0 0 = 0 ∧ rty c s 0 0 = 0 := by
  unfold rtx rty; rw [sat_zero, Int.mul_zero, Int.mul_zero]; exact ⟨rfl, rfl⟩
theorem circ_ok {R : Int} (h : 2048 ≤ R) (h' : R ≤ 524288) : sval 1 R [(0, 0)] = 0 := by
  have e : sradB 1 R = false := by unfold sradB; simp; omega
  unfold sval
  rw [e]; decide
theorem circ_core {R x y : Int} (h : 2048 ≤ R) (h' : R ≤ 524288) (hx : sat x = x) (hy : sat y = y) : core 1 R [(0, 0)] x y 0 = [(x, y)] := by
  rw [core_if (circ_ok h h')]
  show [(apx x y 0 0 0, apy x y 0 0 0)] = _
  unfold apx apy
  rw [(rt_0 _ _).1, (rt_0 _ _).2]
  unfold fadd
  rw [sat_zero, Int.zero_add, Int.zero_add, sat_sat, sat_sat, hx, hy]
theorem spans1 (x y : Int) : spans 1 [(x, y)] = [⟨x, y, x, y⟩] := rfl
theorem closest1 (us : List Q4) (q : Q4) : ∀ d, d ≤ closest us [q] ↔ d ≤ 536870911 ∧ ∀ i, i < us.length → d ≤ qsd (us.getD i Q4.d0) q := fun d => by
  rw [le_closest]
  refine and_congr_right fun _ => ⟨fun h i hi => h i hi 0 (by simp), fun h i hi j hj => ?_⟩
  have : j = 0 := by simp at hj; omega
  subst this; exact h i hi
/-- two points. -/
theorem frat_n0 (n : Int) : frat n 0 = 0 := frat_0 (Or.inl (by omega))
theorem sd_pts (x y u v : Int) : sdist x y x y u v u v ≤ sat (isqrt (dsq x y u v)) := by
  have hc : ∀ x y px py, cpx x y x y px py = sat x ∧ cpy x y x y px py = sat y := fun x y px py => by
    have : cpt x y x y px py = 0 := by unfold cpt; rw [dsq_self, frat_n0]
    unfold cpx cpy; rw [this]; exact ⟨if_pos rfl, if_pos rfl⟩
  have h0 : 0 ≤ dsq x y u v := by
    unfold dsq
    have h1 : ∀ z : Int, 0 ≤ z * z := fun z => by rcases Int.le_total 0 z with h | h; exact Int.mul_nonneg h h; rw [← Int.neg_mul_neg]; exact Int.mul_nonneg (by omega) (by omega)
    have := h1 (sat u - sat x)
    have := h1 (sat v - sat y)
    omega
  have hs : ∀ a b c d, dsq (sat a) (sat b) (sat c) (sat d) = dsq a b c d := fun a b c d => by unfold dsq; simp only [sat_sat]
  have hd : (cbs x y x y u v u v 3).dist = dsq x y u v := by
    rw [cbs_dist]
    unfold cb0 cb1 cb2 cb3 Q4.dist
    simp only [(hc _ _ _ _).1, (hc _ _ _ _).2, sat_sat, hs, imin_self]
  have hA : ∀ n, 0 ≤ sat (isqrt n) := fun n => sat_nonneg (isqrt_nonneg n)
  unfold sdist
  rw [cps_dist, hd]
  by_cases c : segx x y x y u v u v = true
  · rw [if_pos c]; exact hA _
  · rw [if_neg c]
    by_cases c' : segx (sat x) (sat y) (sat x) (sat y) (sat u) (sat v) (sat u) (sat v) = true
    · rw [if_pos c', isqrt_0, sat_zero]; exact hA _
    · rw [if_neg c']; exact Int.le_refl _
theorem isq_le {a b : Int} (h : 0 ≤ a) (h' : a ≤ 4611686018427387904) (hb : 0 ≤ b) (hab : b * b ≤ a) : b ≤ isqrt a := by
  have := isqrt_spec h h'
  have h1 := sq_lt (a := b) (b := isqrt a + 1) hb (by omega) (by omega)
  omega
theorem sq_nonneg' (z : Int) : 0 ≤ z * z := by
  rcases Int.le_total 0 z with h | h
  · exact Int.mul_nonneg h h
  · rw [← Int.neg_mul_neg]; exact Int.mul_nonneg (by omega) (by omega)
theorem fsub_small {s t r : Int} (hr : r ≤ 524288) (h : fsub s t ≤ r) (h' : -fsub s t ≤ r) : fsub s t = sat s - sat t := by
  unfold fsub at *
  generalize sat s - sat t = w at *
  unfold sat at *
  (repeat' split at *) <;> omega
/-- a point in a circle is no farther from its center than its radius. -/
theorem circ_near {x y u v r : Int} (hr : r ≤ 524288) (h : vlen (fsub u x) (fsub v y) ≤ r) : sat (isqrt (dsq x y u v)) ≤ r := by
  have h1 := fsub_bd u x
  have h2 := fsub_bd v y
  have hs := sq_nonneg' (fsub u x)
  have hs' := sq_nonneg' (fsub v y)
  have hm := mul_bd (A := 536870911) (B := 536870911) h1.1 h1.2 h1.1 h1.2
  have hm' := mul_bd (A := 536870911) (B := 536870911) h2.1 h2.2 h2.1 h2.2
  have hq : isqrt (fsub u x * fsub u x + fsub v y * fsub v y) ≤ r := by
    unfold vlen at h; rwa [sat_id h1.1 h1.2, sat_id h2.1 h2.2] at h
  have hl : ∀ z : Int, z * z ≤ fsub u x * fsub u x + fsub v y * fsub v y → 0 ≤ z → z ≤ r := fun z hz h0 =>
    Int.le_trans (isq_le (by omega) (by omega) h0 hz) hq
  have a1 : fsub u x ≤ r ∧ -fsub u x ≤ r := by
    constructor
    · by_cases c : 0 ≤ fsub u x
      · exact hl _ (by omega) c
      · have := hl 0 (by omega) (by omega); omega
    · by_cases c : 0 ≤ -fsub u x
      · exact hl _ (by rw [Int.neg_mul_neg]; omega) c
      · have := hl 0 (by omega) (by omega); omega
  have a2 : fsub v y ≤ r ∧ -fsub v y ≤ r := by
    constructor
    · by_cases c : 0 ≤ fsub v y
      · exact hl _ (by omega) c
      · have := hl 0 (by omega) (by omega); omega
    · by_cases c : 0 ≤ -fsub v y
      · exact hl _ (by rw [Int.neg_mul_neg]; omega) c
      · have := hl 0 (by omega) (by omega); omega
  have e1 := fsub_small hr a1.1 a1.2
  have e2 := fsub_small hr a2.1 a2.2
  unfold vlen at h
  rw [sat_id h1.1 h1.2, sat_id h2.1 h2.2, e1, e2] at h
  unfold dsq
  have hw : ∀ w, 0 ≤ w → sat w ≤ w := fun w hw => by
    unfold sat; split
    · omega
    · split <;> omega
  exact Int.le_trans (hw _ (isqrt_nonneg _)) h
section
variable (k r : Int) (ps : List (Int × Int)) (px py a : Int)
theorem topt_circ {R x y : Int} (hv : sval k r ps = 0) (h : 2048 ≤ R) (h' : R ≤ 524288) (hx : sat x = x) (hy : sat y = y) :
    sepn k r ps px py a 1 R [(0, 0)] x y 0 = imax 0 (topt k r ps px py a x y - R) := by
  have hok := sval_ok hv
  have r0 := hok.r0
  have ht : topt k r ps px py a x y = if shC (core k r ps px py a) r x y = true then 0 else imax 0 (fsub (closest (spans k (core k r ps px py a)) [⟨x, y, x, y⟩]) r) := if_neg (by rw [hv]; simp)
  rw [ht]
  unfold sepn
  rw [if_neg (by rw [hv, circ_ok h h']; simp), circ_core h h' hx hy, spans1]
  rw [show (decide ((1 : Int) = 3) && shC [(x, y)] R (vx (core k r ps px py a) 0) (vy (core k r ps px py a) 0)) = false from rfl, show vx [(x, y)] 0 = x from rfl, show vy [(x, y)] 0 = y from rfl]
  have hb := closest_bd (spans k (core k r ps px py a)) [⟨x, y, x, y⟩]
  rw [fsub2 hb.1 hb.2 r0.1 r0.2 (by omega) (by omega), fsub1 hb.1 hb.2 r0.1 r0.2]
  by_cases h3 : k = 3
  · subst h3
    by_cases hc : shC (core 3 r ps px py a) r x y = true
    · rw [if_pos hc, if_pos (by rw [hc]; rfl)]; unfold imax; split <;> omega
    · rw [if_neg hc, if_neg (by simpa using hc), if_neg (by decide)]
      generalize closest _ _ = C at *
      unfold imax; (repeat' split) <;> omega
  · rw [if_neg (by simp [h3]), if_neg (by decide)]
    by_cases hc : shC (core k r ps px py a) r x y = true
    · rw [if_pos hc]
      have hle : closest (spans k (core k r ps px py a)) [⟨x, y, x, y⟩] ≤ r := by
        have hc0 := (closest1 (spans k (core k r ps px py a)) ⟨x, y, x, y⟩ _).1 (Int.le_refl _)
        have hk1 := hok.k1
        have hk3 := hok.k3
        by_cases e1 : k = 1
        · subst e1
          have hl := hok.n1 rfl
          have hl' : (core 1 r ps px py a).length = 1 := by rw [core_len_if hv, hl]
          have := hc0.2 0 (by show 0 < 1; omega)
          refine Int.le_trans this ?_
          show sdist (vx _ 0) (vy _ 0) (vx _ 0) (vy _ 0) x y x y ≤ r
          refine Int.le_trans (sd_pts _ _ _ _) (circ_near r0.2 ?_)
          unfold shC at hc
          rw [hl', if_neg (by decide), if_pos rfl] at hc
          exact of_decide_eq_true hc
        · have e2 : k = 2 := by omega
          subst e2
          have hl := hok.n2 rfl
          have hl' : (core 2 r ps px py a).length = 2 := by rw [core_len_if hv, hl]
          have := hc0.2 0 (by show 0 < 1; omega)
          refine Int.le_trans this ?_
          show sdist (vx _ 0) (vy _ 0) (vx _ 1) (vy _ 1) x y x y ≤ r
          unfold shC at hc
          rw [hl', if_neg (by decide), if_neg (by decide), if_pos rfl] at hc
          rw [sdist_sym]
          exact of_decide_eq_true hc
      unfold imax; (repeat' split) <;> omega
    · rw [if_neg hc]
      generalize closest _ _ = C at *
      unfold imax; (repeat' split) <;> omega
end
theorem topt_bd (k r : Int) (ps : List (Int × Int)) (px py a x y : Int) : 0 ≤ topt k r ps px py a x y ∧ topt k r ps px py a x y ≤ 536870911 := by
  unfold topt
  split
  · omega
  · split
    · omega
    · have := fsub_bd (closest (spans k (core k r ps px py a)) [⟨x, y, x, y⟩]) r
      generalize fsub _ r = w at *
      unfold imax; split <;> omega
/-! ### times of impact -/
theorem toiF_bd (g : Int → Int) (b : Int) (n : Nat) : ∀ t, 0 ≤ t → t ≤ 65536 → 0 ≤ (toiF g b n t).1 ∧ (toiF g b n t).1 ≤ 65536 ∧ ((toiF g b n t).2 = false → (toiF g b n t).1 = 0) := by
  induction n with
  | zero => intro t h h'; exact ⟨h, h', fun e => Bool.noConfusion e⟩
  | succ n ih =>
    intro t h h'
    rw [toiF]
    split
    · exact ⟨h, h', fun e => Bool.noConfusion e⟩
    · split
      · exact ⟨by show (0 : Int) ≤ 0; omega, by show (0 : Int) ≤ 65536; omega, fun _ => rfl⟩
      · have := imax_ge1 ((g t * 65536).tdiv b)
        exact ih _ (by omega) (by omega)
theorem toiF_0 {g : Int → Int} {b : Int} (h : g 0 ≤ 512) : toiF g b 40 0 = (0, true) := by rw [toiF, if_pos h]
theorem toiF_still {g : Int → Int} (hb : g 0 ≤ 536870911) : toiF g 16 40 0 = (0, decide (g 0 ≤ 512)) := by
  by_cases h : g 0 ≤ 512
  · rw [toiF_0 h, decide_eq_true h]
  · rw [toiF, if_neg h, decide_eq_false h, if_pos]
    have : (g 0 * 65536).tdiv 16 = g 0 * 4096 := by rw [Int.tdiv_eq_ediv_of_nonneg (by omega)]; omega
    rw [this]; unfold imax; split <;> omega
theorem adiff_self (a : Int) : adiff a a = 0 := by unfold adiff; rw [Int.sub_self]; rfl
theorem ipA_self (a t : Int) : ipA a a t = anorm (anorm a) := by unfold ipA; rw [adiff_self, fmul_0, Int.add_zero]
theorem flerp_self (p t : Int) : flerp p p t = sat p := by unfold flerp; rw [fsub_same, fmul_0, fadd_0]
section
variable (k r : Int) (ps : List (Int × Int)) (px py a px' py' a' k' r' : Int) (qs : List (Int × Int)) (ux uy b ux' uy' b' : Int)
theorem mbnd_no (h : ¬ sval k r ps = 0) : mbnd k r ps px py a px' py' a' = 0 := if_pos h
theorem mbnd_still (h : sval k r ps = 0) : mbnd k r ps px py a px py a = 4 := by
  unfold mbnd
  rw [if_neg (by rw [h]; simp), fsub_same, fsub_same, vlen_0, adiff_self]
  show fadd (fadd 0 (fmul 0 (sradius k r ps))) 4 = 4
  rw [fmul_0]; decide
theorem gap_still (t : Int) : gapAt k r ps px py a px py a k' r' qs ux uy b ux uy b t = gapAt k r ps px py a px py a k' r' qs ux uy b ux uy b 0 := by
  unfold gapAt; simp only [flerp_self, ipA_self]
theorem toi_sym : toi k r ps px py a px' py' a' k' r' qs ux uy b ux' uy' b' = toi k' r' qs ux uy b ux' uy' b' k r ps px py a px' py' a' := by
  unfold toi
  have hg : gapAt k r ps px py a px' py' a' k' r' qs ux uy b ux' uy' b' = gapAt k' r' qs ux uy b ux' uy' b' k r ps px py a px' py' a' := funext fun t => sepn_sym _ _ _ _ _ _ _ _ _ _ _ _
  have hb : tbound k r ps px py a px' py' a' k' r' qs ux uy b ux' uy' b' = tbound k' r' qs ux uy b ux' uy' b' k r ps px py a px' py' a' := by unfold tbound; rw [Int.add_comm]
  rw [hg, hb]
  by_cases h : ¬ sval k r ps = 0 ∨ ¬ sval k' r' qs = 0
  · rw [if_pos h, if_pos h.symm]
  · rw [if_neg h, if_neg (show ¬ (¬ sval k' r' qs = 0 ∨ ¬ sval k r ps = 0) from fun e => h e.symm)]
theorem toi_bd : 0 ≤ (toi k r ps px py a px' py' a' k' r' qs ux uy b ux' uy' b').1 ∧ (toi k r ps px py a px' py' a' k' r' qs ux uy b ux' uy' b').1 ≤ 65536 ∧ ((toi k r ps px py a px' py' a' k' r' qs ux uy b ux' uy' b').2 = false → (toi k r ps px py a px' py' a' k' r' qs ux uy b ux' uy' b').1 = 0) := by
  unfold toi
  split
  · exact ⟨by show (0 : Int) ≤ 0; omega, by show (0 : Int) ≤ 65536; omega, fun _ => rfl⟩
  · exact toiF_bd _ _ _ 0 (by omega) (by omega)
theorem toi_near (h : sval k r ps = 0) (h' : sval k' r' qs = 0) (hg : gapAt k r ps px py a px' py' a' k' r' qs ux uy b ux' uy' b' 0 ≤ 512) : toi k r ps px py a px' py' a' k' r' qs ux uy b ux' uy' b' = (0, true) := by
  unfold toi
  rw [if_neg (by rw [h, h']; simp), toiF_0 hg]
theorem toi_still (h : sval k r ps = 0) (h' : sval k' r' qs = 0) : toi k r ps px py a px py a k' r' qs ux uy b ux uy b = (0, decide (gapAt k r ps px py a px py a k' r' qs ux uy b ux uy b 0 ≤ 512)) := by
  unfold toi
  rw [if_neg (by rw [h, h']; simp)]
  have : tbound k r ps px py a px py a k' r' qs ux uy b ux uy b = 16 := by unfold tbound; rw [mbnd_still _ _ _ _ _ _ h, mbnd_still _ _ _ _ _ _ h']; rfl
  rw [this]
  exact toiF_still (g := gapAt k r ps px py a px py a k' r' qs ux uy b ux uy b) (sepn_bd _ _ _ _ _ _ _ _ _ _ _ _).2
theorem toi_no (h : ¬ sval k r ps = 0) : toi k r ps px py a px' py' a' k' r' qs ux uy b ux' uy' b' = (0, false) := if_pos (Or.inl h)
end
end Go.Carom
