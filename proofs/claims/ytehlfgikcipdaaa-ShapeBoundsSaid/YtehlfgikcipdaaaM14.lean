/-
  The plain law of translation: what does not change when all is moved by the same vector. Conditions: none; no program in sight.
-/
import Derived.Test.YtehlfgikcipdaaaM13
set_option linter.all false
namespace Go.Carom
open Go Go.AL

/-! ### bounds -/
theorem rdiv_abs {n d m : Int} (hd : 1 ≤ d) (hd' : d ≤ 4611686018427387904) (hn : -4611686018427387904 ≤ n) (hn' : n ≤ 4611686018427387904) (hm : 0 ≤ m) (h : n ≤ m * d) (h' : -n ≤ m * d) : -m ≤ rdiv n d ∧ rdiv n d ≤ m := by
  by_cases h0 : 0 ≤ n
  · have := rdiv_mono0 hd hd' h0 hn'
    exact ⟨by omega, rdiv_le hd hd' h0 hn' hm h⟩
  · have e : rdiv n d = -rdiv (-n) d := by rw [rdiv_neg]; omega
    have h1 := rdiv_mono0 (n := -n) hd hd' (by omega) (by omega)
    have h2 := rdiv_le (n := -n) hd hd' (by omega) (by omega) hm h'
    omega
theorem sat_abs {c l : Int} (h : -l ≤ c) (h' : c ≤ l) : -sat l ≤ sat c ∧ sat c ≤ sat l := by
  unfold sat; (repeat' split) <;> omega
theorem fdiv_unit {c l : Int} (h : -l ≤ c) (h' : c ≤ l) : -65536 ≤ fdiv c l ∧ fdiv c l ≤ 65536 := by
  have hs := sat_abs h h'
  have h1 := sat_le l
  have h2 := sat_le c
  have h3 := sat_ge c
  unfold fdiv
  generalize sat l = m at *
  generalize sat c = n at *
  by_cases hm : m = 0
  · have : n = 0 := by omega
    subst this
    rw [if_pos hm]
    decide
  · rw [if_neg hm, if_neg (by omega)]
    have := rdiv_abs (n := n * 65536) (d := m) (m := 65536) (by omega) (by omega) (by omega) (by omega) (by omega) (by omega) (by omega)
    generalize rdiv _ _ = q at *
    unfold sat; (repeat' split) <;> omega
theorem rot_bd (a : Int) : (-65536 ≤ rotc a ∧ rotc a ≤ 65536) ∧ (-65536 ≤ rots a ∧ rots a ≤ 65536) := by
  have hc := acos_sq a
  have hs := asin_sq a
  have h0 := sq_nonneg' (acos a)
  have h1 := sq_nonneg' (asin a)
  have hl : ∀ z : Int, z * z ≤ acos a * acos a + asin a * asin a → 0 ≤ z → z ≤ rotl a := fun z hz hz0 => isq_le (by omega) (by omega) hz0 hz
  have hp : 0 ≤ rotl a := isqrt_nonneg _
  have c1 : acos a ≤ rotl a := by
    by_cases c : 0 ≤ acos a
    · exact hl _ (by omega) c
    · omega
  have c2 : -acos a ≤ rotl a := by
    by_cases c : 0 ≤ -acos a
    · exact hl _ (by rw [Int.neg_mul_neg]; omega) c
    · omega
  have s1 : asin a ≤ rotl a := by
    by_cases c : 0 ≤ asin a
    · exact hl _ (by omega) c
    · omega
  have s2 : -asin a ≤ rotl a := by
    by_cases c : 0 ≤ -asin a
    · exact hl _ (by rw [Int.neg_mul_neg]; omega) c
    · omega
  exact ⟨fdiv_unit (by omega) c1, fdiv_unit (by omega) s1⟩
theorem prd_bd {n : Int} (h : -137438953472 ≤ n) (h' : n ≤ 137438953472) : -2097152 ≤ prd n ∧ prd n ≤ 2097152 := by
  have := rdiv_abs (n := n) (d := 65536) (m := 2097152) (by omega) (by omega) (by omega) (by omega) (by omega) (by omega) (by omega)
  unfold prd
  rw [sat_id (by omega) (by omega)]
  exact this
/-- a turned vertex of a shape. -/
theorem rt_bd (a : Int) {x y : Int} (h : -1048576 ≤ x) (h' : x ≤ 1048576) (g : -1048576 ≤ y) (g' : y ≤ 1048576) :
    (-2097152 ≤ rtx (rotc a) (rots a) x y ∧ rtx (rotc a) (rots a) x y ≤ 2097152) ∧ (-2097152 ≤ rty (rotc a) (rots a) x y ∧ rty (rotc a) (rots a) x y ≤ 2097152) := by
  obtain ⟨⟨c1, c2⟩, ⟨s1, s2⟩⟩ := rot_bd a
  unfold rtx rty
  rw [sat_id (x := rotc a) (by omega) (by omega), sat_id (x := rots a) (by omega) (by omega), sat_id (x := x) (by omega) (by omega), sat_id (x := y) (by omega) (by omega)]
  have m1 := mul_bd (A := 65536) (B := 1048576) c1 c2 h h'
  have m2 := mul_bd (A := 65536) (B := 1048576) c1 c2 g g'
  have m3 := mul_bd (A := 65536) (B := 1048576) s1 s2 h h'
  have m4 := mul_bd (A := 65536) (B := 1048576) s1 s2 g g'
  exact ⟨prd_bd (by omega) (by omega), prd_bd (by omega) (by omega)⟩
/-! ### a number that is moved -/
/-- near enough to be moved. -/
def Nr (x : Int) : Prop := -207618048 ≤ x ∧ x ≤ 207618048
def Sm (u : Int) : Prop := -67108864 ≤ u ∧ u ≤ 67108864
section
variable {u v : Int} (hu : Sm u) (hv : Sm v)
theorem sat_nr {x : Int} (h : Nr x) : sat x = x := sat_id (by have := h.1; omega) (by have := h.2; omega)
include hu in
theorem sat_mv {x : Int} (h : Nr x) : sat (x + u) = sat x + u := by
  have := h.1; have := h.2; have := hu.1; have := hu.2
  rw [sat_id (by omega) (by omega), sat_id (by omega) (by omega)]
theorem sub_mv (a b u : Int) : (a + u) - (b + u) = a - b := by omega
include hu in
theorem fsub_mv {x y : Int} (h : Nr x) (h' : Nr y) : fsub (x + u) (y + u) = fsub x y := by
  unfold fsub; rw [sat_mv hu h, sat_mv hu h', sub_mv]
theorem imin_mv (a b u : Int) : imin (a + u) (b + u) = imin a b + u := by unfold imin; split <;> split <;> omega
theorem imax_mv (a b u : Int) : imax (a + u) (b + u) = imax a b + u := by unfold imax; split <;> split <;> omega
variable {ax ay bx byy cx cy dx dy : Int} (ha : Nr ax) (ha' : Nr ay) (hb : Nr bx) (hb' : Nr byy) (hc : Nr cx) (hc' : Nr cy) (hd : Nr dx) (hd' : Nr dy)
include hu hv ha ha' hb hb'
theorem dsq_mv : dsq (ax + u) (ay + v) (bx + u) (byy + v) = dsq ax ay bx byy := by
  unfold dsq; rw [sat_mv hu ha, sat_mv hv ha', sat_mv hu hb, sat_mv hv hb', sub_mv, sub_mv]
theorem orient_mv (hc : Nr cx) (hc' : Nr cy) : orient (ax + u) (ay + v) (bx + u) (byy + v) (cx + u) (cy + v) = orient ax ay bx byy cx cy := by
  unfold orient area2
  rw [sat_mv hu ha, sat_mv hv ha', sat_mv hu hb, sat_mv hv hb', sat_mv hu hc, sat_mv hv hc', sub_mv, sub_mv, sub_mv, sub_mv]
theorem cpn_mv (hc : Nr cx) (hc' : Nr cy) : cpn (ax + u) (ay + v) (bx + u) (byy + v) (cx + u) (cy + v) = cpn ax ay bx byy cx cy := by
  unfold cpn
  rw [sat_mv hu ha, sat_mv hv ha', sat_mv hu hb, sat_mv hv hb', sat_mv hu hc, sat_mv hv hc', sub_mv, sub_mv, sub_mv, sub_mv]
theorem cpt_mv (hc : Nr cx) (hc' : Nr cy) : cpt (ax + u) (ay + v) (bx + u) (byy + v) (cx + u) (cy + v) = cpt ax ay bx byy cx cy := by
  unfold cpt
  rw [cpn_mv hu hv ha ha' hb hb' hc hc', sat_mv hu ha, sat_mv hv ha', sat_mv hu hb, sat_mv hv hb', sat_nr ha, sat_nr ha', sat_nr hb, sat_nr hb', dsq_mv hu hv ha ha' hb hb']
theorem seg2_mv (hc : Nr cx) (hc' : Nr cy) (hd : Nr dx) (hd' : Nr dy) : seg2 (ax + u) (ay + v) (bx + u) (byy + v) (cx + u) (cy + v) (dx + u) (dy + v) = seg2 ax ay bx byy cx cy dx dy := by
  unfold seg2
  rw [sat_mv hu ha, sat_mv hv ha', sat_mv hu hb, sat_mv hv hb', sat_mv hu hc, sat_mv hv hc', sat_mv hu hd, sat_mv hv hd']
  rw [sat_nr ha, sat_nr ha', sat_nr hb, sat_nr hb', sat_nr hc, sat_nr hc', sat_nr hd, sat_nr hd']
  simp only [imin_mv, imax_mv]
  have n : ∀ {a b}, Nr a → Nr b → Nr (imin a b) ∧ Nr (imax a b) := fun {a b} h h' => by
    unfold imin imax; constructor <;> split <;> assumption
  have x1 := n ha hb
  have y1 := n ha' hb'
  have x2 := n hc hd
  have y2 := n hc' hd'
  unfold boverlaps bvalid bover vsatd
  rw [sat_mv hu x1.1, sat_mv hu x1.2, sat_mv hu x2.1, sat_mv hu x2.2, sat_mv hv y1.1, sat_mv hv y1.2, sat_mv hv y2.1, sat_mv hv y2.2]
  rw [sat_nr x1.1, sat_nr x1.2, sat_nr x2.1, sat_nr x2.2, sat_nr y1.1, sat_nr y1.2, sat_nr y2.1, sat_nr y2.2]
  simp only [Int.add_le_add_iff_right, decide_true, Bool.and_true]
theorem segx_mv (hc : Nr cx) (hc' : Nr cy) (hd : Nr dx) (hd' : Nr dy) : segx (ax + u) (ay + v) (bx + u) (byy + v) (cx + u) (cy + v) (dx + u) (dy + v) = segx ax ay bx byy cx cy dx dy := by
  unfold segx
  rw [orient_mv hu hv ha ha' hb hb' hc hc', orient_mv hu hv ha ha' hb hb' hd hd', orient_mv hu hv hc hc' hd hd' ha ha', orient_mv hu hv hc hc' hd hd' hb hb', seg2_mv hu hv ha ha' hb hb' hc hc' hd hd']
end
/-! ### distances -/
/-- the points of a core. -/
def Nc (x : Int) : Prop := -69206016 ≤ x ∧ x ≤ 69206016
theorem Nc.nr {x : Int} (h : Nc x) : Nr x := ⟨by have := h.1; omega, by have := h.2; omega⟩
theorem fmul_bt {x t : Int} (h : -138412032 ≤ x) (h' : x ≤ 138412032) (ht : 0 ≤ t) (ht' : t ≤ 65536) : -138412032 ≤ fmul x t ∧ fmul x t ≤ 138412032 := by
  unfold fmul
  rw [sat_id (x := x) (by omega) (by omega), sat_id (x := t) (by omega) (by omega)]
  have hm := mul_bd (A := 138412032) (B := 65536) h h' (by omega : -65536 ≤ t) ht'
  have := rdiv_abs (n := x * t) (d := 65536) (m := 138412032) (by omega) (by omega) (by omega) (by omega) (by omega) (by omega) (by omega)
  rw [sat_id (by omega) (by omega)]
  exact this
section
variable {u v : Int} (hu : Sm u) (hv : Sm v)
include hu in
theorem flerp_mv {a b t : Int} (h : Nc a) (h' : Nc b) (ht : 0 ≤ t) (ht' : t ≤ 65536) : flerp (a + u) (b + u) t = flerp a b t + u ∧ Nr (flerp a b t) := by
  have e : fsub b a = b - a := by
    have := h.1; have := h.2; have := h'.1; have := h'.2
    unfold fsub; rw [sat_nr h.nr, sat_nr h'.nr, sat_id (by omega) (by omega)]
  unfold flerp
  rw [fsub_mv hu h'.nr h.nr, e]
  have hb := fmul_bt (x := b - a) (t := t) (by have := h.2; have := h'.1; omega) (by have := h.1; have := h'.2; omega) ht ht'
  generalize fmul (b - a) t = F at *
  have := h.1; have := h.2; have := hu.1; have := hu.2
  unfold fadd
  rw [sat_mv hu h.nr, sat_nr h.nr, sat_id (x := F) (by omega) (by omega), sat_id (x := a + F) (by omega) (by omega), sat_id (by omega) (by omega)]
  exact ⟨by omega, by omega, by omega⟩
variable {ax ay bx byy cx cy dx dy : Int} (ha : Nc ax) (ha' : Nc ay) (hb : Nc bx) (hb' : Nc byy)
include hu hv ha ha' hb hb'
theorem cpx_mv (hc : Nc cx) (hc' : Nc cy) : cpx (ax + u) (ay + v) (bx + u) (byy + v) (cx + u) (cy + v) = cpx ax ay bx byy cx cy + u ∧ Nr (cpx ax ay bx byy cx cy) := by
  unfold cpx
  rw [cpt_mv hu hv ha.nr ha'.nr hb.nr hb'.nr hc.nr hc'.nr]
  have hf := frat_bd (cpn ax ay bx byy cx cy) (dsq (sat ax) (sat ay) (sat bx) (sat byy))
  have hf' : 0 ≤ cpt ax ay bx byy cx cy ∧ cpt ax ay bx byy cx cy ≤ 65536 := hf
  rw [sat_mv hu ha.nr, sat_mv hu hb.nr, sat_nr ha.nr, sat_nr hb.nr]
  split
  · exact ⟨rfl, ha.nr⟩
  · split
    · exact ⟨rfl, hb.nr⟩
    · exact flerp_mv hu ha hb hf'.1 hf'.2
theorem cpy_mv (hc : Nc cx) (hc' : Nc cy) : cpy (ax + u) (ay + v) (bx + u) (byy + v) (cx + u) (cy + v) = cpy ax ay bx byy cx cy + v ∧ Nr (cpy ax ay bx byy cx cy) := by
  unfold cpy
  rw [cpt_mv hu hv ha.nr ha'.nr hb.nr hb'.nr hc.nr hc'.nr]
  have hf := frat_bd (cpn ax ay bx byy cx cy) (dsq (sat ax) (sat ay) (sat bx) (sat byy))
  have hf' : 0 ≤ cpt ax ay bx byy cx cy ∧ cpt ax ay bx byy cx cy ≤ 65536 := hf
  rw [sat_mv hv ha'.nr, sat_mv hv hb'.nr, sat_nr ha'.nr, sat_nr hb'.nr]
  split
  · exact ⟨rfl, ha'.nr⟩
  · split
    · exact ⟨rfl, hb'.nr⟩
    · exact flerp_mv hv ha' hb' hf'.1 hf'.2
/-- a point and the closest to it of a segment. -/
theorem cd_mv (hc : Nc cx) (hc' : Nc cy) : dsq (cx + u) (cy + v) (cpx (ax + u) (ay + v) (bx + u) (byy + v) (cx + u) (cy + v)) (cpy (ax + u) (ay + v) (bx + u) (byy + v) (cx + u) (cy + v)) = dsq cx cy (cpx ax ay bx byy cx cy) (cpy ax ay bx byy cx cy) := by
  have h1 := cpx_mv hu hv ha ha' hb hb' hc hc'
  have h2 := cpy_mv hu hv ha ha' hb hb' hc hc'
  rw [h1.1, h2.1]
  exact dsq_mv hu hv hc.nr hc'.nr h1.2 h2.2
theorem cb0_mv (hc : Nc cx) (hc' : Nc cy) : (cb0 (cx + u) (cy + v) (ax + u) (ay + v) (bx + u) (byy + v)).dist = (cb0 cx cy ax ay bx byy).dist := by
  show dsq (sat (cx + u)) (sat (cy + v)) (cpx (sat (ax + u)) (sat (ay + v)) (sat (bx + u)) (sat (byy + v)) (sat (cx + u)) (sat (cy + v))) (cpy (sat (ax + u)) (sat (ay + v)) (sat (bx + u)) (sat (byy + v)) (sat (cx + u)) (sat (cy + v)))
    = dsq (sat cx) (sat cy) (cpx (sat ax) (sat ay) (sat bx) (sat byy) (sat cx) (sat cy)) (cpy (sat ax) (sat ay) (sat bx) (sat byy) (sat cx) (sat cy))
  rw [sat_mv hu ha.nr, sat_mv hv ha'.nr, sat_mv hu hb.nr, sat_mv hv hb'.nr, sat_mv hu hc.nr, sat_mv hv hc'.nr, sat_nr ha.nr, sat_nr ha'.nr, sat_nr hb.nr, sat_nr hb'.nr, sat_nr hc.nr, sat_nr hc'.nr]
  exact cd_mv hu hv ha ha' hb hb' hc hc'
theorem sdist_mv (hc : Nc cx) (hc' : Nc cy) (hd : Nc dx) (hd' : Nc dy) : sdist (ax + u) (ay + v) (bx + u) (byy + v) (cx + u) (cy + v) (dx + u) (dy + v) = sdist ax ay bx byy cx cy dx dy := by
  have e1 : (cb1 (bx + u) (byy + v) (cx + u) (cy + v) (dx + u) (dy + v)).dist = (cb1 bx byy cx cy dx dy).dist := cb0_mv hu hv hc hc' hd hd' hb hb'
  have e0 := cb0_mv hu hv hc hc' hd hd' ha ha'
  have e2 : (cb2 (ax + u) (ay + v) (bx + u) (byy + v) (cx + u) (cy + v)).dist = (cb2 ax ay bx byy cx cy).dist := by
    rw [← cb02, ← cb02]; exact cb0_mv hu hv ha ha' hb hb' hc hc'
  have e3 : (cb3 (ax + u) (ay + v) (bx + u) (byy + v) (dx + u) (dy + v)).dist = (cb3 ax ay bx byy dx dy).dist := by
    rw [← cb13, ← cb13]; exact cb0_mv hu hv ha ha' hb hb' hd hd'
  unfold sdist
  rw [cps_dist, cps_dist, cbs_dist, cbs_dist, e0, e1, e2, e3]
  rw [sat_mv hu ha.nr, sat_mv hv ha'.nr, sat_mv hu hb.nr, sat_mv hv hb'.nr, sat_mv hu hc.nr, sat_mv hv hc'.nr, sat_mv hu hd.nr, sat_mv hv hd'.nr]
  rw [sat_nr ha.nr, sat_nr ha'.nr, sat_nr hb.nr, sat_nr hb'.nr, sat_nr hc.nr, sat_nr hc'.nr, sat_nr hd.nr, sat_nr hd'.nr]
  rw [segx_mv hu hv ha.nr ha'.nr hb.nr hb'.nr hc.nr hc'.nr hd.nr hd'.nr]
end
/-! ### cores -/
/-- a point that is moved. -/
def mvp (u v : Int) (p : Int × Int) : Int × Int := (p.1 + u, p.2 + v)
theorem vx_mv {c : List (Int × Int)} {i : Nat} (u v : Int) (h : i < c.length) : vx (c.map (mvp u v)) i = vx c i + u := by
  simp [vx, List.getD_eq_getElem?_getD, h, mvp]
theorem vy_mv {c : List (Int × Int)} {i : Nat} (u v : Int) (h : i < c.length) : vy (c.map (mvp u v)) i = vy c i + v := by
  simp [vy, List.getD_eq_getElem?_getD, h, mvp]
/-- all points of a core are near. -/
def NC (c : List (Int × Int)) : Prop := ∀ i, Nc (vx c i) ∧ Nc (vy c i)
theorem apx_mv {px py x y u v : Int} (a : Int) (hp : Sm px) (hq : Sm py) (hu : Sm u) (hv : Sm v) (h : -1048576 ≤ x) (h' : x ≤ 1048576) (g : -1048576 ≤ y) (g' : y ≤ 1048576) :
    (apx (px + u) (py + v) a x y = apx px py a x y + u ∧ Nc (apx px py a x y)) ∧ (apy (px + u) (py + v) a x y = apy px py a x y + v ∧ Nc (apy px py a x y)) := by
  obtain ⟨⟨c1, c2⟩, ⟨s1, s2⟩⟩ := rt_bd a h h' g g'
  have := hp.1; have := hp.2; have := hq.1; have := hq.2; have := hu.1; have := hu.2; have := hv.1; have := hv.2
  unfold apx apy
  generalize rtx _ _ _ _ = X at *
  generalize rty _ _ _ _ = Y at *
  have e : ∀ r p : Int, -2097152 ≤ r → r ≤ 2097152 → -134217728 ≤ p → p ≤ 134217728 → fadd r p = r + p := fun r p h1 h2 h3 h4 => by
    unfold fadd; rw [sat_id (x := r) (by omega) (by omega), sat_id (x := p) (by omega) (by omega), sat_id (by omega) (by omega)]
  rw [e X px c1 c2 (by omega) (by omega), e X (px + u) c1 c2 (by omega) (by omega), e Y py s1 s2 (by omega) (by omega), e Y (py + v) s1 s2 (by omega) (by omega)]
  exact ⟨⟨by omega, by omega, by omega⟩, ⟨by omega, by omega, by omega⟩⟩
theorem ir_mem {ps : List (Int × Int)} (h : allIR ps = true) {p : Int × Int} (hp : p ∈ ps) : (-1048576 ≤ p.1 ∧ p.1 ≤ 1048576) ∧ (-1048576 ≤ p.2 ∧ p.2 ≤ 1048576) := by
  obtain ⟨i, hi, rfl⟩ := List.getElem_of_mem hp
  unfold allIR at h
  rw [List.all_eq_true] at h
  have := h i (by simpa using hi)
  rw [ps_get hi]
  unfold inr at this
  simp only [Bool.and_eq_true, decide_eq_true_eq] at this
  exact ⟨⟨this.1.1.1, this.1.1.2⟩, ⟨this.1.2, this.2⟩⟩
theorem core_mv (k r : Int) (ps : List (Int × Int)) {px py u v : Int} (a : Int) (hp : Sm px) (hq : Sm py) (hu : Sm u) (hv : Sm v) :
    core k r ps (px + u) (py + v) a = (core k r ps px py a).map (mvp u v) ∧ NC (core k r ps px py a) := by
  by_cases h : sval k r ps = 0
  · have ir := (sval_ok h).ir
    rw [core_if h, core_if h, List.map_map]
    constructor
    · apply List.map_congr_left
      intro p hpm
      obtain ⟨⟨x1, x2⟩, ⟨y1, y2⟩⟩ := ir_mem ir hpm
      have := apx_mv a hp hq hu hv x1 x2 y1 y2
      show (_, _) = (_, _)
      rw [this.1.1, this.2.1]; rfl
    · intro i
      by_cases hi : i < ps.length
      · rw [vx_map _ _ _ _ hi, vy_map _ _ _ _ hi]
        have hm : (vx ps i, vy ps i) ∈ ps := by rw [← ps_get hi]; exact List.getElem_mem hi
        obtain ⟨⟨x1, x2⟩, ⟨y1, y2⟩⟩ := ir_mem ir hm
        have := apx_mv a hp hq hu hv x1 x2 y1 y2
        exact ⟨this.1.2, this.2.2⟩
      · have e : (ps.map (tp px py a)).getD i (0, 0) = (0, 0) := by rw [List.getD_eq_getElem?_getD, List.getElem?_eq_none (by simp; omega)]; rfl
        unfold vx vy
        rw [e]
        exact ⟨⟨by show (-69206016 : Int) ≤ 0; omega, by show (0 : Int) ≤ 69206016; omega⟩, ⟨by show (-69206016 : Int) ≤ 0; omega, by show (0 : Int) ≤ 69206016; omega⟩⟩
  · rw [core_no h, core_no h]
    refine ⟨rfl, fun i => ?_⟩
    exact ⟨⟨by show (-69206016 : Int) ≤ 0; omega, by show (0 : Int) ≤ 69206016; omega⟩, ⟨by show (-69206016 : Int) ≤ 0; omega, by show (0 : Int) ≤ 69206016; omega⟩⟩
theorem shC_mv {c : List (Int × Int)} {x y u v : Int} (r : Int) (hc : NC c) (hx : Nc x) (hy : Nc y) (hu : Sm u) (hv : Sm v) : shC (c.map (mvp u v)) r (x + u) (y + v) = shC c r x y := by
  unfold shC
  rw [List.length_map]
  split
  · rfl
  · rename_i h0
    split
    · rw [vx_mv u v (by omega), vy_mv u v (by omega), fsub_mv hu hx.nr (hc 0).1.nr, fsub_mv hv hy.nr (hc 0).2.nr]
    · split
      · rw [vx_mv u v (by omega), vy_mv u v (by omega), vx_mv u v (by omega), vy_mv u v (by omega), sdist_mv hu hv hx hy hx hy (hc 0).1 (hc 0).2 (hc 1).1 (hc 1).2]
      · unfold polC
        rw [List.length_map]
        have e : ∀ i ∈ List.range c.length, orE (c.map (mvp u v)) (x + u) (y + v) i = orE c x y i := fun i hi => by
          have hi' : i < c.length := by simpa using hi
          have hm := Nat.mod_lt (i + 1) (by omega : 0 < c.length)
          unfold orE
          rw [List.length_map, vx_mv u v hi', vy_mv u v hi', vx_mv u v hm, vy_mv u v hm, orient_mv hu hv (hc i).1.nr (hc i).2.nr (hc _).1.nr (hc _).2.nr hx.nr hy.nr]
        rw [Bool.eq_iff_iff, List.all_eq_true, List.all_eq_true]
        exact ⟨fun h i hi => by rw [← e i hi]; exact h i hi, fun h i hi => by rw [e i hi]; exact h i hi⟩
/-- a row of segments, moved. -/
structure Mv (u v : Int) (us us' : List Q4) : Prop where
  l : us'.length = us.length
  h : ∀ i, i < us.length → us'.getD i Q4.d0 = ⟨(us.getD i Q4.d0).a + u, (us.getD i Q4.d0).b + v, (us.getD i Q4.d0).c + u, (us.getD i Q4.d0).d + v⟩ ∧ (Nc (us.getD i Q4.d0).a ∧ Nc (us.getD i Q4.d0).b) ∧ (Nc (us.getD i Q4.d0).c ∧ Nc (us.getD i Q4.d0).d)
theorem spans_mv {c : List (Int × Int)} (u v : Int) {k : Int} (hc : NC c) (h1 : k = 1 → 1 ≤ c.length) (h2 : k = 2 → 2 ≤ c.length) : Mv u v (spans k c) (spans k (c.map (mvp u v))) := by
  by_cases e1 : k = 1
  · subst e1
    have := h1 rfl
    refine ⟨rfl, fun i hi => ?_⟩
    have : i = 0 := Nat.lt_one_iff.1 hi
    subst this
    refine ⟨?_, hc 0, hc 0⟩
    show (⟨vx _ 0, vy _ 0, vx _ 0, vy _ 0⟩ : Q4) = _
    rw [vx_mv u v (by omega), vy_mv u v (by omega)]; rfl
  · by_cases e2 : k = 2
    · subst e2
      have := h2 rfl
      refine ⟨rfl, fun i hi => ?_⟩
      have : i = 0 := Nat.lt_one_iff.1 hi
      subst this
      refine ⟨?_, hc 0, hc 1⟩
      show (⟨vx _ 0, vy _ 0, vx _ 1, vy _ 1⟩ : Q4) = _
      rw [vx_mv u v (by omega), vy_mv u v (by omega), vx_mv u v (by omega), vy_mv u v (by omega)]; rfl
    · by_cases e3 : k = 3
      · subst e3
        have hs : ∀ c, spans 3 c = (List.range c.length).map (span1 c) := fun _ => rfl
        rw [hs, hs]
        refine ⟨by simp, fun i hi => ?_⟩
        have hi' : i < c.length := by simpa using hi
        have hi2 : i < (c.map (mvp u v)).length := by simpa using hi'
        have hm := Nat.mod_lt (i + 1) (by omega : 0 < c.length)
        have g1 : ((List.range c.length).map (span1 c)).getD i Q4.d0 = span1 c i := by simp only [List.getD_eq_getElem?_getD, List.getElem?_map, List.getElem?_range hi', Option.map_some, Option.getD_some]
        have g2 : ((List.range (c.map (mvp u v)).length).map (span1 (c.map (mvp u v)))).getD i Q4.d0 = span1 (c.map (mvp u v)) i := by simp only [List.getD_eq_getElem?_getD, List.getElem?_map, List.getElem?_range hi2, Option.map_some, Option.getD_some]
        rw [g1, g2]
        refine ⟨?_, hc i, hc _⟩
        unfold span1
        rw [List.length_map, vx_mv u v hi', vy_mv u v hi', vx_mv u v hm, vy_mv u v hm]
      · have hs : ∀ c, spans k c = [] := fun c => by unfold spans; rw [if_neg e1, if_neg e2, if_neg e3]
        rw [hs, hs]
        exact ⟨rfl, fun i hi => absurd hi (Nat.not_lt_zero i)⟩
theorem closest_mv {u v : Int} (hu : Sm u) (hv : Sm v) {us us' vs vs' : List Q4} (h : Mv u v us us') (g : Mv u v vs vs') : closest us' vs' = closest us vs := by
  have e : ∀ i j, i < us.length → j < vs.length → qsd (us'.getD i Q4.d0) (vs'.getD j Q4.d0) = qsd (us.getD i Q4.d0) (vs.getD j Q4.d0) := fun i j hi hj => by
    obtain ⟨h0, h1, h2⟩ := h.h i hi
    obtain ⟨g0, g1, g2⟩ := g.h j hj
    rw [h0, g0]
    exact sdist_mv hu hv h1.1 h1.2 h2.1 h2.2 g1.1 g1.2 g2.1 g2.2
  apply Int.le_antisymm
  · have q := le_closest.1 (Int.le_refl (closest us' vs'))
    exact le_closest.2 ⟨q.1, fun i hi j hj => by rw [← e i j hi hj]; exact q.2 i (by rw [h.l]; exact hi) j (by rw [g.l]; exact hj)⟩
  · have q := le_closest.1 (Int.le_refl (closest us vs))
    exact le_closest.2 ⟨q.1, fun i hi j hj => by rw [e i j (by rw [← h.l]; exact hi) (by rw [← g.l]; exact hj)]; exact q.2 i (by rw [← h.l]; exact hi) j (by rw [← g.l]; exact hj)⟩
/-- moved by the same vector, two shapes are as far apart as before. -/
theorem sepn_mv (k r : Int) (ps : List (Int × Int)) {px py : Int} (a k' r' : Int) (qs : List (Int × Int)) {ux uy : Int} (b : Int) {u v : Int} (hp : Sm px) (hq : Sm py) (hp' : Sm ux) (hq' : Sm uy) (hu : Sm u) (hv : Sm v) :
    sepn k r ps (px + u) (py + v) a k' r' qs (ux + u) (uy + v) b = sepn k r ps px py a k' r' qs ux uy b := by
  have c1 := core_mv k r ps a hp hq hu hv
  have c2 := core_mv k' r' qs b hp' hq' hu hv
  unfold sepn
  by_cases h : ¬ sval k r ps = 0 ∨ ¬ sval k' r' qs = 0
  · rw [if_pos h, if_pos h]
  · rw [if_neg h, if_neg h]
    have w : sval k r ps = 0 := Decidable.not_not.1 fun e => h (Or.inl e)
    have w' : sval k' r' qs = 0 := Decidable.not_not.1 fun e => h (Or.inr e)
    have ok := sval_ok w
    have ok' := sval_ok w'
    have l1 := core_len_if (px := px) (py := py) (a := a) w
    have l2 := core_len_if (px := ux) (py := uy) (a := b) w'
    have p1 := ok.pos
    have p2 := ok'.pos
    have m1 := spans_mv u v (k := k) c1.2 (fun e => by rw [l1, ok.n1 e]; exact Nat.le_refl _) (fun e => by rw [l1, ok.n2 e]; exact Nat.le_refl _)
    have m2 := spans_mv u v (k := k') c2.2 (fun e => by rw [l2, ok'.n1 e]; exact Nat.le_refl _) (fun e => by rw [l2, ok'.n2 e]; exact Nat.le_refl _)
    rw [c1.1, c2.1, closest_mv hu hv m1 m2, vx_mv u v (by omega), vy_mv u v (by omega), vx_mv u v (by omega), vy_mv u v (by omega)]
    rw [shC_mv r c1.2 (c2.2 0).1 (c2.2 0).2 hu hv, shC_mv r' c2.2 (c1.2 0).1 (c1.2 0).2 hu hv]
end Go.Carom
