/-
  The plain law of translation: what does not change when all is moved by the same vector. Conditions: none; no program in sight.
-/
import Derived.Test.YtfhpalfchhinlaaMA
set_option linter.all false
namespace Go.Carom
open Go Go.AL

/-! ### bounds -/
theorem rdiv_abs {n d m : Int} (hd : 1 ≤ d) (hd' : d ≤ 4611686018427387904) (hn : -4611686018427387904 ≤ n) (hn' : n ≤ 4611686018427387904) (hm : 0 ≤ m) (h : n ≤ m * d) (h' : -n ≤ m * d) : -m ≤ rdiv n d ∧ rdiv n d ≤ m := by
  by_cases h0 : 0 ≤ n
  · have := rdiv_mono0 hd hd' h0 hn'
    exact ⟨by omega, rdiv_le hd hd' h0 hn' hm h⟩
  · have e : rdiv n d = -rdiv (-n) d := by rw [rdiv_neg]; omega
    have h1 := rdiv_mono0 (n := -n) hd hd' (by omega) (by omega)
    have h2 := rdiv_le (n := -n) hd hd' (by omega) (by omega) hm h'
    omega
theorem sat_abs {c l : Int} (h : -l ≤ c) (h' : c ≤ l) : -sat l ≤ sat c ∧ sat c ≤ sat l := by
  unfold sat; (repeat' split) <;> omega
theorem fdiv_unit {c l : Int} (h : -l ≤ c) (h' : c ≤ l) : -65536 ≤ fdiv c l ∧ fdiv c l ≤ 65536 := by
  have hs := sat_abs h h'
  have h1 := sat_le l
  have h2 := sat_le c
  have h3 := sat_ge c
  unfold fdiv
  generalize sat l = m at *
  generalize sat c = n at *
  by_cases hm : m = 0
  · have : n = 0 := by omega
    subst this
    rw [if_pos hm]
    decide
  · rw [if_neg hm, if_neg (by omega)]
    have := rdiv_abs (n := n * 65536) (d := m) (m := 65536) (by omega) (by omega) (by omega) (by omega) (by omega) (by omega) (by omega)
    generalize rdiv _ _ = q at *
    unfold sat; (repeat' split) <;> omega
theorem rot_bd (a : Int) : (-65536 ≤ rotc a ∧ rotc a ≤ 65536) ∧ (-65536 ≤ rots a ∧ rots a ≤ 65536) := by
  have hc := acos_sq a
  have hs := asin_sq a
  have h0 := sq_nonneg' (acos a)
  have h1 := sq_nonneg' (asin a)
  have hl : ∀ z : Int, z * z ≤ acos a * acos a + asin a * asin a → 0 ≤ z → z ≤ rotl a := fun z hz hz0 => isq_le (by omega) (by omega) hz0 hz
  have hp : 0 ≤ rotl a := isqrt_nonneg _
  have c1 : acos a ≤ rotl a := by
    by_cases c : 0 ≤ acos a
    · exact hl _ (by omega) c
    · omega
  have c2 : -acos a ≤ rotl a := by
    by_cases c : 0 ≤ -acos a
    · exact hl _ (by rw [Int.neg_mul_neg]; omega) c
    · omega
  have s1 : asin a ≤ rotl a := by
    by_cases c : 0 ≤ asin a
    · exact hl _ (by omega) c
    · omega
  have s2 : -asin a ≤ rotl a := by
    by_cases c : 0 ≤ -asin a
    · exact hl _ (by rw [Int.neg_mul_neg]; omega) c
    · omega
  exact ⟨fdiv_unit (by omega) c1, fdiv_unit (by omega) s1⟩
theorem prd_bd {n : Int} (h : -137438953472 ≤ n) (h' : n ≤ 137438953472) : -2097152 ≤ prd n ∧ prd n ≤ 2097152 := by
  have := rdiv_abs (n := n) (d := 65536) (m := 2097152) (by omega) (by omega) (by omega) (by omega) (by omega) (by omega) (by omega)
  unfold prd
  rw [sat_id (by omega) (by omega)]
  exact this
/-- a turned vertex of a shape. -/
theorem rt_bd (a : Int) {x y : Int} (h : -1048576 ≤ x) (h' : x ≤ 1048576) (g : -1048576 ≤ y) (g' : y ≤ 1048576) :
    (-2097152 ≤ rtx (rotc a) (rots a) x y ∧ rtx (rotc a) (rots a) x y ≤ 2097152) ∧ (-2097152 ≤ rty (rotc a) (rots a) x y ∧ rty (rotc a) (rots a) x y ≤ 2097152) := by
  obtain ⟨⟨c1, c2⟩, ⟨s1, s2⟩⟩ := rot_bd a
  unfold rtx rty
  rw [sat_id (x := rotc a) (by omega) (by omega), sat_id (x := rots a) (by omega) (by omega), sat_id (x := x) (by omega) (by omega), sat_id (x := y) (by omega) (by omega)]
  have m1 := mul_bd (A := 65536) (B := 1048576) c1 c2 h h'
  have m2 := mul_bd (A := 65536) (B := 1048576) c1 c2 g g'
  have m3 := mul_bd (A := 65536) (B := 1048576) s1 s2 h h'
  have m4 := mul_bd (A := 65536) (B := 1048576) s1 s2 g g'
  exact ⟨prd_bd (by omega) (by omega), prd_bd (by omega) (by omega)⟩
/-! ### a number that is moved -/
/-- near enough to be moved. -/
def Nr (x : Int) : Prop := -207618048 ≤ x ∧ x ≤ 207618048
def Sm (u : Int) : Prop := -67108864 ≤ u ∧ u ≤ 67108864
section
variable {u v : Int} (hu : Sm u) (hv : Sm v)
theorem sat_nr {x : Int} (h : Nr x) : sat x = x := sat_id (by have := h.1; omega) (by have := h.2; omega)
include hu in
theorem sat_mv {x : Int} (h : Nr x) : sat (x + u) = sat x + u := by
  have := h.1; have := h.2; have := hu.1; have := hu.2
  rw [sat_id (by omega) (by omega), sat_id (by omega) (by omega)]
theorem sub_mv (a b u : Int) : (a + u) - (b + u) = a - b := by omega
include hu in
theorem fsub_mv {x y : Int} (h : Nr x) (h' : Nr y) : fsub (x + u) (y + u) = fsub x y := by
  unfold fsub; rw [sat_mv hu h, sat_mv hu h', sub_mv]
theorem imin_mv (a b u : Int) : imin (a + u) (b + u) = imin a b + u := by unfold imin; split <;> split <;> omega
theorem imax_mv (a b u : Int) : imax (a + u) (b + u) = imax a b + u := by unfold imax; split <;> split <;> omega
variable {ax ay bx byy cx cy dx dy : Int} (ha : Nr ax) (ha' : Nr ay) (hb : Nr bx) (hb' : Nr byy) (hc : Nr cx) (hc' : Nr cy) (hd : Nr dx) (hd' : Nr dy)
include hu hv ha ha' hb hb'
theorem dsq_mv : dsq (ax + u) (ay + v) (bx + u) (byy + v) = dsq ax ay bx byy := by
  unfold dsq; rw [sat_mv hu ha, sat_mv hv ha', sat_mv hu hb, sat_mv hv hb', sub_mv, sub_mv]
theorem orient_mv (hc : Nr cx) (hc' : Nr cy) : orient (ax + u) (ay + v) (bx + u) (byy + v) (cx + u) (cy + v) = orient ax ay bx byy cx cy := by
  unfold orient area2
  rw [sat_mv hu ha, sat_mv hv ha', sat_mv hu hb, sat_mv hv hb', sat_mv hu hc, sat_mv hv hc', sub_mv, sub_mv, sub_mv, sub_mv]
theorem cpn_mv (hc : Nr cx) (hc' : Nr cy) : cpn (ax + u) (ay + v) (bx + u) (byy + v) (cx + u) (cy + v) = cpn ax ay bx byy cx cy := by
  unfold cpn
  rw [sat_mv hu ha, sat_mv hv ha', sat_mv hu hb, sat_mv hv hb', sat_mv hu hc, sat_mv hv hc', sub_mv, sub_mv, sub_mv, sub_mv]
theorem cpt_mv (hc : Nr cx) (hc' : Nr cy) : cpt (ax + u) (ay + v) (bx + u) (byy + v) (cx + u) (cy + v) = cpt ax ay bx byy cx cy := by
  unfold cpt
  rw [cpn_mv hu hv ha ha' hb hb' hc hc', sat_mv hu ha, sat_mv hv ha', sat_mv hu hb, sat_mv hv hb', sat_nr ha, sat_nr ha', sat_nr hb, sat_nr hb', dsq_mv hu hv ha ha' hb hb']
theorem seg2_mv (hc : Nr cx) (hc' : Nr cy) (hd : Nr dx) (hd' : Nr dy) : seg2 (ax + u) (ay + v) (bx + u) (byy + v) (cx + u) (cy + v) (dx + u) (dy + v) = seg2 ax ay bx byy cx cy dx dy := by
  unfold seg2
  rw [sat_mv hu ha, sat_mv hv ha', sat_mv hu hb, sat_mv hv hb', sat_mv hu hc, sat_mv hv hc', sat_mv hu hd, sat_mv hv hd']
  rw [sat_nr ha, sat_nr ha', sat_nr hb, sat_nr hb', sat_nr hc, sat_nr hc', sat_nr hd, sat_nr hd']
  simp only [imin_mv, imax_mv]
  have n : ∀ {a b}, Nr a → Nr b → Nr (imin a b) ∧ Nr (imax a b) := fun {a b} h h' => by
    unfold imin imax; constructor <;> split <;> assumption
  have x1 := n ha hb
  have y1 := n ha' hb'
  have x2 := n hc hd
  have y2 := n hc' hd'
  unfold boverlaps bvalid bover vsatd
  rw [sat_mv hu x1.1, sat_mv hu x1.2, sat_mv hu x2.1, sat_mv hu x2.2, sat_mv hv y1.1, sat_mv hv y1.2, sat_mv hv y2.1, sat_mv hv y2.2]
  rw [sat_nr x1.1, sat_nr x1.2, sat_nr x2.1, sat_nr x2.2, sat_nr y1.1, sat_nr y1.2, sat_nr y2.1, sat_nr y2.2]
  simp only [Int.add_le_add_iff_right, decide_true, Bool.and_true]
theorem segx_mv (hc : Nr cx) (hc' : Nr cy) (hd : Nr dx) (hd' : Nr dy) : segx (ax + u) (ay + v) (bx + u) (byy + v) (cx + u) (cy + v) (dx + u) (dy + v) = segx ax ay bx byy cx cy dx dy := by
  unfold segx
  rw [orient_mv hu hv ha ha' hb hb' hc hc', orient_mv hu hv ha ha' hb hb' hd hd', orient_mv hu hv hc hc' hd hd' ha ha', orient_mv hu hv hc hc' hd hd' hb hb', seg2_mv hu hv ha ha' hb hb' hc hc' hd hd']
end
/-! ### distances -/
/-- the points of a core. -/
def Nc (x : Int) : Prop := -69206016 ≤ x ∧ x ≤ 69206016
theorem Nc.nr {x : Int} (h : Nc x) : Nr x := ⟨by have := h.1; omega, by have := h.2; omega⟩
theorem fmul_bt {x t : Int} (h : -138412032 ≤ x) (h' : x ≤ 138412032) (ht : 0 ≤ t) (ht' : t ≤ 65536) : -138412032 ≤ fmul x t ∧ fmul x t ≤ 138412032 := by
  unfold fmul
  rw [sat_id (x := x) (by omega) (by omega), sat_id (x := t) (by omega) (by omega)]
  have hm := mul_bd (A := 138412032) (B := 65536) h h' (by omega : -65536 ≤ t) ht'
  have := rdiv_abs (n := x * t) (d := 65536) (m := 138412032) (by omega) (by omega) (by omega) (by omega) (by omega) (by omega) (by omega)
  rw [sat_id (by omega) (by omega)]
  exact this
section
variable {u v : Int} (hu : Sm u) (hv : Sm v)
include hu in
theorem flerp_mv {a b t : Int} (h : Nc a) (h' : Nc b) (ht : 0 ≤ t) (ht' : t ≤ 65536) : flerp (a + u) (b + u) t = flerp a b t + u ∧ Nr (flerp a b t) := by
  have e : fsub b a = b - a := by
    have := h.1; have := h.2; have := h'.1; have := h'.2
    unfold fsub; rw [sat_nr h.nr, sat_nr h'.nr, sat_id (by omega) (by omega)]
  unfold flerp
  rw [fsub_mv hu h'.nr h.nr, e]
  have hb := fmul_bt (x := b - a) (t := t) (by have := h.2; have := h'.1; omega) (by have := h.1; have := h'.2; omega) ht ht'
  generalize fmul (b - a) t = F at *
  have := h.1; have := h.2; have := hu.1; have := hu.2
  unfold fadd
  rw [sat_mv hu h.nr, sat_nr h.nr, sat_id (x := F) (by omega) (by omega), sat_id (x := a + F) (by omega) (by omega), sat_id (by omega) (by omega)]
  exact ⟨by omega, by omega, by omega⟩
variable {ax ay bx byy cx cy dx dy : Int} (ha : Nc ax) (ha' : Nc ay) (hb : Nc bx) (hb' : Nc byy)
include hu hv ha ha' hb hb'
theorem cpx_mv (hc : Nc cx) (hc' : Nc cy) : cpx (ax + u) (ay + v) (bx + u) (byy + v) (cx + u) (cy + v) = cpx ax ay bx byy cx cy + u ∧ Nr (cpx ax ay bx byy cx cy) := by
  unfold cpx
  rw [cpt_mv hu hv ha.nr ha'.nr hb.nr hb'.nr hc.nr hc'.nr]
  have hf := frat_bd (cpn ax ay bx byy cx cy) (dsq (sat ax) (sat ay) (sat bx) (sat byy))
  have hf' : 0 ≤ cpt ax ay bx byy cx cy ∧ cpt ax ay bx byy cx cy ≤ 65536 := hf
  rw [sat_mv hu ha.nr, sat_mv hu hb.nr, sat_nr ha.nr, sat_nr hb.nr]
  split
  · exact ⟨rfl, ha.nr⟩
  · split
    · exact ⟨rfl, hb.nr⟩
    · exact flerp_mv hu ha hb hf'.1 hf'.2
theorem cpy_mv (hc : Nc cx) (hc' : Nc cy) : cpy (ax + u) (ay + v) (bx + u) (byy + v) (cx + u) (cy + v) = cpy ax ay bx byy cx cy + v ∧ Nr (cpy ax ay bx byy cx cy) := by
  unfold cpy
  rw [cpt_mv hu hv ha.nr ha'.nr hb.nr hb'.nr hc.nr hc'.nr]
  have hf := frat_bd (cpn ax ay bx byy cx cy) (dsq (sat ax) (sat ay) (sat bx) (sat byy))
  have hf' : 0 ≤ cpt ax ay bx byy cx cy ∧ cpt ax ay bx byy cx cy ≤ 65536 := hf
  rw [sat_mv hv ha'.nr, sat_mv hv hb'.nr, sat_nr ha'.nr, sat_nr hb'.nr]
  split
  · exact ⟨rfl, ha'.nr⟩
  · split
    · exact ⟨rfl, hb'.nr⟩
    · exact flerp_mv hv ha' hb' hf'.1 hf'.2
/-- a point and the closest to it of a segment. -/
theorem cd_mv (hc : Nc cx) (hc' : Nc cy) : dsq (cx + u) (cy + v) (cpx (ax + u) (ay + v) (bx + u) (byy + v) (cx + u) (cy + v)) (cpy (ax + u) (ay + v) (bx + u) (byy + v) (cx + u) (cy + v)) = dsq cx cy (cpx ax ay bx byy cx cy) (cpy ax ay bx byy cx cy) := by
  have h1 := cpx_mv hu hv ha ha' hb hb' hc hc'
  have h2 := cpy_mv hu hv ha ha' hb hb' hc hc'
  rw [h1.1, h2.1]
  exact dsq_mv hu hv hc.nr hc'.nr h1.2 h2.2
theorem cb0_mv (hc : Nc cx) (hc' : Nc cy) : (cb0 (cx + u) (cy + v) (ax + u) (ay + v) (bx + u) (byy + v)).dist = (cb0 cx cy ax ay bx byy).dist := by
  show dsq (sat (cx + u)) (sat (cy + v)) (cpx (sat (ax + u)) (sat (ay + v)) (sat (bx + u)) (sat (byy + v)) (sat (cx + u)) (sat (cy + v))) (cpy (sat (ax + u)) (sat (ay + v)) (sat (bx + u)) (sat (byy + v)) (sat (cx + u)) (sat (cy + v)))
    = dsq (sat cx) (sat cy) (cpx (sat ax) (sat ay) (sat bx) (sat byy) (sat cx) (sat cy)) (cpy (sat ax) (sat ay) (sat bx) (sat byy) (sat cx) (sat cy))
  rw [sat_mv hu ha.nr, sat_mv hv ha'.nr, sat_mv hu hb.nr, sat_mv hv hb'.nr, sat_mv hu hc.nr, sat_mv hv hc'.nr, sat_nr ha.nr, sat_nr ha'.nr, sat_nr hb.nr, sat_nr hb'.nr, sat_nr hc.nr, sat_nr hc'.nr]
  exact cd_mv hu hv ha ha' hb hb' hc hc'
theorem sdist_mv (hc : Nc cx) (hc' : Nc cy) (hd : Nc dx) (hd' : Nc dy) : sdist (ax + u) (ay + v) (bx + u) (byy + v) (cx + u) (cy + v) (dx + u) (dy + v) = sdist ax ay bx byy cx cy dx dy := by
  have e1 : (cb1 (bx + u) (byy + v) (cx + u) (cy + v) (dx + u) (dy + v)).dist = (cb1 bx byy cx cy dx dy).dist := cb0_mv hu hv hc hc' hd hd' hb hb'
  have e0 := cb0_mv hu hv hc hc' hd hd' ha ha'
  have e2 : (cb2 (ax + u) (ay + v) (bx + u) (byy + v) (cx + u) (cy + v)).dist = (cb2 ax ay bx byy cx cy).dist := by
    rw [← cb02, ← cb02]; exact cb0_mv hu hv ha ha' hb hb' hc hc'
  have e3 : (cb3 (ax + u) (ay + v) (bx + u) (byy + v) (dx + u) (dy + v)).dist = (cb3 ax ay bx byy dx dy).dist := by
    rw [← cb13, ← cb13]; exact cb0_mv hu hv ha ha' hb hb' hd hd'
  unfold sdist
  rw [cps_dist, cps_dist, cbs_dist, cbs_dist, e0, e1, e2, e3]
  rw [sat_mv hu ha.nr, sat_mv hv ha'.nr, sat_mv hu hb.nr, sat_mv hv hb'.nr, sat_mv hu hc.nr, sat_mv hv hc'.nr, sat_mv hu hd.nr, sat_mv hv hd'.nr]
  rw [sat_nr ha.nr, sat_nr ha'.nr, sat_nr hb.nr, sat_nr hb'.nr, sat_nr hc.nr, sat_nr hc'.nr, sat_nr hd.nr, sat_nr hd'.nr]
  rw [segx_mv hu hv ha.nr ha'.nr hb.nr hb'.nr hc.nr hc'.nr hd.nr hd'.nr]
end
/-! ### cores -/
/-- a point that is moved. -/
def mvp (u v : Int) (p : Int × Int) : Int × Int := (p.1 + u, p.2 + v)
theorem vx_mv {c : List (Int × Int)} {i : Nat} (u v : Int) (h : i < c.length) : vx (c.map (mvp u v)) i = vx c i + u := by
  simp [vx, List.getD_eq_getElem?_getD, h, mvp]
theorem vy_mv {c : List (Int × Int)} {i : Nat} (u v : Int) (h : i < c.length) : vy (c.map (mvp u v)) i = vy c i + v := by
  simp [vy, List.getD_eq_getElem?_getD, h, mvp]
/-- all points of a core are near. -/
def NC (c : List (Int × Int)) : Prop := ∀ i, Nc (vx c i) ∧ Nc (vy c i)
theorem apx_mv {px py x y u v : Int} (a : Int) (hp : Sm px) (hq : Sm py) (hu : Sm u) (hv : Sm v) (h : -1048576 ≤ x) (h' : x ≤ 1048576) (g : -1048576 ≤ y) (g' : y ≤ 1048576) :
    (apx (px + u) (py + v) a x y = apx px py a x y + u ∧ Nc (apx px py a x y)) ∧ (apy (px + u) (py + v) a x y = apy px py a x y + v ∧ Nc (apy px py a x y)) := by
  obtain ⟨⟨c1, c2⟩, ⟨s1, s2⟩⟩ := rt_bd a h h' g g'
  have := hp.1; have := hp.2; have := hq.1; have := hq.2; have := hu.1; have := hu.2; have := hv.1; have := hv.2
  unfold apx apy
  generalize rtx _ _ _ _ = X at *
  generalize rty _ _ _ _ = Y at *
  have e : ∀ r p : Int, -2097152 ≤ r → r ≤ 2097152 → -134217728 ≤ p → p ≤ 134217728 → fadd r p = r + p := fun r p h1 h2 h3 h4 => by
    unfold fadd; rw [sat_id (x := r) (by omega) (by omega), sat_id (x := p) (by omega) (by omega), sat_id (by omega) (by omega)]
  rw [e X px c1 c2 (by omega) (by omega), e X (px + u) c1 c2 (by omega) (by omega), e Y py s1 s2 (by omega) (by omega), e Y (py + v) s1 s2 (by omega) (by omega)]
  exact ⟨⟨by omega, by omega, by omega⟩, ⟨by omega, by omega, by omega⟩⟩
theorem ir_mem {ps : List (Int × Int)} (h : allIR ps = true) {p : Int × Int} (hp : p ∈ ps) : (-1048576 ≤ p.1 ∧ p.1 ≤ 1048576) ∧ (-1048576 ≤ p.2 ∧ p.2 ≤ 1048576) := by
  obtain ⟨i, hi, rfl⟩ := List.getElem_of_mem hp
  unfold allIR at h
  rw [List.all_eq_true] at h
  have := h i (by simpa using hi)
  rw [ps_get hi]
  unfold inr at this
  simp only [Bool.and_eq_true, decide_eq_true_eq] at this
  exact ⟨⟨this.1.1.1, this.1.1.2⟩, ⟨this.1.2, this.2⟩⟩
theorem core_mv (k r : Int) (ps : List (Int × Int)) {px py u v : Int} (a : Int) (hp : Sm px) (hq : Sm py) (hu : Sm u) (hv : Sm v) :
    core k r ps (px + u) (py + v) a = (core k r ps px py a).map (mvp u v) ∧ NC (core k r ps px py a) := by
  by_cases h : sval k r ps = 0
  · have ir := (sval_ok h).ir
    rw [core_if h, core_if h, List.map_map]
    constructor
    · apply List.map_congr_left
      intro p hpm
      obtain ⟨⟨x1, x2⟩, ⟨y1, y2⟩⟩ := ir_mem ir hpm
      have := apx_mv a hp hq hu hv x1 x2 y1 y2
      show (_, _) = (_, _)
      rw [this.1.1, this.2.1]; rfl
    · intro i
      by_cases hi : i < ps.length
      · rw [vx_map _ _ _ _ hi, vy_map _ _ _ _ hi]
        have hm : (vx ps i, vy ps i) ∈ ps := by rw [← ps_get hi]; exact List.getElem_mem hi
        obtain ⟨⟨x1, x2⟩, ⟨y1, y2⟩⟩ := ir_mem ir hm
        have := apx_mv a hp hq hu hv x1 x2 y1 y2
        exact ⟨this.1.2, this.2.2⟩
      · have e : (ps.map (tp px py a)).getD i (0, 0) = (0, 0) := by rw [List.getD_eq_getElem?_getD, List.getElem?_eq_none (by simp; omega)]; rfl
        unfold vx vy
        rw [e]
        exact ⟨⟨by show (-69206016 : Int) ≤ 0; omega, by show (0 : Int) ≤ 69206016; omega⟩, ⟨by show (-69206016 : Int) ≤ 0; omega, by show (0 : Int) ≤ 69206016; omega⟩⟩
  · rw [core_no h, core_no h]
    refine ⟨rfl, fun i => ?_⟩
    exact ⟨⟨by show (-69206016 : Int) ≤ 0; omega, by show (0 : Int) ≤ 69206016; omega⟩, ⟨by show (-69206016 : Int) ≤ 0; omega, by show (0 : Int) ≤ 69206016; omega⟩⟩
theorem shC_mv {c : List (Int × Int)} {x y u v : Int} (r : Int) (hc : NC c) (hx : Nc x) (hy : Nc y) (hu : Sm u) (hv : Sm v) : shC (c.map (mvp u v)) r (x + u) (y + v) = shC c r x y := by
  unfold shC
  rw [List.length_map]
  split
  · rfl
  · rename_i h0
    split
    · rw [vx_mv u v (by omega), vy_mv u v (by omega), fsub_mv hu hx.nr (hc 0).1.nr, fsub_mv hv hy.nr (hc 0).2.nr]
    · split
      · rw [vx_mv u v (by omega), vy_mv u v (by omega), vx_mv u v (by omega), vy_mv u v (by omega), sdist_mv hu hv hx hy hx hy (hc 0).1 (hc 0).2 (hc 1).1 (hc 1).2]
      · unfold polC
        rw [List.length_map]
        have e : ∀ i ∈ List.range c.length, orE (c.map (mvp u v)) (x + u) (y + v) i = orE c x y i := fun i hi => by
          have hi' : i < c.length := by simpa using hi
          have hm := Nat.mod_lt (i + 1) (by omega : 0 < c.length)
          unfold orE
          rw [List.length_map, vx_mv u v hi', vy_mv u v hi', vx_mv u v hm, vy_mv u v hm, orient_mv hu hv (hc i).1.nr (hc i).2.nr (hc _).1.nr (hc _).2.nr hx.nr hy.nr]
        rw [Bool.eq_iff_iff, List.all_eq_true, List.all_eq_true]
        exact ⟨fun h i hi => by rw [← e i hi]; exact h i hi, fun h i hi => by rw [e i hi]; exact h i hi⟩
/-- a row of segments, moved. -/
structure Mv (u v : Int) (us us' : List Q4) : Prop where
  l : us'.length = us.length
  h : ∀ i, i < us.length → us'.getD i Q4.d0 = ⟨(us.getD i Q4.d0).a + u, (us.getD i Q4.d0).b + v, (us.getD i Q4.d0).c + u, (us.getD i Q4.d0).d + v⟩ ∧ (Nc (us.getD i Q4.d0).a ∧ Nc (us.getD i Q4.d0).b) ∧ (Nc (us.getD i Q4.d0).c ∧ Nc (us.getD i Q4.d0).d)
theorem spans_mv {c : List (Int × Int)} (u v : Int) {k : Int} (hc : NC c) (h1 : k = 1 → 1 ≤ c.length) (h2 : k = 2 → 2 ≤ c.length) : Mv u v (spans k c) (spans k (c.map (mvp u v))) := by
  by_cases e1 : k = 1
  · subst e1
    have := h1 rfl
    refine ⟨rfl, fun i hi => ?_⟩
    have : i = 0 := Nat.lt_one_iff.1 hi
    subst this
    refine ⟨?_, hc 0, hc 0⟩
    show (⟨vx _ 0, vy _ 0, vx _ 0, vy _ 0⟩ : Q4) = _
    rw [vx_mv u v (by omega), vy_mv u v (by omega)]; rfl
  · by_cases e2 : k = 2
    · subst e2
      have := h2 rfl
      refine ⟨rfl, fun i hi => ?_⟩
      have : i = 0 := Nat.lt_one_iff.1 hi
      subst this
      refine ⟨?_, hc 0, hc 1⟩
      show (⟨vx _ 0, vy _ 0, vx _ 1, vy _ 1⟩ : Q4) = _
      rw [vx_mv u v (by omega), vy_mv u v (by omega), vx_mv u v (by omega), vy_mv u v (by omega)]; rfl
    · by_cases e3 : k = 3
      · subst e3
        have hs : ∀ c, spans 3 c = (List.range c.length).map (span1 c) := fun _ => rfl
        rw [hs, hs]
        refine ⟨by simp, fun i hi => ?_⟩
        have hi' : i < c.length := by simpa using hi
        have hi2 : i < (c.map (mvp u v)).length := by simpa using hi'
        have hm := Nat.mod_lt (i + 1) (by omega : 0 < c.length)
        have g1 : ((List.range c.length).map (span1 c)).getD i Q4.d0 = span1 c i := by simp only [List.getD_eq_getElem?_getD, List.getElem?_map, List.getElem?_range hi', Option.map_some, Option.getD_some]
        have g2 : ((List.range (c.map (mvp u v)).length).map (span1 (c.map (mvp u v)))).getD i Q4.d0 = span1 (c.map (mvp u v)) i := by simp only [List.getD_eq_getElem?_getD, List.getElem?_map, List.getElem?_range hi2, Option.map_some, Option.getD_some]
        rw [g1, g2]
        refine ⟨?_, hc i, hc _⟩
        unfold span1
        rw [List.length_map, vx_mv u v hi', vy_mv u v hi', vx_mv u v hm, vy_mv u v hm]
      · have hs : ∀ c, spans k c = [] := fun c => by unfold spans; rw [if_neg e1, if_neg e2, if_neg e3]
        rw [hs, hs]
        exact ⟨rfl, fun i hi => absurd hi (Nat.not_lt_zero i)⟩
theorem closest_mv {u v : Int} (hu : Sm u) (hv : Sm v) {us us' vs vs' : List Q4} (h : Mv u v us us') (g : Mv u v vs vs') : closest us' vs' = closest us vs := by
  have e : ∀ i j, i < us.length → j < vs.length → qsd (us'.getD i Q4.d0) (vs'.getD j Q4.d0) = qsd (us.getD i Q4.d0) (vs.getD j Q4.d0) := fun i j hi hj => by
    obtain ⟨h0, h1, h2⟩ := h.h i hi
    obtain ⟨g0, g1, g2⟩ := g.h j hj
    rw [h0, g0]
    exact sdist_mv hu hv h1.1 h1.2 h2.1 h2.2 g1.1 g1.2 g2.1 g2.2
  apply Int.le_antisymm
  · have q := le_closest.1 (Int.le_refl (closest us' vs'))
    exact le_closest.2 ⟨q.1, fun i hi j hj => by rw [← e i j hi hj]; exact q.2 i (by rw [h.l]; exact hi) j (by rw [g.l]; exact hj)⟩
  · have q := le_closest.1 (Int.le_refl (closest us vs))
    exact le_closest.2 ⟨q.1, fun i hi j hj => by rw [e i j (by rw [← h.l]; exact hi) (by rw [← g.l]; exact hj)]; exact q.2 i (by rw [← h.l]; exact hi) j (by rw [← g.l]; exact hj)⟩
/-- moved by the same vector, two shapes are as far apart as before. -/
theorem sepn_mv (k r : Int) (ps : List (Int × Int)) {px py : Int} (a k' r' : Int) (qs : List (Int × Int)) {ux uy : Int} (b : Int) {u v : Int} (hp : Sm px) (hq : Sm py) (hp' : Sm ux) (hq' : Sm uy) (hu : Sm u) (hv : Sm v) :
    sepn k r ps (px + u) (py + v) a k' r' qs (ux + u) (uy + v) b = sepn k r ps px py a k' r' qs ux uy b := by
  have c1 := core_mv k r ps a hp hq hu hv
  have c2 := core_mv k' r' qs b hp' hq' hu hv
  unfold sepn
  by_cases h : ¬ sval k r ps = 0 ∨ ¬ sval k' r' qs = 0
  · rw [if_pos h, if_pos h]
  · rw [if_neg h, if_neg h]
    have w : sval k r ps = 0 := Decidable.not_not.1 fun e => h (Or.inl e)
    have w' : sval k' r' qs = 0 := Decidable.not_not.1 fun e => h (Or.inr e)
    have ok := sval_ok w
    have ok' := sval_ok w'
    have l1 := core_len_if (px := px) (py := py) (a := a) w
    have l2 := core_len_if (px := ux) (py := uy) (a := b) w'
    have p1 := ok.pos
    have p2 := ok'.pos
    have m1 := spans_mv u v (k := k) c1.2 (fun e => by rw [l1, ok.n1 e]; exact Nat.le_refl _) (fun e => by rw [l1, ok.n2 e]; exact Nat.le_refl _)
    have m2 := spans_mv u v (k := k') c2.2 (fun e => by rw [l2, ok'.n1 e]; exact Nat.le_refl _) (fun e => by rw [l2, ok'.n2 e]; exact Nat.le_refl _)
    rw [c1.1, c2.1, closest_mv hu hv m1 m2, vx_mv u v (by omega), vy_mv u v (by omega), vx_mv u v (by omega), vy_mv u v (by omega)]
    rw [shC_mv r c1.2 (c2.2 0).1 (c2.2 0).2 hu hv, shC_mv r' c2.2 (c1.2 0).1 (c1.2 0).2 hu hv]
end Go.Carom
/-
  The segments of a core, as the reference lays them: their first points and their last points. Conditions: none; no program in sight.
-/
namespace Go.Carom
open Go Go.AL

def rot1 (c : List (Int × Int)) (i : Nat) : Int × Int := (vx c ((i + 1) % c.length), vy c ((i + 1) % c.length))
def segA (k : Int) (c : List (Int × Int)) : List (Int × Int) := if k = 2 then c.take 1 else c
def segB (k : Int) (c : List (Int × Int)) : List (Int × Int) := if k = 2 then c.drop 1 else (List.range c.length).map (rot1 c)
theorem len_two {α : Type} {c : List α} (h : c.length = 2) : ∃ v w, c = [v, w] := by
  match c, h with
  | [v, w], _ => exact ⟨v, w, rfl⟩
/-- two rows of points, as a row of segments. -/
structure SegOk (us : List Q4) (A B : List (Int × Int)) : Prop where
  la : A.length = us.length
  lb : B.length = us.length
  h : ∀ i, i < us.length → us.getD i Q4.d0 = ⟨vx A i, vy A i, vx B i, vy B i⟩
theorem segok {k : Int} {c : List (Int × Int)} (hk : 1 ≤ k ∧ k ≤ 3) (h1 : k = 1 → c.length = 1) (h2 : k = 2 → c.length = 2) : SegOk (spans k c) (segA k c) (segB k c) := by
  by_cases e1 : k = 1
  · subst e1
    obtain ⟨v, rfl⟩ := List.length_eq_one_iff.1 (h1 rfl)
    refine ⟨rfl, by simp [segB, spans], fun i hi => ?_⟩
    have : i = 0 := Nat.lt_one_iff.1 hi
    subst this; simp [spans, segA, segB, rot1, vx, vy]
  · by_cases e2 : k = 2
    · subst e2
      obtain ⟨v, w, rfl⟩ := len_two (h2 rfl)
      refine ⟨rfl, rfl, fun i hi => ?_⟩
      have : i = 0 := Nat.lt_one_iff.1 hi
      subst this; simp [spans, segA, segB, rot1, vx, vy]
    · have e3 : k = 3 := by omega
      subst e3
      have hs : spans 3 c = (List.range c.length).map (span1 c) := rfl
      have hA : segA 3 c = c := rfl
      have hB : segB 3 c = (List.range c.length).map (rot1 c) := rfl
      rw [hs, hA, hB]
      refine ⟨by simp, by simp, fun i hi => ?_⟩
      have hi' : i < c.length := by simpa using hi
      simp only [vx, vy, List.getD_eq_getElem?_getD, List.getElem?_map, List.getElem?_range hi', Option.map_some, Option.getD_some]
      rfl
theorem clJ_succ {us vs : List Q4} {A B A' B' : List (Int × Int)} (h : SegOk us A B) (h' : SegOk vs A' B') {i j : Nat} (hi : i < us.length) (hj : j < vs.length) (m : Int) :
    imin (clJ (us.getD i Q4.d0) vs m j) (sdist (vx A i) (vy A i) (vx B i) (vy B i) (vx A' j) (vy A' j) (vx B' j) (vy B' j)) = clJ (us.getD i Q4.d0) vs m (j + 1) := by
  rw [clJ, h.h i hi, h'.h j hj]; rfl
theorem clI_pt {us : List Q4} {A B : List (Int × Int)} (h : SegOk us A B) {i : Nat} (hi : i < us.length) (x y : Int) :
    imin (clI us [⟨x, y, x, y⟩] i) (sdist (vx A i) (vy A i) (vx B i) (vy B i) x y x y) = clI us [⟨x, y, x, y⟩] (i + 1) := by
  rw [clI]
  show _ = imin _ (qsd (us.getD i Q4.d0) ⟨x, y, x, y⟩)
  rw [h.h i hi]; rfl
end Go.Carom

/-
  How a motion that is handed to a law looks. Conditions: none; no program in sight.
-/
namespace Go.Carom
open Go Go.AL

theorem in_3 {c : List Sh} {cs : List AV} (h : InL (.int .i64 :: .int .i64 :: .int .i64 :: c) cs) : ∃ x y z cs', cs = .i x :: .i y :: .i z :: cs' ∧ InL c cs' := by
  obtain ⟨c0, cs0, rfl, h0, g0⟩ := inL_cons.1 h
  obtain ⟨c1, cs1, rfl, h1, g1⟩ := inL_cons.1 g0
  obtain ⟨c2, cs2, rfl, h2, g2⟩ := inL_cons.1 g1
  obtain ⟨x, rfl, _⟩ := inC_int.1 h0
  obtain ⟨y, rfl, _⟩ := inC_int.1 h1
  obtain ⟨z, rfl, _⟩ := inC_int.1 h2
  exact ⟨x, y, z, cs2, rfl, g2⟩
theorem in_sh {c : List Sh} {cs : List AV} (h : InL (.int .i64 :: .int .i64 :: .sl true [.int .i64, .int .i64] :: c) cs) : ∃ k r, ∃ ps : List (Int × Int), ∃ cs', cs = .i k :: .i r :: .sl (ps.map ev) :: cs' ∧ ps.length ≤ maxLen ∧ InL c cs' := by
  obtain ⟨c0, cs0, rfl, h0, g0⟩ := inL_cons.1 h
  obtain ⟨c1, cs1, rfl, h1, g1⟩ := inL_cons.1 g0
  obtain ⟨c2, cs2, rfl, h2, g2⟩ := inL_cons.1 g1
  obtain ⟨k, rfl, _⟩ := inC_int.1 h0
  obtain ⟨r, rfl, _⟩ := inC_int.1 h1
  obtain ⟨ps, rfl, hl⟩ := in_vecs h2
  exact ⟨k, r, ps, cs2, rfl, hl, g2⟩
theorem in_motion {cs : List AV} (h : InL [.int .i64, .int .i64, .sl true [.int .i64, .int .i64], .int .i64, .int .i64, .sl true [.int .i64, .int .i64], .int .i64, .int .i64, .int .i64, .int .i64, .int .i64, .int .i64, .int .i64, .int .i64, .int .i64, .int .i64, .int .i64, .int .i64] cs) :
    ∃ k r, ∃ ps : List (Int × Int), ∃ k' r', ∃ qs : List (Int × Int), ∃ px py a px' py' a' ux uy b ux' uy' b',
      cs = [.i k, .i r, .sl (ps.map ev), .i k', .i r', .sl (qs.map ev), .i px, .i py, .i a, .i px', .i py', .i a', .i ux, .i uy, .i b, .i ux', .i uy', .i b'] ∧ ps.length ≤ maxLen ∧ qs.length ≤ maxLen := by
  obtain ⟨k, r, ps, cs1, rfl, hl, h1⟩ := in_sh h
  obtain ⟨k', r', qs, cs2, rfl, hm, h2⟩ := in_sh h1
  obtain ⟨px, py, a, cs3, rfl, h3⟩ := in_3 h2
  obtain ⟨px', py', a', cs4, rfl, h4⟩ := in_3 h3
  obtain ⟨ux, uy, b, cs5, rfl, h5⟩ := in_3 h4
  obtain ⟨ux', uy', b', cs6, rfl, h6⟩ := in_3 h5
  obtain rfl := inL_nil.1 h6
  exact ⟨k, r, ps, k', r', qs, px, py, a, px', py', a', ux, uy, b, ux', uy', b', rfl, hl, hm⟩
end Go.Carom

/-
  The plain law of a shape's distance from its own points. Conditions: none; no program in sight.
-/
namespace Go.Carom
open Go Go.AL

theorem imin_le (a b : Int) : imin a b ≤ a ∧ imin a b ≤ b ∧ (imin a b = a ∨ imin a b = b) := by unfold imin; split <;> omega
theorem imax_ge (a b : Int) : a ≤ imax a b ∧ b ≤ imax a b ∧ (imax a b = a ∨ imax a b = b) := by unfold imax; split <;> omega
theorem seg2_aa (ax ay bx byy : Int) : seg2 ax ay bx byy ax ay ax ay = true := by
  unfold seg2 boverlaps bvalid bover vsatd
  have h1 := imin_le (sat ax) (sat bx)
  have h2 := imin_le (sat ay) (sat byy)
  have h3 := imax_ge (sat ax) (sat bx)
  have h4 := imax_ge (sat ay) (sat byy)
  have s1 := sat_le ax
  have s2 := sat_ge ax
  have s3 := sat_le ay
  have s4 := sat_ge ay
  have s5 := sat_le bx
  have s6 := sat_ge bx
  have s7 := sat_le byy
  have s8 := sat_ge byy
  have q1 : sat (imin (sat ax) (sat bx)) = imin (sat ax) (sat bx) := sat_id (by omega) (by omega)
  have q2 : sat (imin (sat ay) (sat byy)) = imin (sat ay) (sat byy) := sat_id (by omega) (by omega)
  have q3 : sat (imax (sat ax) (sat bx)) = imax (sat ax) (sat bx) := sat_id (by omega) (by omega)
  have q4 : sat (imax (sat ay) (sat byy)) = imax (sat ay) (sat byy) := sat_id (by omega) (by omega)
  simp only [imin_self, imax_self, sat_sat, q1, q2, q3, q4, Bool.and_eq_true, decide_eq_true_eq, and_true, true_and]
  clear q1 q2 q3 q4
  (repeat' apply And.intro) <;> omega
theorem seg2_bb (ax ay bx byy : Int) : seg2 ax ay bx byy bx byy bx byy = true := by
  unfold seg2 boverlaps bvalid bover vsatd
  have h1 := imin_le (sat ax) (sat bx)
  have h2 := imin_le (sat ay) (sat byy)
  have h3 := imax_ge (sat ax) (sat bx)
  have h4 := imax_ge (sat ay) (sat byy)
  have s1 := sat_le ax
  have s2 := sat_ge ax
  have s3 := sat_le ay
  have s4 := sat_ge ay
  have s5 := sat_le bx
  have s6 := sat_ge bx
  have s7 := sat_le byy
  have s8 := sat_ge byy
  have q1 : sat (imin (sat ax) (sat bx)) = imin (sat ax) (sat bx) := sat_id (by omega) (by omega)
  have q2 : sat (imin (sat ay) (sat byy)) = imin (sat ay) (sat byy) := sat_id (by omega) (by omega)
  have q3 : sat (imax (sat ax) (sat bx)) = imax (sat ax) (sat bx) := sat_id (by omega) (by omega)
  have q4 : sat (imax (sat ay) (sat byy)) = imax (sat ay) (sat byy) := sat_id (by omega) (by omega)
  simp only [imin_self, imax_self, sat_sat, q1, q2, q3, q4, Bool.and_eq_true, decide_eq_true_eq, and_true, true_and]
  clear q1 q2 q3 q4
  (repeat' apply And.intro) <;> omega
theorem seg2_ab (ax ay bx byy : Int) : seg2 ax ay bx byy ax ay bx byy = true := by
  unfold seg2 boverlaps bvalid bover vsatd
  have h1 := imin_le (sat ax) (sat bx)
  have h2 := imin_le (sat ay) (sat byy)
  have h3 := imax_ge (sat ax) (sat bx)
  have h4 := imax_ge (sat ay) (sat byy)
  have s1 := sat_le ax
  have s2 := sat_ge ax
  have s3 := sat_le ay
  have s4 := sat_ge ay
  have s5 := sat_le bx
  have s6 := sat_ge bx
  have s7 := sat_le byy
  have s8 := sat_ge byy
  have q1 : sat (imin (sat ax) (sat bx)) = imin (sat ax) (sat bx) := sat_id (by omega) (by omega)
  have q2 : sat (imin (sat ay) (sat byy)) = imin (sat ay) (sat byy) := sat_id (by omega) (by omega)
  have q3 : sat (imax (sat ax) (sat bx)) = imax (sat ax) (sat bx) := sat_id (by omega) (by omega)
  have q4 : sat (imax (sat ay) (sat byy)) = imax (sat ay) (sat byy) := sat_id (by omega) (by omega)
  simp only [q1, q2, q3, q4, Bool.and_eq_true, decide_eq_true_eq, and_true, true_and]
  clear q1 q2 q3 q4
  (repeat' apply And.intro) <;> omega
theorem orient_aba (ax ay bx byy : Int) : orient ax ay bx byy ax ay = 0 := by
  have : area2 ax ay bx byy ax ay = 0 := by unfold area2; rw [Int.sub_self, Int.sub_self, Int.mul_zero, Int.mul_zero]; rfl
  unfold orient; rw [this]; rfl
theorem orient_abb (ax ay bx byy : Int) : orient ax ay bx byy bx byy = 0 := by
  have : area2 ax ay bx byy bx byy = 0 := by unfold area2; rw [Int.mul_comm]; exact Int.sub_self _
  unfold orient; rw [this]; rfl
theorem sdist_aa (ax ay bx byy : Int) : sdist ax ay bx byy ax ay ax ay = 0 := by
  have : segx ax ay bx byy ax ay ax ay = true := by
    unfold segx; rw [orient_aba, orient_aba, seg2_aa, Int.zero_mul, Int.zero_mul]; rfl
  exact if_pos this
theorem sdist_bb (ax ay bx byy : Int) : sdist ax ay bx byy bx byy bx byy = 0 := by
  have : segx ax ay bx byy bx byy bx byy = true := by
    unfold segx; rw [orient_abb, orient_abb, seg2_bb, Int.zero_mul, Int.mul_zero]; rfl
  exact if_pos this
theorem sdist_ab (ax ay bx byy : Int) : sdist ax ay bx byy ax ay bx byy = 0 := by
  have : segx ax ay bx byy ax ay bx byy = true := by
    unfold segx; rw [orient_aba, orient_abb, seg2_ab, Int.zero_mul]; rfl
  exact if_pos this
theorem qsd_self (s : Q4) : qsd s s = 0 := sdist_ab _ _ _ _
theorem closest_le {us vs : List Q4} {i j : Nat} (hi : i < us.length) (hj : j < vs.length) : closest us vs ≤ qsd (us.getD i Q4.d0) (vs.getD j Q4.d0) :=
  (le_closest.1 (Int.le_refl _)).2 i hi j hj
theorem spans_pos {k r : Int} {ps : List (Int × Int)} {px py a : Int} (hv : sval k r ps = 0) : 0 < (spans k (core k r ps px py a)).length := by
  have ok := sval_ok hv
  have h1 := ok.k1
  have h3 := ok.k3
  unfold spans
  split
  · simp
  · split
    · simp
    · split
      · rw [List.length_map, List.length_range]; exact core_pos.2 hv
      · omega
section
variable {k r : Int} {ps : List (Int × Int)} (px py a : Int)
/-- a shape is at distance 0 from itself. -/
theorem sepn_self (hv : sval k r ps = 0) : sepn k r ps px py a k r ps px py a = 0 := by
  have r0 := (sval_ok hv).r0
  unfold sepn
  rw [if_neg (by rw [hv]; simp)]
  have hp := spans_pos (px := px) (py := py) (a := a) hv
  have hb := closest_bd (spans k (core k r ps px py a)) (spans k (core k r ps px py a))
  have hc := closest_le hp hp
  rw [qsd_self] at hc
  rw [fsub2 hb.1 hb.2 r0.1 r0.2 r0.1 r0.2]
  generalize closest _ _ = C at *
  have e : imax 0 (C - r - r) = 0 := by unfold imax; split <;> omega
  rw [e]
  split <;> rfl
/-- and from the points of its core. -/
theorem topt_own (hv : sval k r ps = 0) {i : Nat} (hi : i < (core k r ps px py a).length) : topt k r ps px py a (vx (core k r ps px py a) i) (vy (core k r ps px py a) i) = 0 := by
  have ok := sval_ok hv
  have r0 := ok.r0
  have l1 := core_len_if (px := px) (py := py) (a := a) hv
  unfold topt
  rw [if_neg (by rw [hv]; simp)]
  have hc : closest (spans k (core k r ps px py a)) [⟨vx (core k r ps px py a) i, vy (core k r ps px py a) i, vx (core k r ps px py a) i, vy (core k r ps px py a) i⟩] ≤ 0 := by
    have h1 := ok.k1
    have h3 := ok.k3
    by_cases e1 : k = 1
    · subst e1
      have := ok.n1 rfl
      have hi0 : i = 0 := by omega
      subst hi0
      refine Int.le_trans (closest_le (i := 0) (j := 0) (by simp [spans]) (by simp)) ?_
      show sdist _ _ _ _ _ _ _ _ ≤ 0
      exact Int.le_of_eq (sdist_aa _ _ _ _)
    · by_cases e2 : k = 2
      · subst e2
        have := ok.n2 rfl
        refine Int.le_trans (closest_le (i := 0) (j := 0) (by simp [spans]) (by simp)) ?_
        by_cases hi0 : i = 0
        · subst hi0; exact Int.le_of_eq (sdist_aa _ _ _ _)
        · have hi1 : i = 1 := by omega
          subst hi1; exact Int.le_of_eq (sdist_bb _ _ _ _)
      · have e3 : k = 3 := by omega
        subst e3
        generalize core 3 r ps px py a = c at *
        have hs : spans 3 c = (List.range c.length).map (span1 c) := rfl
        refine Int.le_trans (closest_le (i := i) (j := 0) (by rw [hs]; simpa using hi) (by simp)) ?_
        have : (spans 3 c).getD i Q4.d0 = span1 c i := by rw [hs]; simp only [List.getD_eq_getElem?_getD, List.getElem?_map, List.getElem?_range hi, Option.map_some, Option.getD_some]
        rw [this]
        exact Int.le_of_eq (sdist_aa _ _ _ _)
  have hb := closest_bd (spans k (core k r ps px py a)) [⟨vx (core k r ps px py a) i, vy (core k r ps px py a) i, vx (core k r ps px py a) i, vy (core k r ps px py a) i⟩]
  rw [fsub1 hb.1 hb.2 r0.1 r0.2]
  generalize closest _ _ = C at *
  split
  · rfl
  · unfold imax; split <;> omega
theorem topt_in (hv : sval k r ps = 0) {x y : Int} (h : shC (core k r ps px py a) r x y = true) : topt k r ps px py a x y = 0 := by
  unfold topt; rw [if_neg (by rw [hv]; simp), if_pos h]
theorem topt_no (hv : ¬ sval k r ps = 0) {x y : Int} : topt k r ps px py a x y = 536870911 := if_pos hv
end
end Go.Carom

/-
  The plain law of a shape's box: its core and its support points lie in it. Conditions: none; no program in sight.
-/
namespace Go.Carom
open Go Go.AL

theorem le2_imin (a b : Int) : imin a b ≤ a ∧ imin a b ≤ b := by unfold imin; split <;> omega
theorem ge2_imax (a b : Int) : a ≤ imax a b ∧ b ≤ imax a b := by unfold imax; split <;> omega
/-- the box's sides are beside each point. -/
theorem lohi (c : List (Int × Int)) (n : Nat) : ∀ i, i ≤ n → (loX c n ≤ sat (vx c i) ∧ sat (vx c i) ≤ hiX c n) ∧ (loY c n ≤ sat (vy c i) ∧ sat (vy c i) ≤ hiY c n) := by
  induction n with
  | zero =>
    intro i hi
    have : i = 0 := by omega
    subst this
    exact ⟨⟨Int.le_refl _, Int.le_refl _⟩, ⟨Int.le_refl _, Int.le_refl _⟩⟩
  | succ n ih =>
    intro i hi
    rw [loX, hiX, loY, hiY]
    have h1 := le2_imin (loX c n) (sat (vx c (n + 1)))
    have h2 := le2_imin (loY c n) (sat (vy c (n + 1)))
    have h3 := ge2_imax (hiX c n) (sat (vx c (n + 1)))
    have h4 := ge2_imax (hiY c n) (sat (vy c (n + 1)))
    by_cases e : i = n + 1
    · subst e; omega
    · have := ih i (by omega)
      omega
/-- a bound of all points is one of the box. -/
theorem lohi_bd {c : List (Int × Int)} {B : Int} (hx : ∀ i, -B ≤ sat (vx c i) ∧ sat (vx c i) ≤ B) (hy : ∀ i, -B ≤ sat (vy c i) ∧ sat (vy c i) ≤ B) (n : Nat) : (-B ≤ loX c n ∧ hiX c n ≤ B) ∧ (-B ≤ loY c n ∧ hiY c n ≤ B) := by
  induction n with
  | zero => exact ⟨⟨(hx 0).1, (hx 0).2⟩, ⟨(hy 0).1, (hy 0).2⟩⟩
  | succ n ih =>
    rw [loX, hiX, loY, hiY]
    have h1 := hx (n + 1)
    have h2 := hy (n + 1)
    unfold imin imax
    (repeat' split) <;> omega
theorem nrm_bd (x y : Int) : (-65536 ≤ vnx x y ∧ vnx x y ≤ 65536) ∧ (-65536 ≤ vny x y ∧ vny x y ≤ 65536) := by
  have hx := sq_nonneg' (sat x)
  have hy := sq_nonneg' (sat y)
  have hm := sat_mul x x
  have hm' := sat_mul y y
  have hl : ∀ z : Int, z * z ≤ sat x * sat x + sat y * sat y → 0 ≤ z → z ≤ vlen x y := fun z hz hz0 => isq_le (by omega) (by omega) hz0 hz
  have hp : 0 ≤ vlen x y := isqrt_nonneg _
  have c1 : sat x ≤ vlen x y := by
    by_cases c : 0 ≤ sat x
    · exact hl _ (by omega) c
    · omega
  have c2 : -sat x ≤ vlen x y := by
    by_cases c : 0 ≤ -sat x
    · exact hl _ (by rw [Int.neg_mul_neg]; omega) c
    · omega
  have s1 : sat y ≤ vlen x y := by
    by_cases c : 0 ≤ sat y
    · exact hl _ (by omega) c
    · omega
  have s2 : -sat y ≤ vlen x y := by
    by_cases c : 0 ≤ -sat y
    · exact hl _ (by rw [Int.neg_mul_neg]; omega) c
    · omega
  have e : ∀ a l, fdiv a l = fdiv (sat a) l := fun a l => by unfold fdiv; rw [sat_sat]
  have f1 := fdiv_unit (c := sat x) (l := vlen x y) (by omega) c1
  have f2 := fdiv_unit (c := sat y) (l := vlen x y) (by omega) s1
  rw [← e] at f1 f2
  unfold vnx vny
  constructor <;> split <;> omega
theorem fmul_unit {n r : Int} (h : -65536 ≤ n) (h' : n ≤ 65536) (hr : 0 ≤ r) (hr' : r ≤ 524288) : -r ≤ fmul n r ∧ fmul n r ≤ r := by
  unfold fmul
  rw [sat_id (x := n) (by omega) (by omega), sat_id (x := r) (by omega) (by omega)]
  have h1 : n * r ≤ 65536 * r := Int.mul_le_mul_of_nonneg_right h' hr
  have h2 : (-n) * r ≤ 65536 * r := Int.mul_le_mul_of_nonneg_right (by omega) hr
  rw [Int.neg_mul] at h2
  have := rdiv_abs (n := n * r) (d := 65536) (m := r) (by omega) (by omega) (by omega) (by omega) hr (by omega) (by omega)
  rw [sat_id (by omega) (by omega)]
  exact this
/-- the core of a shape at a transform that is valid. -/
def NV (c : List (Int × Int)) : Prop := ∀ i, (-270532608 ≤ vx c i ∧ vx c i ≤ 270532608) ∧ (-270532608 ≤ vy c i ∧ vy c i ≤ 270532608)
theorem core_nv (k r : Int) (ps : List (Int × Int)) {px py : Int} (a : Int) (hp : -268435456 ≤ px ∧ px ≤ 268435456) (hq : -268435456 ≤ py ∧ py ≤ 268435456) : NV (core k r ps px py a) := by
  have z : ((-270532608 : Int) ≤ 0 ∧ (0 : Int) ≤ 270532608) ∧ ((-270532608 : Int) ≤ 0 ∧ (0 : Int) ≤ 270532608) := ⟨⟨by omega, by omega⟩, ⟨by omega, by omega⟩⟩
  by_cases h : sval k r ps = 0
  · have ir := (sval_ok h).ir
    rw [core_if h]
    intro i
    by_cases hi : i < ps.length
    · rw [vx_map _ _ _ _ hi, vy_map _ _ _ _ hi]
      have hm : (vx ps i, vy ps i) ∈ ps := by rw [← ps_get hi]; exact List.getElem_mem hi
      obtain ⟨⟨x1, x2⟩, ⟨y1, y2⟩⟩ := ir_mem ir hm
      obtain ⟨⟨c1, c2⟩, ⟨s1, s2⟩⟩ := rt_bd a x1 x2 y1 y2
      unfold apx apy
      generalize rtx _ _ _ _ = X at *
      generalize rty _ _ _ _ = Y at *
      have e : ∀ r p : Int, -2097152 ≤ r → r ≤ 2097152 → -268435456 ≤ p → p ≤ 268435456 → fadd r p = r + p := fun r p h1 h2 h3 h4 => by
        unfold fadd; rw [sat_id (x := r) (by omega) (by omega), sat_id (x := p) (by omega) (by omega), sat_id (by omega) (by omega)]
      rw [e X px c1 c2 hp.1 hp.2, e Y py s1 s2 hq.1 hq.2]
      omega
    · have e : (ps.map (tp px py a)).getD i (0, 0) = (0, 0) := by rw [List.getD_eq_getElem?_getD, List.getElem?_eq_none (by simp; omega)]; rfl
      unfold vx vy
      rw [e]
      exact z
  · rw [core_no h]
    exact fun i => z
/-- what the box contains. -/
theorem box_in {c : List (Int × Int)} {r x y : Int} (hc : NV c) (hl : 0 < c.length) (hr : 0 ≤ r) (hr' : r ≤ 524288) {i : Nat} (hi : i < c.length) (hx : vx c i - r ≤ x ∧ x ≤ vx c i + r) (hy : vy c i - r ≤ y ∧ y ≤ vy c i + r) :
    bcp (boxR c r).a (boxR c r).b (boxR c r).c (boxR c r).d x y = true := by
  have hs : ∀ j, sat (vx c j) = vx c j ∧ sat (vy c j) = vy c j := fun j => ⟨sat_id (by have := (hc j).1; omega) (by have := (hc j).1; omega), sat_id (by have := (hc j).2; omega) (by have := (hc j).2; omega)⟩
  have h1 := lohi c (c.length - 1) i (by omega)
  have h2 := lohi_bd (c := c) (B := 270532608) (fun j => by rw [(hs j).1]; exact (hc j).1) (fun j => by rw [(hs j).2]; exact (hc j).2) (c.length - 1)
  rw [(hs i).1, (hs i).2] at h1
  have h3 := hc i
  unfold boxR
  rw [if_neg (by omega)]
  generalize loX c (c.length - 1) = a at *
  generalize loY c (c.length - 1) = b at *
  generalize hiX c (c.length - 1) = d at *
  generalize hiY c (c.length - 1) = e at *
  have es : ∀ q : Int, -270532608 ≤ q → q ≤ 270532608 → fsub q r = q - r ∧ fadd q r = q + r := fun q g g' => by
    unfold fsub fadd
    rw [sat_id (x := q) (by omega) (by omega), sat_id (x := r) (by omega) (by omega), sat_id (by omega) (by omega), sat_id (by omega) (by omega)]
    exact ⟨rfl, rfl⟩
  show bcp (fsub a r) (fsub b r) (fadd d r) (fadd e r) x y = true
  rw [(es a (by omega) (by omega)).1, (es b (by omega) (by omega)).1, (es d (by omega) (by omega)).2, (es e (by omega) (by omega)).2]
  unfold bcp bvalid vsatd
  rw [sat_id (x := x) (by omega) (by omega), sat_id (x := y) (by omega) (by omega), sat_id (x := a - r) (by omega) (by omega), sat_id (x := b - r) (by omega) (by omega), sat_id (x := d + r) (by omega) (by omega), sat_id (x := e + r) (by omega) (by omega)]
  simp only [Bool.and_eq_true, decide_eq_true_eq, and_true, true_and]
  (repeat' apply And.intro) <;> omega
theorem sup_in {k r : Int} {ps : List (Int × Int)} {px py : Int} (a dx dy : Int) (hv : sval k r ps = 0) (hp : -268435456 ≤ px ∧ px ≤ 268435456) (hq : -268435456 ≤ py ∧ py ≤ 268435456) :
    bcp (boxR (core k r ps px py a) r).a (boxR (core k r ps px py a) r).b (boxR (core k r ps px py a) r).c (boxR (core k r ps px py a) r).d (supX (core k r ps px py a) r dx dy) (supY (core k r ps px py a) r dx dy) = true := by
  have hc := core_nv k r ps a hp hq
  have r0 := (sval_ok hv).r0
  have hl : 0 < (core k r ps px py a).length := core_pos.2 hv
  generalize core k r ps px py a = c at *
  have hb := (spB_bd c dx dy c.length).2 hl
  have hi : (supI c dx dy).toNat < c.length := by unfold supI; omega
  have hn := nrm_bd dx dy
  have f1 := fmul_unit hn.1.1 hn.1.2 r0.1 r0.2
  have f2 := fmul_unit hn.2.1 hn.2.2 r0.1 r0.2
  have h3 := hc (supI c dx dy).toNat
  have e : ∀ q f : Int, -270532608 ≤ q → q ≤ 270532608 → -524288 ≤ f → f ≤ 524288 → fadd q f = q + f := fun q f g1 g2 g3 g4 => by
    unfold fadd
    rw [sat_id (x := q) (by omega) (by omega), sat_id (x := f) (by omega) (by omega), sat_id (by omega) (by omega)]
  have hX : supX c r dx dy = vx c (supI c dx dy).toNat + fmul (vnx dx dy) r := by
    unfold supX; rw [if_neg (by omega), e _ _ h3.1.1 h3.1.2 (by omega) (by omega)]
  have hY : supY c r dx dy = vy c (supI c dx dy).toNat + fmul (vny dx dy) r := by
    unfold supY; rw [if_neg (by omega), e _ _ h3.2.1 h3.2.2 (by omega) (by omega)]
  rw [hX, hY]
  exact box_in hc hl r0.1 r0.2 hi ⟨by omega, by omega⟩ ⟨by omega, by omega⟩
end Go.Carom

/-
  The plain law of turns: how long a turned vector is, and the area of a polygon that is turned and rounded. Conditions: none; no program in sight.
-/
namespace Go.Carom
open Go Go.AL

/-! ### sines -/
theorem rdiv_spec {n d : Int} (hd : 1 ≤ d) (hd' : d ≤ 4611686018427387904) (h : -4611686018427387904 ≤ n) (h' : n ≤ 4611686018427387904) : 2 * (rdiv n d * d) ≤ 2 * n + d ∧ 2 * n - d ≤ 2 * (rdiv n d * d) := by
  unfold rdiv
  rw [if_neg (by omega)]
  have h2 := tmod_bd (n := n) (d := d) hd
  have h5 := Int.tmod_add_tdiv_mul n d
  generalize n.tdiv d = q at *
  generalize n.tmod d = r at *
  split
  · rw [Int.add_mul, Int.one_mul]; omega
  · split
    · rw [Int.sub_mul, Int.one_mul]; omega
    · omega
theorem fdiv_q {x : Int} (h : 0 ≤ x) (h' : x ≤ 102944) : fdiv x 102944 = rdiv (x * 65536) 102944 ∧ 0 ≤ rdiv (x * 65536) 102944 ∧ rdiv (x * 65536) 102944 ≤ 65536 ∧ (51472 ≤ x → 32768 ≤ rdiv (x * 65536) 102944) := by
  have hs := rdiv_spec (n := x * 65536) (d := 102944) (by omega) (by omega) (by omega) (by omega)
  have h1 : sat 102944 = 102944 := by decide
  unfold fdiv
  rw [h1, if_neg (by omega), if_neg (by omega), sat_id (x := x) (by omega) (by omega)]
  generalize rdiv (x * 65536) 102944 = q at *
  rw [sat_id (by omega) (by omega)]
  exact ⟨rfl, by omega, by omega, fun _ => by omega⟩
theorem fmul_q {a b A B : Int} (ha : 0 ≤ a) (ha' : a ≤ A) (hb : 0 ≤ b) (hb' : b ≤ B) (hA : A ≤ 131072) (hB : B ≤ 131072) : fmul a b = rdiv (a * b) 65536 ∧ 0 ≤ a * b ∧ a * b ≤ A * B ∧ 2 * (rdiv (a * b) 65536 * 65536) ≤ 2 * (a * b) + 65536 ∧ 2 * (a * b) - 65536 ≤ 2 * (rdiv (a * b) 65536 * 65536) := by
  have h0 : 0 ≤ a * b := Int.mul_nonneg ha hb
  have h1 : a * b ≤ A * B := Int.mul_le_mul ha' hb' hb (by omega)
  have h2 : A * B ≤ 131072 * 131072 := Int.mul_le_mul hA hB (by omega) (by omega)
  have hs := rdiv_spec (n := a * b) (d := 65536) (by omega) (by omega) (by omega) (by omega)
  unfold fmul
  rw [sat_id (x := a) (by omega) (by omega), sat_id (x := b) (by omega) (by omega)]
  generalize rdiv (a * b) 65536 = q at *
  rw [sat_id (by omega) (by omega)]
  exact ⟨rfl, h0, h1, hs⟩
/-- a sine of the first quarter. -/
theorem sinq_q {x : Int} (h : 0 ≤ x) (h' : x ≤ 102944) : 0 ≤ sinq x ∧ sinq x ≤ 102873 ∧ (51472 ≤ x → 30483 ≤ sinq x) := by
  obtain ⟨e1, t0, t1, t2⟩ := fdiv_q h h'
  unfold sinq
  rw [e1]
  generalize rdiv (x * 65536) 102944 = t at *
  obtain ⟨e2, p0, p1, p2, p3⟩ := fmul_q t0 t1 t0 t1 (by omega) (by omega)
  rw [e2]
  generalize t * t = tt at *
  generalize rdiv tt 65536 = q at *
  obtain ⟨e3, q0, q1, q2, q3⟩ := fmul_q (a := q) (b := 4569) (A := 65536) (B := 4569) (by omega) (by omega) (by omega) (by omega) (by omega) (by omega)
  rw [e3]
  generalize hw : rdiv (q * 4569) 65536 = w at *
  have e4 : fsub 41906 w = 41906 - w := by unfold fsub; rw [sat_id (x := w) (by omega) (by omega), sat_id (x := 41906) (by omega) (by omega), sat_id (by omega) (by omega)]
  rw [e4]
  obtain ⟨e5, r0, r1, r2, r3⟩ := fmul_q (a := q) (b := 41906 - w) (A := 65536) (B := 41906) (by omega) (by omega) (by omega) (by omega) (by omega) (by omega)
  rw [e5]
  generalize q * (41906 - w) = qw at *
  generalize rdiv qw 65536 = z at *
  have e6 : fsub 102873 z = 102873 - z := by unfold fsub; rw [sat_id (x := z) (by omega) (by omega), sat_id (x := 102873) (by omega) (by omega), sat_id (by omega) (by omega)]
  rw [e6]
  obtain ⟨e7, s0, s1, s2, s3⟩ := fmul_q (a := t) (b := 102873 - z) (A := 65536) (B := 102873) (by omega) (by omega) (by omega) (by omega) (by omega) (by omega)
  rw [e7]
  have s4 : 51472 ≤ x → 32768 * 60967 ≤ t * (102873 - z) := fun hx => Int.mul_le_mul (t2 hx) (by omega) (by omega) t0
  generalize t * (102873 - z) = tz at *
  generalize rdiv tz 65536 = y at *
  exact ⟨by omega, by omega, fun hx => by have := s4 hx; omega⟩
/-- the sine or the cosine of an angle is not small. -/
theorem sc_big (a : Int) : (-102873 ≤ asin a ∧ asin a ≤ 102873) ∧ (-102873 ≤ acos a ∧ acos a ≤ 102873) ∧ (30483 ≤ asin a ∨ asin a ≤ -30483 ∨ 30483 ≤ acos a ∨ acos a ≤ -30483) := by
  have hm := nabs_bd a
  have hz : anorm (102944 - nabs a) = 102944 - nabs a := by
    unfold anorm
    generalize nabs a = m at *
    have : (102944 - m).tmod 411776 = 102944 - m := by
      rcases Int.le_total 0 (102944 - m) with h | h
      · exact Int.tmod_eq_of_lt h (by omega)
      · have e : (102944 - m).tmod 411776 = -((-(102944 - m)).tmod 411776) := by rw [Int.neg_tmod]; omega
        rw [e, Int.tmod_eq_of_lt (by omega) (by omega)]; omega
    rw [this, if_neg (by omega), if_neg (by omega)]
  have hn : nabs (102944 - nabs a) = if 102944 - nabs a < 0 then -(102944 - nabs a) else 102944 - nabs a := by
    show (if anorm (102944 - nabs a) < 0 then -anorm (102944 - nabs a) else anorm (102944 - nabs a)) = _
    rw [hz]
  have hc : acos a = asin (102944 - nabs a) := rfl
  have q1 := sinq_q (x := if 102944 < nabs a then 205888 - nabs a else nabs a) (by split <;> omega) (by split <;> omega)
  rw [hc]
  unfold asin
  rw [hz, hn]
  generalize hN : nabs a = m at *
  have q2 := sinq_q (x := if 102944 - m < 0 then -(102944 - m) else 102944 - m) (by split <;> omega) (by split <;> omega)
  have hle : ¬ 102944 < (if 102944 - m < 0 then -(102944 - m) else 102944 - m) := by split <;> omega
  rw [if_neg hle]
  have hor : 51472 ≤ (if 102944 < m then 205888 - m else m) ∨ 51472 ≤ (if 102944 - m < 0 then -(102944 - m) else 102944 - m) := by split <;> split <;> omega
  generalize sinq (if 102944 < m then 205888 - m else m) = S at *
  generalize sinq (if 102944 - m < 0 then -(102944 - m) else 102944 - m) = T at *
  refine ⟨by split <;> omega, by split <;> omega, ?_⟩
  rcases hor with h | h
  · have := q1.2.2 h; split <;> omega
  · have := q2.2.2 h
    by_cases c : 102944 - m < 0
    · rw [if_pos c]; omega
    · rw [if_neg c]; omega
end Go.Carom

/-
  The plain law of a shape's box: a point that a shape contains lies in its box. Conditions: none; no program in sight.
-/
namespace Go.Carom
open Go Go.AL

/-! ### how long a turned vector is -/
theorem sq_low {m C l : Int} (h : 2 * m ≤ 131072 * C + l) (h' : 131072 * C - l ≤ 2 * m) (hC : -l ≤ C) (hC' : C ≤ l) : 4294967296 * (C * C) - 65536 * (l * l) ≤ m * m := by
  obtain ⟨d, rfl⟩ : ∃ d, m = 65536 * C + d := ⟨m - 65536 * C, by omega⟩
  have h1 := mul_bd (A := l) (B := l) hC hC' (b := 2 * d) (by omega) (by omega)
  have h2 := sq_nonneg' d
  have e : (65536 * C + d) * (65536 * C + d) = 4294967296 * (C * C) + 65536 * (C * (2 * d)) + d * d := by grind
  omega
theorem fdiv_l {x l : Int} (hl : 1 ≤ l) (hl' : l ≤ 150000) (h : -l ≤ x) (h' : x ≤ l) : 2 * (fdiv x l * l) ≤ 131072 * x + l ∧ 131072 * x - l ≤ 2 * (fdiv x l * l) := by
  have hs := rdiv_spec (n := x * 65536) (d := l) hl (by omega) (by omega) (by omega)
  have hb := rdiv_abs (n := x * 65536) (d := l) (m := 65536) hl (by omega) (by omega) (by omega) (by omega) (by omega) (by omega)
  unfold fdiv
  rw [sat_id (x := l) (by omega) (by omega), if_neg (by omega), if_neg (by omega), sat_id (x := x) (by omega) (by omega), sat_id (by omega) (by omega)]
  omega
theorem rot_len (a : Int) : 4294836224 ≤ rotc a * rotc a + rots a * rots a := by
  obtain ⟨hs, hc, hbig⟩ := sc_big a
  have q1 := mul_bd (A := 102873) (B := 102873) hc.1 hc.2 hc.1 hc.2
  have q2 := mul_bd (A := 102873) (B := 102873) hs.1 hs.2 hs.1 hs.2
  have h0 := sq_nonneg' (acos a)
  have h1 := sq_nonneg' (asin a)
  have hsp : 0 ≤ rotl a ∧ rotl a * rotl a ≤ acos a * acos a + asin a * asin a ∧ _ := isqrt_spec (by omega) (by omega)
  have hl : ∀ z : Int, z * z ≤ acos a * acos a + asin a * asin a → 0 ≤ z → z ≤ rotl a := fun z hz hz0 => isq_le (by omega) (by omega) hz0 hz
  have hu : rotl a < 150000 := sq_lt hsp.1 (by omega) (by omega)
  have c1 : acos a ≤ rotl a := by
    by_cases c : 0 ≤ acos a
    · exact hl _ (by omega) c
    · omega
  have c2 : -acos a ≤ rotl a := by
    by_cases c : 0 ≤ -acos a
    · exact hl _ (by rw [Int.neg_mul_neg]; omega) c
    · omega
  have s1 : asin a ≤ rotl a := by
    by_cases c : 0 ≤ asin a
    · exact hl _ (by omega) c
    · omega
  have s2 : -asin a ≤ rotl a := by
    by_cases c : 0 ≤ -asin a
    · exact hl _ (by rw [Int.neg_mul_neg]; omega) c
    · omega
  have ep : 1 ≤ rotl a := by omega
  have f1 := fdiv_l (x := acos a) ep (by omega) (by omega) c1
  have f2 := fdiv_l (x := asin a) ep (by omega) (by omega) s1
  have ec : fdiv (acos a) (rotl a) = rotc a := rfl
  have es : fdiv (asin a) (rotl a) = rots a := rfl
  rw [ec] at f1
  rw [es] at f2
  clear hl hbig q1 q2 ec es
  generalize rotc a = c at *
  generalize rots a = s at *
  generalize acos a = C at *
  generalize asin a = S at *
  generalize rotl a = l at *
  have g1 := sq_low f1.1 f1.2 (by omega) c1
  have g2 := sq_low f2.1 f2.2 (by omega) s1
  have e1 : c * l * (c * l) + s * l * (s * l) = (c * c + s * s) * (l * l) := by grind
  have hll : 1 * 1 ≤ l * l := Int.mul_le_mul ep ep (by omega) (by omega)
  have hq : ¬ c * c + s * s ≤ 4294836223 := fun h => by
    have := Int.mul_le_mul_of_nonneg_right h (show 0 ≤ l * l by omega)
    omega
  omega

/-! ### products of sums -/
theorem one_bd {P L : Int} (g : Int) (h : -L ≤ P) (h' : P ≤ L) : ∃ g', (g' = g ∨ g' = -g) ∧ -(L * g') ≤ P * g ∧ P * g ≤ L * g' := by
  rcases Int.le_total 0 g with hg | hg
  · refine ⟨g, .inl rfl, ?_, Int.mul_le_mul_of_nonneg_right h' hg⟩
    have := Int.mul_le_mul_of_nonneg_right h hg
    rw [Int.neg_mul] at this; exact this
  · have hg' : 0 ≤ -g := by omega
    refine ⟨-g, .inr rfl, ?_, ?_⟩
    · have := Int.mul_le_mul_of_nonneg_right h' hg'
      have e : P * -g = -(P * g) := Int.mul_neg _ _
      omega
    · have := Int.mul_le_mul_of_nonneg_right h hg'
      have e : P * -g = -(P * g) := Int.mul_neg _ _
      have e' : -L * -g = -(L * -g) := Int.neg_mul _ _
      omega
theorem two_bd {P M g h L B : Int} (hP : -L ≤ P ∧ P ≤ L) (hM : -L ≤ M ∧ M ≤ L) (h1 : g + h ≤ B) (h2 : g - h ≤ B) (h3 : -g + h ≤ B) (h4 : -g - h ≤ B) : -(L * B) ≤ P * g + M * h ∧ P * g + M * h ≤ L * B := by
  obtain ⟨g', eg, a1, a2⟩ := one_bd g hP.1 hP.2
  obtain ⟨h', eh, b1, b2⟩ := one_bd h hM.1 hM.2
  have hB : g' + h' ≤ B := by omega
  have := Int.mul_le_mul_of_nonneg_left hB (show 0 ≤ L by omega)
  rw [Int.mul_add] at this
  omega

/-! ### a turned and rounded vertex -/
theorem rt_err (a : Int) {x y : Int} (h : -1048576 ≤ x) (h' : x ≤ 1048576) (g : -1048576 ≤ y) (g' : y ≤ 1048576) :
    ∃ e f : Int, (-32768 ≤ e ∧ e ≤ 32768) ∧ (-32768 ≤ f ∧ f ≤ 32768) ∧ 65536 * rtx (rotc a) (rots a) x y = rotc a * x - rots a * y + e ∧ 65536 * rty (rotc a) (rots a) x y = rots a * x + rotc a * y + f := by
  obtain ⟨⟨c1, c2⟩, ⟨s1, s2⟩⟩ := rot_bd a
  unfold rtx rty
  rw [sat_id (x := rotc a) (by omega) (by omega), sat_id (x := rots a) (by omega) (by omega), sat_id (x := x) (by omega) (by omega), sat_id (x := y) (by omega) (by omega)]
  have m1 := mul_bd (A := 65536) (B := 1048576) c1 c2 h h'
  have m2 := mul_bd (A := 65536) (B := 1048576) c1 c2 g g'
  have m3 := mul_bd (A := 65536) (B := 1048576) s1 s2 h h'
  have m4 := mul_bd (A := 65536) (B := 1048576) s1 s2 g g'
  have key : ∀ n : Int, -137438953472 ≤ n → n ≤ 137438953472 → ∃ e : Int, (-32768 ≤ e ∧ e ≤ 32768) ∧ 65536 * prd n = n + e := fun n hn hn' => by
    have hb := rdiv_abs (n := n) (d := 65536) (m := 2097152) (by omega) (by omega) (by omega) (by omega) (by omega) (by omega) (by omega)
    have hs := rdiv_spec (n := n) (d := 65536) (by omega) (by omega) (by omega) (by omega)
    unfold prd
    rw [sat_id (by omega) (by omega)]
    exact ⟨65536 * rdiv n 65536 - n, by omega, by omega⟩
  obtain ⟨e, he, he'⟩ := key (rotc a * x - rots a * y) (by omega) (by omega)
  obtain ⟨f, hf, hf'⟩ := key (rots a * x + rotc a * y) (by omega) (by omega)
  exact ⟨e, f, he, hf, he', hf'⟩
theorem xy_bd {c s x y : Int} (hc : -65536 ≤ c ∧ c ≤ 65536) (hs : -65536 ≤ s ∧ s ≤ 65536) (hx : -1048576 ≤ x ∧ x ≤ 1048576) (hy : -1048576 ≤ y ∧ y ≤ 1048576) :
    (-137438953472 ≤ (c * x - s * y) + (s * x + c * y) ∧ (c * x - s * y) + (s * x + c * y) ≤ 137438953472) ∧ (-137438953472 ≤ (c * x - s * y) - (s * x + c * y) ∧ (c * x - s * y) - (s * x + c * y) ≤ 137438953472) := by
  have h1 := two_bd (P := x) (M := y) (g := c + s) (h := c - s) (L := 1048576) (B := 131072) hx hy (by omega) (by omega) (by omega) (by omega)
  have h2 := two_bd (P := x) (M := y) (g := c - s) (h := -(c + s)) (L := 1048576) (B := 131072) hx hy (by omega) (by omega) (by omega) (by omega)
  have e1 : x * (c + s) + y * (c - s) = (c * x - s * y) + (s * x + c * y) := by grind
  have e2 : x * (c - s) + y * (-(c + s)) = (c * x - s * y) - (s * x + c * y) := by grind
  rw [e1] at h1
  rw [e2] at h2
  omega
theorem err_bd {X Y e f : Int} (h : -137438953472 ≤ X + Y ∧ X + Y ≤ 137438953472) (h' : -137438953472 ≤ X - Y ∧ X - Y ≤ 137438953472) (he : -32768 ≤ e ∧ e ≤ 32768) (hf : -32768 ≤ f ∧ f ≤ 32768) :
    -4503599627370496 ≤ X * f - Y * e ∧ X * f - Y * e ≤ 4503599627370496 := by
  have h1 := two_bd (P := X + Y) (M := X - Y) (g := f - e) (h := f + e) (L := 137438953472) (B := 65536) h h' (by omega) (by omega) (by omega) (by omega)
  have e1 : (X + Y) * (f - e) + (X - Y) * (f + e) = 2 * (X * f - Y * e) := by grind
  rw [e1] at h1
  omega
/-- the cross product of two turned and rounded vertices. -/
theorem cr_turn {c s x y x' y' e f e' f' ux uy ux' uy' : Int} (hc : -65536 ≤ c ∧ c ≤ 65536) (hs : -65536 ≤ s ∧ s ≤ 65536) (hx : -1048576 ≤ x ∧ x ≤ 1048576) (hy : -1048576 ≤ y ∧ y ≤ 1048576)
    (hx' : -1048576 ≤ x' ∧ x' ≤ 1048576) (hy' : -1048576 ≤ y' ∧ y' ≤ 1048576) (he : -32768 ≤ e ∧ e ≤ 32768) (hf : -32768 ≤ f ∧ f ≤ 32768) (he' : -32768 ≤ e' ∧ e' ≤ 32768) (hf' : -32768 ≤ f' ∧ f' ≤ 32768)
    (h1 : 65536 * ux = c * x - s * y + e) (h2 : 65536 * uy = s * x + c * y + f) (h3 : 65536 * ux' = c * x' - s * y' + e') (h4 : 65536 * uy' = s * x' + c * y' + f') :
    (c * c + s * s) * (x * y' - y * x') - 9007201402224640 ≤ 4294967296 * (ux * uy' - uy * ux') := by
  have b1 := xy_bd hc hs hx hy
  have b2 := xy_bd hc hs hx' hy'
  have k1 := err_bd b1.1 b1.2 he' hf'
  have k2 := err_bd b2.1 b2.2 he hf
  have m1 := mul_bd (A := 32768) (B := 32768) he.1 he.2 hf'.1 hf'.2
  have m2 := mul_bd (A := 32768) (B := 32768) hf.1 hf.2 he'.1 he'.2
  have e0 : (c * x - s * y) * (s * x' + c * y') - (s * x + c * y) * (c * x' - s * y') = (c * c + s * s) * (x * y' - y * x') := by grind
  have e1 : 4294967296 * (ux * uy' - uy * ux') = (65536 * ux) * (65536 * uy') - (65536 * uy) * (65536 * ux') := by grind
  rw [h1, h2, h3, h4] at e1
  generalize c * x - s * y = X at *
  generalize s * x + c * y = Y at *
  generalize c * x' - s * y' = X' at *
  generalize s * x' + c * y' = Y' at *
  have e2 : (X + e) * (Y' + f') - (Y + f) * (X' + e') = (X * Y' - Y * X') + (X * f' - Y * e') - (X' * f - Y' * e) + e * f' - f * e' := by grind
  omega

/-! ### areas -/
def cr2 (X Y : Nat → Int) (i j : Nat) : Int := X i * Y j - Y i * X j
def fan1 (X Y : Nat → Int) (m : Nat) : Int := (X (m + 1) - X 0) * (Y (m + 1 + 1) - Y 0) - (Y (m + 1) - Y 0) * (X (m + 1 + 1) - X 0)
def fan2 (X Y : Nat → Int) : Nat → Int
  | 0 => 0
  | m + 1 => fan2 X Y m + fan1 X Y m
def sh2 (X Y : Nat → Int) : Nat → Int
  | 0 => 0
  | m + 1 => sh2 X Y m + cr2 X Y m (m + 1)
theorem fan_sh (X Y : Nat → Int) (m : Nat) : fan2 X Y m = sh2 X Y (m + 1) + cr2 X Y (m + 1) 0 := by
  induction m with
  | zero =>
    show (0 : Int) = 0 + cr2 X Y 0 (0 + 1) + cr2 X Y (0 + 1) 0
    unfold cr2; grind
  | succ m ih =>
    rw [fan2, ih, show sh2 X Y (m + 1 + 1) = sh2 X Y (m + 1) + cr2 X Y (m + 1) (m + 1 + 1) from rfl]
    unfold cr2 fan1
    generalize sh2 X Y (m + 1) = S
    generalize X (m + 1) = a
    generalize Y (m + 1) = b
    generalize X (m + 1 + 1) = c
    generalize Y (m + 1 + 1) = d
    generalize X 0 = e
    generalize Y 0 = f
    grind
theorem fan2_mv {X Y X' Y' : Nat → Int} {p q : Int} (m : Nat) (h : ∀ i, i ≤ m + 1 → X' i = X i + p ∧ Y' i = Y i + q) : fan2 X' Y' m = fan2 X Y m := by
  induction m with
  | zero => rfl
  | succ m ih =>
    rw [fan2, fan2, ih fun i hi => h i (by omega)]
    have h0 := h 0 (by omega)
    have h1 := h (m + 1) (by omega)
    have h2 := h (m + 1 + 1) (by omega)
    unfold fan1
    rw [h0.1, h0.2, h1.1, h1.2, h2.1, h2.2, Int.add_sub_add_right, Int.add_sub_add_right, Int.add_sub_add_right, Int.add_sub_add_right]
theorem fan2_zero {X Y : Nat → Int} (m : Nat) (h : ∀ i, i < m → fan1 X Y i = 0) : fan2 X Y m = 0 := by
  induction m with
  | zero => rfl
  | succ m ih => rw [fan2, ih fun i hi => h i (by omega), h m (by omega)]; rfl
theorem sh2_turn {X Y U V : Nat → Int} {q : Int} (m : Nat) (h : ∀ i j, i ≤ m → j ≤ m → q * cr2 X Y i j - 9007201402224640 ≤ 4294967296 * cr2 U V i j) :
    q * sh2 X Y m - 9007201402224640 * (m : Int) ≤ 4294967296 * sh2 U V m := by
  induction m with
  | zero => show q * 0 - 9007201402224640 * 0 ≤ 4294967296 * 0; omega
  | succ m ih =>
    have h1 := ih fun i j hi hj => h i j (by omega) (by omega)
    have h2 := h m (m + 1) (by omega) (by omega)
    rw [sh2, sh2, Int.mul_add, Int.mul_add]
    omega
theorem fan2_turn {X Y U V : Nat → Int} {q : Int} (m : Nat) (h : ∀ i j, i ≤ m + 1 → j ≤ m + 1 → q * cr2 X Y i j - 9007201402224640 ≤ 4294967296 * cr2 U V i j) :
    q * fan2 X Y m - 9007201402224640 * ((m : Int) + 2) ≤ 4294967296 * fan2 U V m := by
  have h1 := sh2_turn (m + 1) h
  have h2 := h (m + 1) 0 (by omega) (by omega)
  rw [fan_sh, fan_sh, Int.mul_add, Int.mul_add]
  omega
/-- the program's sum of rounded areas. -/
theorem fsum_fan {ps : List (Int × Int)} (h : allIR ps = true) (h8 : ps.length ≤ 8) (m : Nat) (hm : m + 1 < ps.length) :
    (65536 * fsum ps m ≤ fan2 (vx ps) (vy ps) m + 32768 * (m : Int)) ∧ -(1000000000000 * (m : Int)) ≤ fsum ps m ∧ fsum ps m ≤ 1000000000000 * (m : Int) := by
  induction m with
  | zero => exact ⟨by show 65536 * (0 : Int) ≤ 0 + 32768 * 0; omega, by show -(1000000000000 * (0 : Int)) ≤ 0; omega, by show (0 : Int) ≤ 1000000000000 * 0; omega⟩
  | succ m ih =>
    obtain ⟨i1, i2, i3⟩ := ih (by omega)
    obtain ⟨⟨a1, a2⟩, a3, a4⟩ := inr_bd h (i := 0) (by omega)
    obtain ⟨⟨b1, b2⟩, b3, b4⟩ := inr_bd h (i := m + 1) (by omega)
    obtain ⟨⟨c1, c2⟩, c3, c4⟩ := inr_bd h (i := m + 1 + 1) (by omega)
    have e1 : trx ps (m + 1) = vx ps (m + 1) - vx ps 0 := w64_id (by omega) (by omega)
    have e2 : try_ ps (m + 1) = vy ps (m + 1) - vy ps 0 := w64_id (by omega) (by omega)
    have e3 : trx ps (m + 1 + 1) = vx ps (m + 1 + 1) - vx ps 0 := w64_id (by omega) (by omega)
    have e4 : try_ ps (m + 1 + 1) = vy ps (m + 1 + 1) - vy ps 0 := w64_id (by omega) (by omega)
    have m1 := mul_bd (A := 2097152) (B := 2097152) (a := vx ps (m + 1) - vx ps 0) (b := vy ps (m + 1 + 1) - vy ps 0) (by omega) (by omega) (by omega) (by omega)
    have m2 := mul_bd (A := 2097152) (B := 2097152) (a := vy ps (m + 1) - vy ps 0) (b := vx ps (m + 1 + 1) - vx ps 0) (by omega) (by omega) (by omega) (by omega)
    have ec : cr ps (m + 1) = rdiv (fan1 (vx ps) (vy ps) m) 65536 := by
      unfold cr fan1
      rw [e1, e2, e3, e4, w64_id (n := (vx ps (m + 1) - vx ps 0) * (vy ps (m + 1 + 1) - vy ps 0)) (by omega) (by omega), w64_id (n := (vy ps (m + 1) - vy ps 0) * (vx ps (m + 1 + 1) - vx ps 0)) (by omega) (by omega), w64_id (by omega) (by omega)]
    have hf : -8796093022208 ≤ fan1 (vx ps) (vy ps) m ∧ fan1 (vx ps) (vy ps) m ≤ 8796093022208 := by unfold fan1; omega
    have hs := rdiv_spec (n := fan1 (vx ps) (vy ps) m) (d := 65536) (by omega) (by omega) (by omega) (by omega)
    have e5 : fsum ps (m + 1) = fsum ps m + cr ps (m + 1) := w64_id (by rw [ec]; omega) (by rw [ec]; omega)
    rw [e5, fan2, ec]
    omega
/-- the area of a valid polygon, turned and rounded, is not zero. -/
theorem fan_pos {k r : Int} {ps : List (Int × Int)} (px py a : Int) (hv : sval k r ps = 0) (h3 : k = 3) (hp : -268435456 ≤ px ∧ px ≤ 268435456) (hq : -268435456 ≤ py ∧ py ≤ 268435456) :
    0 < fan2 (vx (core k r ps px py a)) (vy (core k r ps px py a)) (ps.length - 2) := by
  have ok := sval_ok hv
  have hn := ok.n3 h3
  have hpb := ok.pb
  unfold spolB at hpb
  simp only [h3, decide_true, Bool.true_and, Bool.or_eq_false_iff, decide_eq_false_iff_not, Bool.not_eq_false'] at hpb
  obtain ⟨⟨hcv, _⟩, har⟩ := hpb
  have ir := ok.ir
  have hfs := fsum_fan ir hn.2 (ps.length - 2) (by omega)
  have hsum : 511 ≤ fsum ps (ps.length - 2) := by
    unfold area at har
    rw [if_pos hcv] at har
    have := rdiv_spec (n := fsum ps (ps.length - 2)) (d := 2) (by omega) (by omega) (by omega) (by omega)
    omega
  have hfan : 33292288 ≤ fan2 (vx ps) (vy ps) (ps.length - 2) := by omega
  have hrl := rot_len a
  have hrb := rot_bd a
  have hU : fan2 (vx (core k r ps px py a)) (vy (core k r ps px py a)) (ps.length - 2) = fan2 (fun i => rtx (rotc a) (rots a) (vx ps i) (vy ps i)) (fun i => rty (rotc a) (rots a) (vx ps i) (vy ps i)) (ps.length - 2) := by
    refine fan2_mv (p := px) (q := py) _ fun i hi => ?_
    have hi : i < ps.length := by omega
    obtain ⟨⟨x1, x2⟩, ⟨y1, y2⟩⟩ := inr_bd ir hi
    obtain ⟨⟨c1, c2⟩, ⟨s1, s2⟩⟩ := rt_bd a x1 x2 y1 y2
    rw [core_if hv, vx_map _ _ _ _ hi, vy_map _ _ _ _ hi]
    unfold apx apy
    have e : ∀ r p : Int, -2097152 ≤ r → r ≤ 2097152 → -268435456 ≤ p → p ≤ 268435456 → fadd r p = r + p := fun r p h1 h2 h3 h4 => by
      unfold fadd; rw [sat_id (x := r) (by omega) (by omega), sat_id (x := p) (by omega) (by omega), sat_id (by omega) (by omega)]
    exact ⟨e _ px c1 c2 hp.1 hp.2, e _ py s1 s2 hq.1 hq.2⟩
  rw [hU]
  have ht := fan2_turn (X := vx ps) (Y := vy ps) (U := fun i => rtx (rotc a) (rots a) (vx ps i) (vy ps i)) (V := fun i => rty (rotc a) (rots a) (vx ps i) (vy ps i)) (q := rotc a * rotc a + rots a * rots a) (ps.length - 2) fun i j hi hj => by
    obtain ⟨⟨x1, x2⟩, ⟨y1, y2⟩⟩ := inr_bd ir (i := i) (by omega)
    obtain ⟨⟨x3, x4⟩, ⟨y3, y4⟩⟩ := inr_bd ir (i := j) (by omega)
    obtain ⟨e, f, he, hf, h1, h2⟩ := rt_err a x1 x2 y1 y2
    obtain ⟨e', f', he', hf', h1', h2'⟩ := rt_err a x3 x4 y3 y4
    exact cr_turn hrb.1 hrb.2 ⟨x1, x2⟩ ⟨y1, y2⟩ ⟨x3, x4⟩ ⟨y3, y4⟩ he hf he' hf' h1 h2 h1' h2'
  have hm := Int.mul_le_mul hrl hfan (by omega) (by omega)
  have hc : ((ps.length - 2 : Nat) : Int) ≤ 6 := by omega
  generalize fan2 (fun i => rtx (rotc a) (rots a) (vx ps i) (vy ps i)) _ _ = F at *
  generalize (rotc a * rotc a + rots a * rots a) * fan2 (vx ps) (vy ps) (ps.length - 2) = Q at *
  omega

/-! ### turning around a point -/
theorem cyc_step {a b c x y z : Int} (hb : 0 < b) (ha : 0 < a) (hc : 0 < c) (h : b * x ≤ a * y) (h' : c * y ≤ b * z) : c * x ≤ a * z := by
  have h1 := Int.mul_le_mul_of_nonneg_left h (show 0 ≤ c by omega)
  have h2 := Int.mul_le_mul_of_nonneg_left h' (show 0 ≤ a by omega)
  have e1 : c * (b * x) = b * (c * x) := by grind
  have e2 : c * (a * y) = a * (c * y) := by grind
  have e3 : a * (b * z) = b * (a * z) := by grind
  have h3 : b * (c * x) ≤ b * (a * z) := by omega
  exact Int.le_of_mul_le_mul_left h3 hb
theorem cyc_up {n : Nat} {a b : Nat → Int} (ha : ∀ i, i < n → 0 < a i) (h : ∀ i, i < n → a ((i + 1) % n) * b i ≤ a i * b ((i + 1) % n)) (i : Nat) : ∀ d, i + d < n → a (i + d) * b i ≤ a i * b (i + d) := by
  intro d
  induction d with
  | zero => intro _; exact Int.le_refl _
  | succ d ih =>
    intro hd
    have h1 := ih (by omega)
    have h2 := h (i + d) (by omega)
    rw [Nat.mod_eq_of_lt (by omega)] at h2
    exact cyc_step (ha _ (by omega)) (ha _ (by omega)) (ha _ hd) h1 h2
theorem cyc {n : Nat} {a b : Nat → Int} (ha : ∀ i, i < n → 0 < a i) (h : ∀ i, i < n → a ((i + 1) % n) * b i ≤ a i * b ((i + 1) % n)) {i j : Nat} (hi : i < n) (hj : j < n) : a i * b j = a j * b i := by
  have up : ∀ i j, i ≤ j → j < n → a j * b i ≤ a i * b j := fun i j hij hj => by
    have := cyc_up ha h i (j - i) (by omega)
    rwa [show i + (j - i) = j by omega] at this
  have wrap : a 0 * b (n - 1) ≤ a (n - 1) * b 0 := by
    have := h (n - 1) (by omega)
    rwa [show n - 1 + 1 = n by omega, Nat.mod_self] at this
  have dn : ∀ i j, i ≤ j → j < n → a i * b j ≤ a j * b i := fun i j hij hj => by
    have h1 := up j (n - 1) (by omega) (by omega)
    have h2 := up 0 i (by omega) (by omega)
    have h3 := cyc_step (ha _ (by omega)) (ha _ (by omega)) (ha 0 (by omega)) h1 wrap
    exact cyc_step (ha 0 (by omega)) (ha _ (by omega)) (ha _ (by omega)) h3 h2
  rcases Nat.le_total i j with hij | hij
  · exact Int.le_antisymm (dn i j hij hj) (up i j hij hj)
  · exact (Int.le_antisymm (dn j i hij hi) (up j i hij hi)).symm

/-- a point that a polygon contains is not beside all of its vertices. -/
theorem pol_not {k r : Int} {ps : List (Int × Int)} {px py a x y : Int} (hv : sval k r ps = 0) (h3 : k = 3) (hp : -268435456 ≤ px ∧ px ≤ 268435456) (hq : -268435456 ≤ py ∧ py ≤ 268435456)
    (hc : polC (core k r ps px py a) x y = true) {A B : Nat → Int} (hA : ∀ i, i < ps.length → 0 < A i)
    (hAB : ∀ i j, i < ps.length → j < ps.length → A i * B j - A j * B i = (sat x - vx (core k r ps px py a) i) * (sat y - vy (core k r ps px py a) j) - (sat x - vx (core k r ps px py a) j) * (sat y - vy (core k r ps px py a) i)) : False := by
  have hpos := fan_pos px py a hv h3 hp hq
  have hs := core_sat k r ps px py a
  have l1 := core_len_if (px := px) (py := py) (a := a) hv
  have hn := (sval_ok hv).n3 h3
  generalize core k r ps px py a = c at *
  unfold polC at hc
  rw [List.all_eq_true, l1] at hc
  have hor : ∀ i, i < ps.length → A ((i + 1) % ps.length) * B i ≤ A i * B ((i + 1) % ps.length) := fun i hi => by
    have h1 := hc i (List.mem_range.2 hi)
    have hj := imod_lt hi
    have h2 := hAB i _ hi hj
    unfold orE orient area2 at h1
    rw [l1, (hs i).1, (hs i).2, (hs _).1, (hs _).2] at h1
    have e : (vx c ((i + 1) % ps.length) - vx c i) * (sat y - vy c i) - (vy c ((i + 1) % ps.length) - vy c i) * (sat x - vx c i) = (sat x - vx c i) * (sat y - vy c ((i + 1) % ps.length)) - (sat x - vx c ((i + 1) % ps.length)) * (sat y - vy c i) := by grind
    rw [e, ← h2] at h1
    simp only [Bool.not_eq_true', decide_eq_false_iff_not] at h1
    split at h1
    · omega
    · split at h1
      · omega
      · omega
  have hz := fan2_zero (X := vx c) (Y := vy c) (ps.length - 2) fun i hi => by
    have key : ∀ i j, i < ps.length → j < ps.length → (sat x - vx c i) * (sat y - vy c j) - (sat x - vx c j) * (sat y - vy c i) = 0 := fun i j hi hj => by
      rw [← hAB i j hi hj, cyc hA hor hi hj, Int.sub_self]
    have k1 := key 0 (i + 1) (by omega) (by omega)
    have k2 := key 0 (i + 1 + 1) (by omega) (by omega)
    have k3 := key (i + 1) (i + 1 + 1) (by omega) (by omega)
    unfold fan1
    have e : (vx c (i + 1) - vx c 0) * (vy c (i + 1 + 1) - vy c 0) - (vy c (i + 1) - vy c 0) * (vx c (i + 1 + 1) - vx c 0)
      = ((sat x - vx c 0) * (sat y - vy c (i + 1)) - (sat x - vx c (i + 1)) * (sat y - vy c 0)) - ((sat x - vx c 0) * (sat y - vy c (i + 1 + 1)) - (sat x - vx c (i + 1 + 1)) * (sat y - vy c 0)) + ((sat x - vx c (i + 1)) * (sat y - vy c (i + 1 + 1)) - (sat x - vx c (i + 1 + 1)) * (sat y - vy c (i + 1))) := by grind
    rw [e, k1, k2, k3]; rfl
  omega
/-- near the core along both axes. -/
structure Near (c : List (Int × Int)) (r X Y : Int) : Prop where
  x1 : ∃ i, i < c.length ∧ vx c i - r ≤ X
  x2 : ∃ i, i < c.length ∧ X ≤ vx c i + r
  y1 : ∃ i, i < c.length ∧ vy c i - r ≤ Y
  y2 : ∃ i, i < c.length ∧ Y ≤ vy c i + r
theorem pol_near {k r : Int} {ps : List (Int × Int)} {px py a x y : Int} (hv : sval k r ps = 0) (h3 : k = 3) (hp : -268435456 ≤ px ∧ px ≤ 268435456) (hq : -268435456 ≤ py ∧ py ≤ 268435456)
    (hc : polC (core k r ps px py a) x y = true) (hr : 0 ≤ r) : Near (core k r ps px py a) r (sat x) (sat y) := by
  have l1 := core_len_if (px := px) (py := py) (a := a) hv
  have no := @pol_not k r ps px py a x y hv h3 hp hq hc
  generalize core k r ps px py a = c at *
  refine ⟨?_, ?_, ?_, ?_⟩ <;> refine Classical.byContradiction fun hno => ?_
  · have h : ∀ i, i < ps.length → 0 < vx c i - sat x := fun i hi => Int.not_le.1 fun h => hno ⟨i, by omega, by omega⟩
    exact no (A := fun i => vx c i - sat x) (B := fun i => vy c i - sat y) h fun i j _ _ => by grind
  · have h : ∀ i, i < ps.length → 0 < sat x - vx c i := fun i hi => Int.not_le.1 fun h => hno ⟨i, by omega, by omega⟩
    exact no (A := fun i => sat x - vx c i) (B := fun i => sat y - vy c i) h fun i j _ _ => rfl
  · have h : ∀ i, i < ps.length → 0 < vy c i - sat y := fun i hi => Int.not_le.1 fun h => hno ⟨i, by omega, by omega⟩
    exact no (A := fun i => vy c i - sat y) (B := fun i => sat x - vx c i) h fun i j _ _ => by grind
  · have h : ∀ i, i < ps.length → 0 < sat y - vy c i := fun i hi => Int.not_le.1 fun h => hno ⟨i, by omega, by omega⟩
    exact no (A := fun i => sat y - vy c i) (B := fun i => vx c i - sat x) h fun i j _ _ => by grind

/-! ### round shapes -/
theorem len_small {X Y r : Int} (hr : 0 ≤ r) (hr' : r ≤ 524288) (h : sat (isqrt (X * X + Y * Y)) ≤ r) (hX : -1073741822 ≤ X ∧ X ≤ 1073741822) (hY : -1073741822 ≤ Y ∧ Y ≤ 1073741822) : (-r ≤ X ∧ X ≤ r) ∧ -r ≤ Y ∧ Y ≤ r := by
  have h0 := sq_nonneg' X
  have h1 := sq_nonneg' Y
  have m1 := mul_bd (A := 1073741822) (B := 1073741822) hX.1 hX.2 hX.1 hX.2
  have m2 := mul_bd (A := 1073741822) (B := 1073741822) hY.1 hY.2 hY.1 hY.2
  have hq : isqrt (X * X + Y * Y) ≤ r := by
    generalize isqrt (X * X + Y * Y) = w at *
    unfold sat at h
    (repeat' split at h) <;> omega
  have hl : ∀ z : Int, z * z ≤ X * X + Y * Y → 0 ≤ z → z ≤ r := fun z hz h0 => Int.le_trans (isq_le (by omega) (by omega) h0 hz) hq
  have key : ∀ z : Int, z * z ≤ X * X + Y * Y → -r ≤ z ∧ z ≤ r := fun z hz => by
    constructor
    · by_cases c : 0 ≤ -z
      · have := hl (-z) (by rw [Int.neg_mul_neg]; exact hz) c; omega
      · omega
    · by_cases c : 0 ≤ z
      · exact hl z hz c
      · omega
  exact ⟨key X (by omega), key Y (by omega)⟩
theorem dsq_near {x y u v r : Int} (hr : 0 ≤ r) (hr' : r ≤ 524288) (h : sat (isqrt (dsq x y u v)) ≤ r) : (-r ≤ sat u - sat x ∧ sat u - sat x ≤ r) ∧ -r ≤ sat v - sat y ∧ sat v - sat y ≤ r := by
  have a1 := dif_bd u x
  have a2 := dif_bd v y
  exact len_small hr hr' h a1 a2
theorem rnd_btw {d t : Int} (hd : -4194304 ≤ d) (hd' : d ≤ 4194304) (ht : 0 ≤ t) (ht' : t ≤ 65536) : (0 ≤ d → 0 ≤ fmul d t ∧ fmul d t ≤ d) ∧ (d ≤ 0 → d ≤ fmul d t ∧ fmul d t ≤ 0) := by
  unfold fmul
  rw [sat_id (x := d) (by omega) (by omega), sat_id (x := t) (by omega) (by omega)]
  have m := mul_bd (A := 4194304) (B := 65536) hd hd' (b := t) (by omega) ht'
  have hs := rdiv_spec (n := d * t) (d := 65536) (by omega) (by omega) (by omega) (by omega)
  have p1 : 0 ≤ d → 0 ≤ d * t ∧ d * t ≤ d * 65536 := fun h => ⟨Int.mul_nonneg h ht, Int.mul_le_mul_of_nonneg_left ht' h⟩
  have p2 : d ≤ 0 → d * 65536 ≤ d * t ∧ d * t ≤ 0 := fun h => by
    have h1 := Int.mul_le_mul_of_nonneg_left ht' (show 0 ≤ -d by omega)
    have h2 := Int.mul_nonneg (show 0 ≤ -d by omega) ht
    rw [Int.neg_mul] at h1 h2
    omega
  have hb : -4194304 ≤ rdiv (d * t) 65536 ∧ rdiv (d * t) 65536 ≤ 4194304 := by omega
  rw [sat_id (by omega) (by omega)]
  exact ⟨fun h => by have := p1 h; omega, fun h => by have := p2 h; omega⟩
theorem lerp_btw {a b t : Int} (ha : -270532608 ≤ a ∧ a ≤ 270532608) (hb : -270532608 ≤ b ∧ b ≤ 270532608) (hd : -4194304 ≤ b - a ∧ b - a ≤ 4194304) (ht : 0 ≤ t) (ht' : t ≤ 65536) :
    (a ≤ flerp a b t ∨ b ≤ flerp a b t) ∧ (flerp a b t ≤ a ∨ flerp a b t ≤ b) ∧ sat (flerp a b t) = flerp a b t := by
  have h := rnd_btw hd.1 hd.2 ht ht'
  unfold flerp
  have e1 : fsub b a = b - a := by unfold fsub; rw [sat_id (x := b) (by omega) (by omega), sat_id (x := a) (by omega) (by omega), sat_id (by omega) (by omega)]
  rw [e1]
  generalize fmul (b - a) t = F at *
  have hF : -4194304 ≤ F ∧ F ≤ 4194304 := by
    rcases Int.le_total 0 (b - a) with g | g
    · have := h.1 g; omega
    · have := h.2 g; omega
  have e2 : fadd a F = a + F := by unfold fadd; rw [sat_id (x := a) (by omega) (by omega), sat_id (x := F) (by omega) (by omega), sat_id (by omega) (by omega)]
  rw [e2]
  rcases Int.le_total 0 (b - a) with g | g
  · have := h.1 g; exact ⟨by omega, by omega, sat_id (by omega) (by omega)⟩
  · have := h.2 g; exact ⟨by omega, by omega, sat_id (by omega) (by omega)⟩
theorem cp_btw {ax ay bx byy : Int} (px py : Int) (ha : -270532608 ≤ ax ∧ ax ≤ 270532608) (hb : -270532608 ≤ bx ∧ bx ≤ 270532608) (ha' : -270532608 ≤ ay ∧ ay ≤ 270532608) (hb' : -270532608 ≤ byy ∧ byy ≤ 270532608)
    (hd : -4194304 ≤ bx - ax ∧ bx - ax ≤ 4194304) (hd' : -4194304 ≤ byy - ay ∧ byy - ay ≤ 4194304) :
    ((ax ≤ cpx ax ay bx byy px py ∨ bx ≤ cpx ax ay bx byy px py) ∧ (cpx ax ay bx byy px py ≤ ax ∨ cpx ax ay bx byy px py ≤ bx) ∧ sat (cpx ax ay bx byy px py) = cpx ax ay bx byy px py) ∧
    ((ay ≤ cpy ax ay bx byy px py ∨ byy ≤ cpy ax ay bx byy px py) ∧ (cpy ax ay bx byy px py ≤ ay ∨ cpy ax ay bx byy px py ≤ byy) ∧ sat (cpy ax ay bx byy px py) = cpy ax ay bx byy px py) := by
  have hf : 0 ≤ cpt ax ay bx byy px py ∧ cpt ax ay bx byy px py ≤ 65536 := frat_bd _ _
  have l1 := lerp_btw ha hb hd hf.1 hf.2
  have l2 := lerp_btw ha' hb' hd' hf.1 hf.2
  have s : ∀ z : Int, -270532608 ≤ z ∧ z ≤ 270532608 → sat z = z := fun z h => sat_id (by omega) (by omega)
  unfold cpx cpy
  rw [s ax ha, s bx hb, s ay ha', s byy hb']
  split
  · exact ⟨⟨by omega, by omega, s ax ha⟩, by omega, by omega, s ay ha'⟩
  · split
    · exact ⟨⟨by omega, by omega, s bx hb⟩, by omega, by omega, s byy hb'⟩
    · exact ⟨l1, l2⟩
theorem cp_pt (ax ay px py : Int) : cpx ax ay ax ay px py = sat ax ∧ cpy ax ay ax ay px py = sat ay := by
  have h : cpt ax ay ax ay px py = 0 := by unfold cpt; rw [dsq_self]; exact frat_n0 _
  unfold cpx cpy
  rw [if_pos h, if_pos h]
  exact ⟨rfl, rfl⟩
theorem segx_near {x y a b c d : Int} (h : segx x y x y a b c d = true) : (imin (sat a) (sat c) ≤ sat x ∧ sat x ≤ imax (sat a) (sat c)) ∧ imin (sat b) (sat d) ≤ sat y ∧ sat y ≤ imax (sat b) (sat d) := by
  unfold segx seg2 boverlaps bover at h
  rw [imin_self, imin_self, imax_self, imax_self] at h
  simp only [Bool.and_eq_true, decide_eq_true_eq] at h
  omega
theorem imin_or (a b : Int) : imin a b = a ∨ imin a b = b := by unfold imin; split <;> simp
/-- a point in a capsule. -/
theorem cap_near {c : List (Int × Int)} {r x y : Int} (hr : 0 ≤ r) (hr' : r ≤ 524288) (hc : NV c) (hl : c.length = 2) (hd : (-4194304 ≤ vx c 1 - vx c 0 ∧ vx c 1 - vx c 0 ≤ 4194304) ∧ -4194304 ≤ vy c 1 - vy c 0 ∧ vy c 1 - vy c 0 ≤ 4194304)
    (h : sdist x y x y (vx c 0) (vy c 0) (vx c 1) (vy c 1) ≤ r) : Near c r (sat x) (sat y) := by
  have s : ∀ z : Int, -270532608 ≤ z ∧ z ≤ 270532608 → sat z = z := fun z h => sat_id (by omega) (by omega)
  have h0 := hc 0
  have h1 := hc 1
  have sx0 := s _ h0.1
  have sy0 := s _ h0.2
  have sx1 := s _ h1.1
  have sy1 := s _ h1.2
  have near : ∀ X Y : Int, (vx c 0 ≤ X ∨ vx c 1 ≤ X) → (X ≤ vx c 0 ∨ X ≤ vx c 1) → (vy c 0 ≤ Y ∨ vy c 1 ≤ Y) → (Y ≤ vy c 0 ∨ Y ≤ vy c 1) → (-r ≤ X - sat x ∧ X - sat x ≤ r) → (-r ≤ Y - sat y ∧ Y - sat y ≤ r) → Near c r (sat x) (sat y) := fun X Y a1 a2 a3 a4 a5 a6 => by
    refine ⟨?_, ?_, ?_, ?_⟩
    · rcases a1 with g | g
      · exact ⟨0, by omega, by omega⟩
      · exact ⟨1, by omega, by omega⟩
    · rcases a2 with g | g
      · exact ⟨0, by omega, by omega⟩
      · exact ⟨1, by omega, by omega⟩
    · rcases a3 with g | g
      · exact ⟨0, by omega, by omega⟩
      · exact ⟨1, by omega, by omega⟩
    · rcases a4 with g | g
      · exact ⟨0, by omega, by omega⟩
      · exact ⟨1, by omega, by omega⟩
  have hseg : ∀ {u v : Int}, sat u = sat x → sat v = sat y → segx u v u v (vx c 0) (vy c 0) (vx c 1) (vy c 1) = true → Near c r (sat x) (sat y) := fun {u v} eu ev hs => by
    have hn := segx_near hs
    rw [sx0, sy0, sx1, sy1, eu, ev] at hn
    unfold imin imax at hn
    exact near (sat x) (sat y) (by omega) (by omega) (by omega) (by omega) (by omega) (by omega)
  unfold sdist at h
  split at h
  · rename_i hs; exact hseg rfl rfl hs
  · rw [cps_dist] at h
    rw [sx0, sy0, sx1, sy1] at h
    split at h
    · rename_i hs; exact hseg (sat_sat _) (sat_sat _) hs
    · rw [cbs_dist] at h
      have pick : sat (isqrt (cb0 x y (vx c 0) (vy c 0) (vx c 1) (vy c 1)).dist) ≤ r ∨ sat (isqrt (cb1 x y (vx c 0) (vy c 0) (vx c 1) (vy c 1)).dist) ≤ r ∨ sat (isqrt (cb2 x y x y (vx c 0) (vy c 0)).dist) ≤ r ∨ sat (isqrt (cb3 x y x y (vx c 1) (vy c 1)).dist) ≤ r := by
        rcases imin_or (imin (imin (cb0 x y (vx c 0) (vy c 0) (vx c 1) (vy c 1)).dist (cb1 x y (vx c 0) (vy c 0) (vx c 1) (vy c 1)).dist) (cb2 x y x y (vx c 0) (vy c 0)).dist) (cb3 x y x y (vx c 1) (vy c 1)).dist with e | e
        · rw [e] at h
          rcases imin_or (imin (cb0 x y (vx c 0) (vy c 0) (vx c 1) (vy c 1)).dist (cb1 x y (vx c 0) (vy c 0) (vx c 1) (vy c 1)).dist) (cb2 x y x y (vx c 0) (vy c 0)).dist with e | e
          · rw [e] at h
            rcases imin_or (cb0 x y (vx c 0) (vy c 0) (vx c 1) (vy c 1)).dist (cb1 x y (vx c 0) (vy c 0) (vx c 1) (vy c 1)).dist with e | e
            · rw [e] at h; exact .inl h
            · rw [e] at h; exact .inr (.inl h)
          · rw [e] at h; exact .inr (.inr (.inl h))
        · rw [e] at h; exact .inr (.inr (.inr h))
      have hb := cp_btw (ax := vx c 0) (ay := vy c 0) (bx := vx c 1) (byy := vy c 1) (sat x) (sat y) h0.1 h1.1 h0.2 h1.2 hd.1 hd.2
      unfold cb0 cb1 cb2 cb3 Q4.dist at pick
      simp only [(cp_pt _ _ _ _).1, (cp_pt _ _ _ _).2, sat_sat, sx0, sy0, sx1, sy1] at pick
      rcases pick with g | g | g | g
      · have e := dsq_near hr hr' g
        rw [sat_sat, sat_sat, hb.1.2.2, hb.2.2.2] at e
        exact near _ _ hb.1.1 hb.1.2.1 hb.2.1 hb.2.2.1 e.1 e.2
      · have e := dsq_near hr hr' g
        rw [sat_sat, sat_sat, hb.1.2.2, hb.2.2.2] at e
        exact near _ _ hb.1.1 hb.1.2.1 hb.2.1 hb.2.2.1 e.1 e.2
      · have e := dsq_near hr hr' g
        rw [sat_sat, sat_sat, sx0, sy0] at e
        exact near _ _ (.inl (Int.le_refl _)) (.inl (Int.le_refl _)) (.inl (Int.le_refl _)) (.inl (Int.le_refl _)) e.1 e.2
      · have e := dsq_near hr hr' g
        rw [sat_sat, sat_sat, sx1, sy1] at e
        exact near _ _ (.inr (Int.le_refl _)) (.inr (Int.le_refl _)) (.inr (Int.le_refl _)) (.inr (Int.le_refl _)) e.1 e.2
theorem core_dif {k r : Int} {ps : List (Int × Int)} {px py : Int} (a : Int) (hv : sval k r ps = 0) (hp : -268435456 ≤ px ∧ px ≤ 268435456) (hq : -268435456 ≤ py ∧ py ≤ 268435456) {i j : Nat} (hi : i < ps.length) (hj : j < ps.length) :
    (-4194304 ≤ vx (core k r ps px py a) i - vx (core k r ps px py a) j ∧ vx (core k r ps px py a) i - vx (core k r ps px py a) j ≤ 4194304) ∧
    -4194304 ≤ vy (core k r ps px py a) i - vy (core k r ps px py a) j ∧ vy (core k r ps px py a) i - vy (core k r ps px py a) j ≤ 4194304 := by
  have ir := (sval_ok hv).ir
  rw [core_if hv, vx_map _ _ _ _ hi, vy_map _ _ _ _ hi, vx_map _ _ _ _ hj, vy_map _ _ _ _ hj]
  obtain ⟨⟨x1, x2⟩, ⟨y1, y2⟩⟩ := inr_bd ir hi
  obtain ⟨⟨x3, x4⟩, ⟨y3, y4⟩⟩ := inr_bd ir hj
  have b1 := rt_bd a x1 x2 y1 y2
  have b2 := rt_bd a x3 x4 y3 y4
  unfold apx apy
  have e : ∀ r p : Int, -2097152 ≤ r → r ≤ 2097152 → -268435456 ≤ p → p ≤ 268435456 → fadd r p = r + p := fun r p h1 h2 h3 h4 => by
    unfold fadd; rw [sat_id (x := r) (by omega) (by omega), sat_id (x := p) (by omega) (by omega), sat_id (by omega) (by omega)]
  rw [e _ px b1.1.1 b1.1.2 hp.1 hp.2, e _ py b1.2.1 b1.2.2 hq.1 hq.2, e _ px b2.1.1 b2.1.2 hp.1 hp.2, e _ py b2.2.1 b2.2.2 hq.1 hq.2]
  omega
theorem shape_near {k r : Int} {ps : List (Int × Int)} {px py a x y : Int} (hv : sval k r ps = 0) (hp : -268435456 ≤ px ∧ px ≤ 268435456) (hq : -268435456 ≤ py ∧ py ≤ 268435456) (h : shC (core k r ps px py a) r x y = true) :
    Near (core k r ps px py a) r (sat x) (sat y) := by
  have ok := sval_ok hv
  have r0 := ok.r0
  have hc := core_nv k r ps a hp hq
  have l1 := core_len_if (px := px) (py := py) (a := a) hv
  have hpos := ok.pos
  unfold shC at h
  rw [if_neg (by omega)] at h
  by_cases e1 : (core k r ps px py a).length = 1
  · rw [if_pos e1] at h
    have hn := dsq_near r0.1 r0.2 (circ_near r0.2 (of_decide_eq_true h))
    have h0 := hc 0
    rw [sat_id (x := vx (core k r ps px py a) 0) (by omega) (by omega), sat_id (x := vy (core k r ps px py a) 0) (by omega) (by omega)] at hn
    exact ⟨⟨0, by omega, by omega⟩, ⟨0, by omega, by omega⟩, ⟨0, by omega, by omega⟩, ⟨0, by omega, by omega⟩⟩
  · rw [if_neg e1] at h
    by_cases e2 : (core k r ps px py a).length = 2
    · rw [if_pos e2] at h
      exact cap_near r0.1 r0.2 hc e2 (core_dif a hv hp hq (by omega) (by omega)) (of_decide_eq_true h)
    · rw [if_neg e2] at h
      have h3 : k = 3 := by
        have k1 := ok.k1
        have k3 := ok.k3
        have n1 := ok.n1
        have n2 := ok.n2
        omega
      exact pol_near hv h3 hp hq h r0.1
/-- what the box and the expanded box hold. -/
theorem box_out {c : List (Int × Int)} {r x y : Int} (hc : NV c) (hl : 0 < c.length) (hr : 0 ≤ r) (hr' : r ≤ 524288) :
    bvalid (boxR c r).a (boxR c r).b (boxR c r).c (boxR c r).d = true ∧ (Near c r (sat x) (sat y) →
    bcp (bexp (boxR c r).a (boxR c r).b (boxR c r).c (boxR c r).d 2).a (bexp (boxR c r).a (boxR c r).b (boxR c r).c (boxR c r).d 2).b (bexp (boxR c r).a (boxR c r).b (boxR c r).c (boxR c r).d 2).c (bexp (boxR c r).a (boxR c r).b (boxR c r).c (boxR c r).d 2).d x y = true) := by
  have hs : ∀ j, sat (vx c j) = vx c j ∧ sat (vy c j) = vy c j := fun j => ⟨sat_id (by have := (hc j).1; omega) (by have := (hc j).1; omega), sat_id (by have := (hc j).2; omega) (by have := (hc j).2; omega)⟩
  have h1 : ∀ i, i < c.length → _ := fun i hi => lohi c (c.length - 1) i (by omega)
  have h2 := lohi_bd (c := c) (B := 270532608) (fun j => by rw [(hs j).1]; exact (hc j).1) (fun j => by rw [(hs j).2]; exact (hc j).2) (c.length - 1)
  have h0 := h1 0 hl
  have hsx := sat_le x
  have hsx' := sat_ge x
  have hsy := sat_le y
  have hsy' := sat_ge y
  rw [(hs 0).1, (hs 0).2] at h0
  have eb : boxR c r = ⟨loX c (c.length - 1) - r, loY c (c.length - 1) - r, hiX c (c.length - 1) + r, hiY c (c.length - 1) + r⟩ := by
    unfold boxR
    rw [if_neg (by omega)]
    have c0 := hc 0
    have es : ∀ q : Int, -270532608 ≤ q → q ≤ 270532608 → fsub q r = q - r ∧ fadd q r = q + r := fun q g g' => by
      unfold fsub fadd
      rw [sat_id (x := q) (by omega) (by omega), sat_id (x := r) (by omega) (by omega), sat_id (by omega) (by omega), sat_id (by omega) (by omega)]
      exact ⟨rfl, rfl⟩
    rw [(es _ (by omega) (by omega)).1, (es (loY c (c.length - 1)) (by omega) (by omega)).1, (es (hiX c (c.length - 1)) (by omega) (by omega)).2, (es (hiY c (c.length - 1)) (by omega) (by omega)).2]
  have c0 := hc 0
  rw [eb]
  have hX : ∀ i, i < c.length → loX c (c.length - 1) ≤ vx c i ∧ vx c i ≤ hiX c (c.length - 1) ∧ loY c (c.length - 1) ≤ vy c i ∧ vy c i ≤ hiY c (c.length - 1) := fun i hi => by
    have := h1 i hi
    rw [(hs i).1, (hs i).2] at this
    omega
  clear h1 hs eb
  generalize loX c (c.length - 1) = A at *
  generalize loY c (c.length - 1) = B at *
  generalize hiX c (c.length - 1) = D at *
  generalize hiY c (c.length - 1) = E at *
  have sA : ∀ z : Int, -271100000 ≤ z → z ≤ 271100000 → sat z = z := fun z g g' => sat_id (by omega) (by omega)
  have hv : bvalid (A - r) (B - r) (D + r) (E + r) = true := by
    unfold bvalid vsatd
    rw [sA (A - r) (by omega) (by omega), sA (B - r) (by omega) (by omega), sA (D + r) (by omega) (by omega), sA (E + r) (by omega) (by omega)]
    simp only [Bool.and_eq_true, decide_eq_true_eq, and_true, true_and]
    omega
  refine ⟨hv, fun hn => ?_⟩
  have e1 : fsub (A - r) 2 = A - r - 2 := by unfold fsub; rw [sA (A - r) (by omega) (by omega), sat_id (x := 2) (by omega) (by omega), sA _ (by omega) (by omega)]
  have e2 : fsub (B - r) 2 = B - r - 2 := by unfold fsub; rw [sA (B - r) (by omega) (by omega), sat_id (x := 2) (by omega) (by omega), sA _ (by omega) (by omega)]
  have e3 : fadd (D + r) 2 = D + r + 2 := by unfold fadd; rw [sA (D + r) (by omega) (by omega), sat_id (x := 2) (by omega) (by omega), sA _ (by omega) (by omega)]
  have e4 : fadd (E + r) 2 = E + r + 2 := by unfold fadd; rw [sA (E + r) (by omega) (by omega), sat_id (x := 2) (by omega) (by omega), sA _ (by omega) (by omega)]
  have hv' : bvalid (A - r - 2) (B - r - 2) (D + r + 2) (E + r + 2) = true := by
    unfold bvalid vsatd
    rw [sA (A - r - 2) (by omega) (by omega), sA (B - r - 2) (by omega) (by omega), sA (D + r + 2) (by omega) (by omega), sA (E + r + 2) (by omega) (by omega)]
    simp only [Bool.and_eq_true, decide_eq_true_eq, and_true, true_and]
    omega
  have eq : bexp (A - r) (B - r) (D + r) (E + r) 2 = ⟨A - r - 2, B - r - 2, D + r + 2, E + r + 2⟩ := by
    unfold bexp
    rw [hv, e1, e2, e3, e4, hv']
    rfl
  show bcp (bexp (A - r) (B - r) (D + r) (E + r) 2).a (bexp (A - r) (B - r) (D + r) (E + r) 2).b (bexp (A - r) (B - r) (D + r) (E + r) 2).c (bexp (A - r) (B - r) (D + r) (E + r) 2).d x y = true
  rw [eq]
  show bcp (A - r - 2) (B - r - 2) (D + r + 2) (E + r + 2) x y = true
  obtain ⟨⟨i1, j1, k1⟩, ⟨i2, j2, k2⟩, ⟨i3, j3, k3⟩, ⟨i4, j4, k4⟩⟩ := hn
  have g1 := hX i1 j1
  have g2 := hX i2 j2
  have g3 := hX i3 j3
  have g4 := hX i4 j4
  unfold bcp
  rw [hv']
  simp only [Bool.and_eq_true, decide_eq_true_eq, true_and]
  omega
end Go.Carom

/-
  The plain law of contact manifolds: what the functions of chapters 14 to 16 compute. Conditions: none; no program in sight.
-/
namespace Go.Carom
open Go Go.AL

theorem nc0 : ((0 : Nat) : Int) = 0 := rfl
theorem nc1 : ((1 : Nat) : Int) = 1 := rfl
theorem nc2 : ((2 : Nat) : Int) = 2 := rfl
theorem nc3 : ((3 : Nat) : Int) = 3 := rfl
/-! ### edges -/
def edgX (a : List (Int × Int)) (i : Nat) : Int := fsub (vx a ((i + 1) % a.length)) (vx a i)
def edgY (a : List (Int × Int)) (i : Nat) : Int := fsub (vy a ((i + 1) % a.length)) (vy a i)
def nmX (a : List (Int × Int)) (i : Nat) : Int := vnx (edgY a i) (-edgX a i)
def nmY (a : List (Int × Int)) (i : Nat) : Int := vny (edgY a i) (-edgX a i)
def drX (a : List (Int × Int)) (i : Nat) : Int := vnx (edgX a i) (edgY a i)
def drY (a : List (Int × Int)) (i : Nat) : Int := vny (edgX a i) (edgY a i)
/-- the smallest of the first m + 1. -/
def mnF (f : Nat → Int) : Nat → Int
  | 0 => f 0
  | m + 1 => if f (m + 1) < mnF f m then f (m + 1) else mnF f m
/-- the first smallest, and the first largest, with its index. -/
def mnG (f : Nat → Int) : Nat → Nat × Int
  | 0 => (0, f 0)
  | m + 1 => if f (m + 1) < (mnG f m).2 then (m + 1, f (m + 1)) else mnG f m
def mxG (f : Nat → Int) : Nat → Nat × Int
  | 0 => (0, f 0)
  | m + 1 => if (mxG f m).2 < f (m + 1) then (m + 1, f (m + 1)) else mxG f m
theorem mnG_le (f : Nat → Int) (m : Nat) : (mnG f m).1 ≤ m := by
  induction m with
  | zero => exact Nat.le_refl _
  | succ m ih =>
    rw [mnG]
    split
    · exact Nat.le_refl _
    · exact Nat.le_succ_of_le ih
theorem mxG_le (f : Nat → Int) (m : Nat) : (mxG f m).1 ≤ m := by
  induction m with
  | zero => exact Nat.le_refl _
  | succ m ih =>
    rw [mxG]
    split
    · exact Nat.le_refl _
    · exact Nat.le_succ_of_le ih
/-- a search for the smallest that is told by the index that comes next. -/
def mnL (f : Nat → Int) : Nat → Int
  | 0 => 0
  | m + 1 => mnF f m
def mnI (f : Nat → Int) : Nat → Int
  | 0 => -1
  | m + 1 => ((mnG f m).1 : Nat)
def mnV (f : Nat → Int) : Nat → Int
  | 0 => 0
  | m + 1 => (mnG f m).2
def mxI (f : Nat → Int) : Nat → Int
  | 0 => -1
  | m + 1 => ((mxG f m).1 : Nat)
def mxV (f : Nat → Int) : Nat → Int
  | 0 => 0
  | m + 1 => (mxG f m).2
theorem mnL_succ (f : Nat → Int) (i : Nat) : mnL f (i + 1) = if (i : Int) = 0 ∨ f i < mnL f i then f i else mnL f i := by
  cases i with
  | zero => simp [mnL, mnF]
  | succ i =>
    show mnF f (i + 1) = _
    rw [mnF, mnL]
    have : ¬ ((i + 1 : Nat) : Int) = 0 := by omega
    simp only [this, false_or]
theorem mnI_up {f : Nat → Int} {i : Nat} (h : mnI f i < 0 ∨ f i < mnV f i) : mnI f (i + 1) = i ∧ mnV f (i + 1) = f i := by
  cases i with
  | zero => exact ⟨rfl, rfl⟩
  | succ i =>
    have h' : f (i + 1) < (mnG f i).2 := by
      rcases h with h | h
      · simp only [mnI] at h; omega
      · exact h
    have e : mnG f (i + 1) = (i + 1, f (i + 1)) := if_pos h'
    exact ⟨by show (((mnG f (i + 1)).1 : Nat) : Int) = _; rw [e], by show (mnG f (i + 1)).2 = _; rw [e]⟩
theorem mnI_dn {f : Nat → Int} {i : Nat} (h : ¬ (mnI f i < 0 ∨ f i < mnV f i)) : mnI f (i + 1) = mnI f i ∧ mnV f (i + 1) = mnV f i := by
  cases i with
  | zero => exact absurd (.inl (show (-1 : Int) < 0 by decide)) h
  | succ i =>
    have h' : ¬ f (i + 1) < (mnG f i).2 := fun e => h (.inr e)
    have e : mnG f (i + 1) = mnG f i := if_neg h'
    exact ⟨by show (((mnG f (i + 1)).1 : Nat) : Int) = _; rw [e]; rfl, by show (mnG f (i + 1)).2 = _; rw [e]; rfl⟩
theorem mxI_up {f : Nat → Int} {i : Nat} (h : mxI f i < 0 ∨ mxV f i < f i) : mxI f (i + 1) = i ∧ mxV f (i + 1) = f i := by
  cases i with
  | zero => exact ⟨rfl, rfl⟩
  | succ i =>
    have h' : (mxG f i).2 < f (i + 1) := by
      rcases h with h | h
      · simp only [mxI] at h; omega
      · exact h
    have e : mxG f (i + 1) = (i + 1, f (i + 1)) := if_pos h'
    exact ⟨by show (((mxG f (i + 1)).1 : Nat) : Int) = _; rw [e], by show (mxG f (i + 1)).2 = _; rw [e]⟩
theorem mxI_dn {f : Nat → Int} {i : Nat} (h : ¬ (mxI f i < 0 ∨ mxV f i < f i)) : mxI f (i + 1) = mxI f i ∧ mxV f (i + 1) = mxV f i := by
  cases i with
  | zero => exact absurd (.inl (show (-1 : Int) < 0 by decide)) h
  | succ i =>
    have h' : ¬ (mxG f i).2 < f (i + 1) := fun e => h (.inr e)
    have e : mxG f (i + 1) = mxG f i := if_neg h'
    exact ⟨by show (((mxG f (i + 1)).1 : Nat) : Int) = _; rw [e]; rfl, by show (mxG f (i + 1)).2 = _; rw [e]; rfl⟩
def sdot (nx ny ox oy : Int) (b : List (Int × Int)) (j : Nat) : Int := vdot nx ny (fsub (vx b j) ox) (fsub (vy b j) oy)
/-- how far b is from edge i of a. -/
def sepF (a b : List (Int × Int)) (i : Nat) : Int := mnF (sdot (nmX a i) (nmY a i) (vx a i) (vy a i) b) (b.length - 1)
def mxs (a b : List (Int × Int)) : Nat × Int := mxG (sepF a b) (a.length - 1)
def incF (b : List (Int × Int)) (nx ny : Int) (i : Nat) : Int := vdot (nmX b i) (nmY b i) nx ny
def incE (b : List (Int × Int)) (nx ny : Int) : Nat := (mnG (incF b nx ny) (b.length - 1)).1
theorem mnL_up {f : Nat → Int} {i : Nat} (h : (decide ((i : Int) = 0) || decide (f i < mnL f i)) = true) : mnL f (i + 1) = f i := by
  rw [mnL_succ, if_pos (by simpa using h)]
theorem mnL_dn {f : Nat → Int} {i : Nat} (h : (decide ((i : Int) = 0) || decide (f i < mnL f i)) = false) : mnL f (i + 1) = mnL f i := by
  rw [mnL_succ, if_neg (by simpa using h)]
theorem mnL_fin {f : Nat → Int} {n : Nat} (h : 0 < n) : mnL f n = mnF f (n - 1) := by
  obtain ⟨m, rfl⟩ : ∃ m, n = m + 1 := ⟨n - 1, by omega⟩
  rfl
theorem mnI_fin {f : Nat → Int} {n : Nat} (h : 0 < n) : mnI f n = ((mnG f (n - 1)).1 : Nat) := by
  obtain ⟨m, rfl⟩ : ∃ m, n = m + 1 := ⟨n - 1, by omega⟩
  rfl
theorem mxI_fin {f : Nat → Int} {n : Nat} (h : 0 < n) : mxI f n = ((mxG f (n - 1)).1 : Nat) ∧ mxV f n = (mxG f (n - 1)).2 := by
  obtain ⟨m, rfl⟩ : ∃ m, n = m + 1 := ⟨n - 1, by omega⟩
  exact ⟨rfl, rfl⟩
theorem mnB_up {f : Nat → Int} {i : Nat} (h : (decide (mnI f i < 0) || decide (f i < mnV f i)) = true) : mnI f (i + 1) = i ∧ mnV f (i + 1) = f i := mnI_up (by simpa using h)
theorem mnB_dn {f : Nat → Int} {i : Nat} (h : (decide (mnI f i < 0) || decide (f i < mnV f i)) = false) : mnI f (i + 1) = mnI f i ∧ mnV f (i + 1) = mnV f i := mnI_dn (by simpa using h)
theorem mxB_up {f : Nat → Int} {i : Nat} (h : (decide (mxI f i < 0) || decide (mxV f i < f i)) = true) : mxI f (i + 1) = i ∧ mxV f (i + 1) = f i := mxI_up (by simpa using h)
theorem mxB_dn {f : Nat → Int} {i : Nat} (h : (decide (mxI f i < 0) || decide (mxV f i < f i)) = false) : mxI f (i + 1) = mxI f i ∧ mxV f (i + 1) = mxV f i := mxI_dn (by simpa using h)
theorem mxs_lt {a b : List (Int × Int)} (h : 0 < a.length) : (mxs a b).1 < a.length := by have := mxG_le (sepF a b) (a.length - 1); unfold mxs; omega
theorem incE_lt {b : List (Int × Int)} {nx ny : Int} (h : 0 < b.length) : incE b nx ny < b.length := by have := mnG_le (incF b nx ny) (b.length - 1); unfold incE; omega

/-! ### clipping -/
/-- an end of a clipped segment. -/
structure CV where
  x : Int
  y : Int
  id : Int
def CV.v (c : CV) : AV := .agg [.i c.x, .i c.y, .i c.id]
theorem lt_cv (N : Nat) (c : CV) : Lt N c.v := lt_agg (lt_cons (lt_i _ _) (lt_cons (lt_i _ _) (lt_cons (lt_i _ _) lt_nil)))
theorem lt_cvs (N : Nat) (l : List CV) : Lt N (.sl (l.map CV.v)) := .sl _ (lt_map fun x => lt_cv N x)
def CV.d (c : CV) (ox oy nx ny : Int) : Int := vdot nx ny (fsub c.x ox) (fsub c.y oy)
def CV.mv (s o : CV) (d e : Int) : CV := ⟨flerp s.x o.x (frat d (d - e)), flerp s.y o.y (frat d (d - e)), s.id⟩
def hplane (l : List CV) (ox oy nx ny : Int) : List CV :=
  match l with
  | [a, b] => if 0 < a.d ox oy nx ny ∧ 0 < b.d ox oy nx ny then [] else if 0 < a.d ox oy nx ny then [a.mv b (a.d ox oy nx ny) (b.d ox oy nx ny), b]
    else if 0 < b.d ox oy nx ny then [a, b.mv a (b.d ox oy nx ny) (a.d ox oy nx ny)] else [a, b]
  | _ => []
/-- none, or two, with the IDs 0 and 1. -/
def Cut (l : List CV) : Prop := l = [] ∨ ∃ a b, l = [a, b] ∧ a.id = 0 ∧ b.id = 1
theorem hplane_cut {l : List CV} (h : Cut l) (ox oy nx ny : Int) : Cut (hplane l ox oy nx ny) := by
  rcases h with rfl | ⟨a, b, rfl, ha, hb⟩
  · exact .inl rfl
  · by_cases h1 : 0 < a.d ox oy nx ny ∧ 0 < b.d ox oy nx ny
    · exact .inl (if_pos h1)
    · by_cases h2 : 0 < a.d ox oy nx ny
      · exact .inr ⟨a.mv b (a.d ox oy nx ny) (b.d ox oy nx ny), b, (if_neg h1).trans (if_pos h2), ha, hb⟩
      · by_cases h3 : 0 < b.d ox oy nx ny
        · exact .inr ⟨a, b.mv a (b.d ox oy nx ny) (a.d ox oy nx ny), (if_neg h1).trans ((if_neg h2).trans (if_pos h3)), ha, hb⟩
        · exact .inr ⟨a, b, (if_neg h1).trans ((if_neg h2).trans (if_neg h3)), ha, hb⟩
/-- the ways in which a segment is cut. -/
theorem hp_0 {a b : CV} {ox oy nx ny : Int} (h : (decide (0 < a.d ox oy nx ny) && decide (0 < b.d ox oy nx ny)) = true) : hplane [a, b] ox oy nx ny = [] := if_pos (by simpa using h)
theorem hp_1 {a b : CV} {ox oy nx ny : Int} (h : (decide (0 < a.d ox oy nx ny) && decide (0 < b.d ox oy nx ny)) = false) (h2 : decide (0 < a.d ox oy nx ny) = true) : hplane [a, b] ox oy nx ny = [a.mv b (a.d ox oy nx ny) (b.d ox oy nx ny), b] :=
  (if_neg (fun e => by rw [decide_eq_true e.1, decide_eq_true e.2] at h; cases h)).trans (if_pos (of_decide_eq_true h2))
theorem hp_2 {a b : CV} {ox oy nx ny : Int} (h2 : decide (0 < a.d ox oy nx ny) = false) (h3 : decide (0 < b.d ox oy nx ny) = true) : hplane [a, b] ox oy nx ny = [a, b.mv a (b.d ox oy nx ny) (a.d ox oy nx ny)] :=
  (if_neg (fun e => of_decide_eq_false h2 e.1)).trans ((if_neg (of_decide_eq_false h2)).trans (if_pos (of_decide_eq_true h3)))
theorem hp_3 {a b : CV} {ox oy nx ny : Int} (h2 : decide (0 < a.d ox oy nx ny) = false) (h3 : decide (0 < b.d ox oy nx ny) = false) : hplane [a, b] ox oy nx ny = [a, b] :=
  (if_neg (fun e => of_decide_eq_false h2 e.1)).trans ((if_neg (of_decide_eq_false h2)).trans (if_neg (of_decide_eq_false h3)))
def toE0 (b : List (Int × Int)) (k : Nat) : List CV := [⟨vx b k, vy b k, 0⟩, ⟨vx b ((k + 1) % b.length), vy b ((k + 1) % b.length), 1⟩]
def toE (a : List (Int × Int)) (i : Nat) (b : List (Int × Int)) (k : Nat) : List CV :=
  hplane (hplane (toE0 b k) (vx a ((i + 1) % a.length)) (vy a ((i + 1) % a.length)) (drX a i) (drY a i)) (vx a i) (vy a i) (fmul (drX a i) (-65536)) (fmul (drY a i) (-65536))
theorem toE0_cut (b : List (Int × Int)) (k : Nat) : Cut (toE0 b k) := .inr ⟨_, _, rfl, rfl, rfl⟩
theorem toE_cut (a : List (Int × Int)) (i : Nat) (b : List (Int × Int)) (k : Nat) : Cut (toE a i b k) := hplane_cut (hplane_cut (toE0_cut b k) _ _ _ _) _ _ _ _
theorem fmul_m1 {n : Int} (h : -65536 ≤ n) (h' : n ≤ 65536) : fmul n (-65536) = -n := by
  have e : rdiv (n * -65536) 65536 = -n := by
    rw [show n * -65536 = -(n * 65536) by omega, rdiv_neg]
    have : rdiv (n * 65536) 65536 = n := by
      have hs := rdiv_abs (n := n * 65536) (d := 65536) (m := 65536) (by omega) (by omega) (by omega) (by omega) (by omega) (by omega) (by omega)
      unfold rdiv
      rw [if_neg (by omega), Int.mul_tmod_left, Int.mul_tdiv_cancel _ (by omega)]
      rw [if_neg (by omega), if_neg (by omega)]
    rw [this]
  unfold fmul
  rw [sat_id (x := n) (by omega) (by omega), sat_id (x := -65536) (by omega) (by omega), e, sat_id (by omega) (by omega)]
theorem drXY_bd (a : List (Int × Int)) (i : Nat) : (-65536 ≤ drX a i ∧ drX a i ≤ 65536) ∧ (-65536 ≤ drY a i ∧ drY a i ≤ 65536) := nrm_bd _ _
theorem nmXY_bd (a : List (Int × Int)) (i : Nat) : (-65536 ≤ nmX a i ∧ nmX a i ≤ 65536) ∧ (-65536 ≤ nmY a i ∧ nmY a i ≤ 65536) := nrm_bd _ _

/-! ### manifolds -/
/-- a point of a new manifold. -/
structure CPt where
  x : Int
  y : Int
  s : Int
  id : Int
def CPt.v (c : CPt) : AV := .agg [.i c.x, .i c.y, .i c.s, .i c.id, .i 0, .i 0]
theorem lt_cpt (N : Nat) (c : CPt) : Lt N c.v := lt_agg (lt_cons (lt_i _ _) (lt_cons (lt_i _ _) (lt_cons (lt_i _ _) (lt_cons (lt_i _ _) (lt_cons (lt_i _ _) (lt_cons (lt_i _ _) lt_nil))))))
theorem lt_cpts (N : Nat) (l : List CPt) : Lt N (.sl (l.map CPt.v)) := .sl _ (lt_map fun x => lt_cpt N x)
structure Mf where
  x : Int
  y : Int
  ps : List CPt
def Mf.v (m : Mf) : AV := .agg [.i m.x, .i m.y, .sl (m.ps.map CPt.v)]
def Mf.z : Mf := ⟨0, 0, []⟩
theorem lt_mf (N : Nat) (m : Mf) : Lt N m.v := lt_agg (lt_cons (lt_i _ _) (lt_cons (lt_i _ _) (lt_cons (lt_cpts _ _) lt_nil)))
def Mf.ok (m : Mf) : Bool := !decide (m.ps.length = 0)
def Mf.fin (m : Mf) : Mf := if m.ps.length = 0 then Mf.z else m
def Mf.flip (m : Mf) : Mf := if m.ps.length = 0 then Mf.z else ⟨-m.x, -m.y, m.ps⟩
def addP (nx ny : Int) (l : List CPt) (px py disp sep id : Int) : List CPt := if sep ≤ 1024 then l ++ [⟨fadd px (fmul nx disp), fadd py (fmul ny disp), sep, id⟩] else l
def half2 (x : Int) : Int := rdiv x 2
/-- a direction: the unit vector, or another where there is no length. -/
def dirX (x y u : Int) : Int := if vlen x y = 0 then u else vnx x y
def dirY (x y u : Int) : Int := if vlen x y = 0 then u else vny x y
def rndX (q : Q4) : Int := dirX (fsub q.c q.a) (fsub q.d q.b) 0
def rndY (q : Q4) : Int := dirY (fsub q.c q.a) (fsub q.d q.b) 65536
def rndS (q : Q4) (r s : Int) : Int := fsub (fsub (vlen (fsub q.c q.a) (fsub q.d q.b)) r) s
/-- round shapes, by the closest points of their cores. -/
def rndQ (q : Q4) (r s : Int) : Mf := Mf.fin ⟨rndX q, rndY q, addP (rndX q) (rndY q) [] q.a q.b (fadd r (half2 (rndS q r s))) (rndS q r s) 0⟩
def rndM (ax ay bx byy r cx cy dx dy s : Int) : Mf := rndQ (cps ax ay bx byy cx cy dx dy) r s
theorem fin1_in {x y nx ny px py d s id : Int} (h : s ≤ 1024) : Mf.fin ⟨x, y, addP nx ny [] px py d s id⟩ = ⟨x, y, [⟨fadd px (fmul nx d), fadd py (fmul ny d), s, id⟩]⟩ := by
  unfold addP; rw [if_pos h]; rfl
theorem fin1_out {x y nx ny px py d s id : Int} (h : ¬ s ≤ 1024) : Mf.fin ⟨x, y, addP nx ny [] px py d s id⟩ = Mf.z := by
  unfold addP; rw [if_neg h]; rfl
/-- the closest point of the edges, the first m + 1 of them. -/
def cloE (a : List (Int × Int)) (cx cy : Int) (i : Nat) : Int × Int :=
  (cpx (vx a i) (vy a i) (vx a ((i + 1) % a.length)) (vy a ((i + 1) % a.length)) cx cy, cpy (vx a i) (vy a i) (vx a ((i + 1) % a.length)) (vy a ((i + 1) % a.length)) cx cy)
def clo (a : List (Int × Int)) (cx cy : Int) : Nat → Int × Int
  | 0 => cloE a cx cy 0
  | m + 1 => if dsq (cloE a cx cy (m + 1)).1 (cloE a cx cy (m + 1)).2 cx cy < dsq (clo a cx cy m).1 (clo a cx cy m).2 cx cy then cloE a cx cy (m + 1) else clo a cx cy m
def pcN (a : List (Int × Int)) (cx cy : Int) : Int × Int × Int :=
  if 0 < (mxs a [(cx, cy)]).2 then
    (dirX (fsub cx (clo a cx cy (a.length - 1)).1) (fsub cy (clo a cx cy (a.length - 1)).2) (nmX a (mxs a [(cx, cy)]).1),
     dirY (fsub cx (clo a cx cy (a.length - 1)).1) (fsub cy (clo a cx cy (a.length - 1)).2) (nmY a (mxs a [(cx, cy)]).1),
     vlen (fsub cx (clo a cx cy (a.length - 1)).1) (fsub cy (clo a cx cy (a.length - 1)).2))
  else (nmX a (mxs a [(cx, cy)]).1, nmY a (mxs a [(cx, cy)]).1, (mxs a [(cx, cy)]).2)
def pcM (a : List (Int × Int)) (cx cy s : Int) : Mf :=
  let n := pcN a cx cy
  Mf.fin ⟨n.1, n.2.1, addP n.1 n.2.1 [] cx cy (-half2 (fadd n.2.2 s)) (fsub n.2.2 s) 0⟩
def cliD (a : List (Int × Int)) (r : Int) (i : Nat) (c : CV) : Int := fsub (vdot (nmX a i) (nmY a i) (fsub c.x (vx a i)) (fsub c.y (vy a i))) r
def cliP (a : List (Int × Int)) (r s : Int) (i j : Nat) (l : List CPt) (c : CV) : List CPt :=
  addP (nmX a i) (nmY a i) l c.x c.y (-half2 (fadd (cliD a r i c) s)) (fsub (cliD a r i c) s) (64 * (i : Int) + 8 * (j : Int) + c.id)
def cliL (a : List (Int × Int)) (r : Int) (b : List (Int × Int)) (s : Int) (i : Nat) : List CPt :=
  (toE a i b (incE b (nmX a i) (nmY a i))).foldl (cliP a r s i (incE b (nmX a i) (nmY a i))) []
def cliM (a : List (Int × Int)) (r : Int) (b : List (Int × Int)) (s : Int) (i : Nat) : Mf := Mf.fin ⟨nmX a i, nmY a i, cliL a r b s i⟩
theorem cliM_nil {a : List (Int × Int)} {r : Int} {b : List (Int × Int)} {s : Int} {i : Nat} (h : toE a i b (incE b (nmX a i) (nmY a i)) = []) : cliM a r b s i = Mf.z := by
  unfold cliM cliL; rw [h]; rfl
theorem cliM_two {a : List (Int × Int)} {r : Int} {b : List (Int × Int)} {s : Int} {i : Nat} {p q : CV} (h : toE a i b (incE b (nmX a i) (nmY a i)) = [p, q]) :
    cliM a r b s i = Mf.fin ⟨nmX a i, nmY a i, cliP a r s i (incE b (nmX a i) (nmY a i)) (cliP a r s i (incE b (nmX a i) (nmY a i)) [] p) q⟩ := by
  unfold cliM cliL; rw [h]; rfl
def cliC (a : List (Int × Int)) (r s : Int) (i j : Nat) (c : CV) : CPt :=
  ⟨fadd c.x (fmul (nmX a i) (-half2 (fadd (cliD a r i c) s))), fadd c.y (fmul (nmY a i) (-half2 (fadd (cliD a r i c) s))), fsub (cliD a r i c) s, 64 * (i : Int) + 8 * (j : Int) + c.id⟩
theorem cliP_in {a : List (Int × Int)} {r s : Int} {i j : Nat} {l : List CPt} {c : CV} (h : fsub (cliD a r i c) s ≤ 1024) : cliP a r s i j l c = l ++ [cliC a r s i j c] := if_pos h
theorem cliP_out {a : List (Int × Int)} {r s : Int} {i j : Nat} {l : List CPt} {c : CV} (h : ¬ fsub (cliD a r i c) s ≤ 1024) : cliP a r s i j l c = l := if_neg h
theorem half_neg (x y : Int) : IntKind.i64.wrap (0 - half2 (fadd x y)) = -half2 (fadd x y) := by
  have h := fadd_bd x y
  have := rdiv_abs (n := fadd x y) (d := 2) (m := 536870911) (by omega) (by omega) (by omega) (by omega) (by omega) (by omega) (by omega)
  unfold half2
  rw [w64_id (by omega) (by omega)]; omega
theorem clo_up {a : List (Int × Int)} {cx cy : Int} {m : Nat} (h : decide (dsq (cloE a cx cy (m + 1)).1 (cloE a cx cy (m + 1)).2 cx cy < dsq (clo a cx cy m).1 (clo a cx cy m).2 cx cy) = true) : clo a cx cy (m + 1) = cloE a cx cy (m + 1) := if_pos (of_decide_eq_true h)
theorem clo_dn {a : List (Int × Int)} {cx cy : Int} {m : Nat} (h : decide (dsq (cloE a cx cy (m + 1)).1 (cloE a cx cy (m + 1)).2 cx cy < dsq (clo a cx cy m).1 (clo a cx cy m).2 cx cy) = false) : clo a cx cy (m + 1) = clo a cx cy m := if_neg (of_decide_eq_false h)
/-- a contact point. -/
structure P6 where
  a : Int
  b : Int
  c : Int
  d : Int
  e : Int
  f : Int
def P6.v (p : P6) : AV := .agg [.i p.a, .i p.b, .i p.c, .i p.d, .i p.e, .i p.f]
def CPt.p6 (c : CPt) : P6 := ⟨c.x, c.y, c.s, c.id, 0, 0⟩
theorem cpts_p6 (l : List CPt) : l.map CPt.v = (l.map CPt.p6).map P6.v := by rw [List.map_map]; rfl
theorem lt_p6 (N : Nat) (c : P6) : Lt N c.v := lt_agg (lt_cons (lt_i _ _) (lt_cons (lt_i _ _) (lt_cons (lt_i _ _) (lt_cons (lt_i _ _) (lt_cons (lt_i _ _) (lt_cons (lt_i _ _) lt_nil))))))
theorem lt_p6s (N : Nat) (l : List P6) : Lt N (.sl (l.map P6.v)) := .sl _ (lt_map fun x => lt_p6 N x)
theorem p6s_all (l : List P6) : (∀ v ∈ l.map P6.v, v.cells.length = 6 ∧ ∀ c ∈ v.cells, c.one = true) = True := eq_true (by
  intro v hv
  obtain ⟨p, _, rfl⟩ := List.mem_map.1 hv
  refine ⟨rfl, fun c hc => ?_⟩
  simp only [P6.v, AV.cells, List.mem_cons, List.not_mem_nil, or_false] at hc
  rcases hc with rfl | rfl | rfl | rfl | rfl | rfl <;> rfl)
theorem p6s_len (l : List P6) : ∀ v ∈ l.map P6.v, v.cells.length = 6 := fun v hv => (of_eq_true (p6s_all l) v hv).1
theorem p6s_one (l : List P6) : ∀ v ∈ l.map P6.v, ∀ c ∈ v.cells, c.one = true := fun v hv => (of_eq_true (p6s_all l) v hv).2
/-- a negated number. -/
def ng (x : Int) : Int := IntKind.i64.wrap (0 - x)
theorem ng_id {x : Int} (h : -536870911 ≤ x) (h' : x ≤ 536870911) : ng x = -x := by unfold ng; rw [w64_id (by omega) (by omega)]; omega
def up12 (c : CPt) : CPt := { c with id := c.id + 4096 }
def Mf.up (m : Mf) : Mf := { m with ps := m.ps.map up12 }
def facM (a : List (Int × Int)) (r : Int) (b : List (Int × Int)) (s : Int) : Mf :=
  if 1024 < fsub (fsub (imax (mxs a b).2 (mxs b a).2) r) s then Mf.z
  else if (mxs b a).2 ≤ fadd (mxs a b).2 64 then cliM a r b s (mxs a b).1
  else (cliM b s a r (mxs b a).1).up.flip
/-- the manifold of two shapes. -/
def coll (k r : Int) (c : List (Int × Int)) (k' r' : Int) (c' : List (Int × Int)) : Mf :=
  if c.length = 0 ∨ c'.length = 0 then Mf.z
  else if k ≠ 3 ∧ k' ≠ 3 then rndM (vx c 0) (vy c 0) (vx c (c.length - 1)) (vy c (c.length - 1)) r (vx c' 0) (vy c' 0) (vx c' (c'.length - 1)) (vy c' (c'.length - 1)) r'
  else if k' = 1 then pcM c (vx c' 0) (vy c' 0) r'
  else if k = 1 then (pcM c' (vx c 0) (vy c 0) r).flip
  else facM c r c' r'

/-! ### what a manifold is -/
/-- no point, or one or two points, with different IDs, none too far. -/
structure MOk (m : Mf) : Prop where
  n2 : m.ps.length ≤ 2
  z : m.ps.length = 0 → m = Mf.z
  sp : ∀ c ∈ m.ps, c.s ≤ 1024
  ids : ∀ a b, m.ps = [a, b] → a.id ≠ b.id
theorem MOk.zero : MOk Mf.z := ⟨by decide, fun _ => rfl, (fun c h => by cases h), (fun a b h => by cases h)⟩
theorem MOk.fin {x y : Int} {l : List CPt} (h2 : l.length ≤ 2) (hs : ∀ c ∈ l, c.s ≤ 1024) (hi : ∀ a b, l = [a, b] → a.id ≠ b.id) : MOk (Mf.fin ⟨x, y, l⟩) := by
  unfold Mf.fin
  split
  · exact MOk.zero
  · rename_i h
    exact ⟨h2, fun e => absurd e h, hs, hi⟩
theorem MOk.flip {m : Mf} (h : MOk m) : MOk m.flip := by
  unfold Mf.flip
  split
  · exact MOk.zero
  · rename_i e
    exact ⟨h.n2, fun e' => absurd e' e, h.sp, h.ids⟩
theorem MOk.up {m : Mf} (h : MOk m) (hp : m.ps.length ≠ 0) : MOk m.up := by
  obtain ⟨x, y, l⟩ := m
  refine ⟨by simpa [Mf.up] using h.n2, fun e => absurd (by simpa [Mf.up] using e) hp, fun c hc => ?_, fun a b hab => ?_⟩
  · obtain ⟨d, hd, rfl⟩ := List.mem_map.1 (show c ∈ l.map up12 from hc)
    exact h.sp d hd
  · have hab' : l.map up12 = [a, b] := hab
    match l, hab' with
    | [c, d], hab' =>
      simp only [List.map_cons, List.map_nil, List.cons.injEq, and_true] at hab'
      obtain ⟨rfl, rfl⟩ := hab'
      have := h.ids c d rfl
      unfold up12
      show c.id + 4096 ≠ d.id + 4096
      omega
theorem up_zero : Mf.z.up = Mf.z := rfl
theorem fin_zero : Mf.z.flip = Mf.z := rfl
theorem addP1 {nx ny px py disp sep id : Int} : (addP nx ny [] px py disp sep id).length ≤ 2 ∧ (∀ c ∈ addP nx ny [] px py disp sep id, c.s ≤ 1024) ∧ ∀ a b, addP nx ny [] px py disp sep id = [a, b] → a.id ≠ b.id := by
  unfold addP
  split
  · rename_i h
    exact ⟨by simp, fun c hc => by simp at hc; subst hc; exact h, fun a b h => by simp at h⟩
  · exact ⟨by simp, fun c hc => by simp at hc, fun a b h => by simp at h⟩
theorem addP2 {nx ny x1 y1 d1 s1 i1 x2 y2 d2 s2 i2 : Int} {l : List CPt} (h : i1 ≠ i2) (hl : l = addP nx ny (addP nx ny [] x1 y1 d1 s1 i1) x2 y2 d2 s2 i2) : l.length ≤ 2 ∧ (∀ c ∈ l, c.s ≤ 1024) ∧ ∀ a b, l = [a, b] → a.id ≠ b.id := by
  have key : l = [] ∨ (∃ a : CPt, l = [a] ∧ a.s ≤ 1024) ∨ ∃ a b : CPt, l = [a, b] ∧ a.s ≤ 1024 ∧ b.s ≤ 1024 ∧ a.id ≠ b.id := by
    unfold addP at hl
    by_cases h1 : s1 ≤ 1024
    · by_cases h2 : s2 ≤ 1024
      · rw [if_pos h1, if_pos h2] at hl
        exact .inr (.inr ⟨_, _, hl, h1, h2, h⟩)
      · rw [if_pos h1, if_neg h2] at hl
        exact .inr (.inl ⟨_, hl, h1⟩)
    · by_cases h2 : s2 ≤ 1024
      · rw [if_neg h1, if_pos h2] at hl
        exact .inr (.inl ⟨_, hl, h2⟩)
      · rw [if_neg h1, if_neg h2] at hl
        exact .inl hl
  rcases key with e | ⟨a, e, ha⟩ | ⟨a, b, e, ha, hb, hab⟩
  · subst e; exact ⟨by simp, fun c hc => by simp at hc, fun a b e => by simp at e⟩
  · subst e; exact ⟨by simp, fun c hc => by simp at hc; subst hc; exact ha, fun a b e => by simp at e⟩
  · subst e
    refine ⟨by simp, fun c hc => ?_, fun u v e => ?_⟩
    · rcases List.mem_cons.1 hc with rfl | hc
      · exact ha
      · rw [List.mem_singleton.1 hc]; exact hb
    · simp only [List.cons.injEq, and_true] at e
      obtain ⟨rfl, rfl⟩ := e
      exact hab
theorem cli_ok (a : List (Int × Int)) (r : Int) (b : List (Int × Int)) (s : Int) (i : Nat) : MOk (cliM a r b s i) := by
  unfold cliM cliL
  generalize incE b (nmX a i) (nmY a i) = j
  rcases toE_cut a i b j with h | ⟨p, q, h, hp, hq⟩
  · rw [h]; exact MOk.fin (by simp) (fun c hc => by simp at hc) (fun a b h => by simp at h)
  · rw [h]
    have hne : 64 * (i : Int) + 8 * (j : Int) + p.id ≠ 64 * (i : Int) + 8 * (j : Int) + q.id := by omega
    have := addP2 (l := List.foldl (cliP a r s i j) [] [p, q]) hne rfl
    exact MOk.fin this.1 this.2.1 this.2.2
theorem pc_ok (a : List (Int × Int)) (cx cy s : Int) : MOk (pcM a cx cy s) := by
  unfold pcM
  exact MOk.fin addP1.1 addP1.2.1 addP1.2.2
theorem coll_ok (k r : Int) (c : List (Int × Int)) (k' r' : Int) (c' : List (Int × Int)) : MOk (coll k r c k' r' c') := by
  unfold coll
  split
  · exact MOk.zero
  · split
    · unfold rndM rndQ; exact MOk.fin addP1.1 addP1.2.1 addP1.2.2
    · split
      · exact pc_ok _ _ _ _
      · split
        · exact (pc_ok _ _ _ _).flip
        · unfold facM
          split
          · exact MOk.zero
          · split
            · exact cli_ok _ _ _ _ _
            · have h := cli_ok c' r' c r (mxs c' c).1
              by_cases e : (cliM c' r' c r (mxs c' c).1).ps.length = 0
              · rw [h.z e]; exact MOk.zero
              · exact (h.up e).flip
end Go.Carom

/-
  The plain law of contact manifolds: the reference's way, and what is known of the numbers. Conditions: none; no program in sight.
-/
namespace Go.Carom
open Go Go.AL

theorem fmul_neg (n h : Int) : fmul n (-h) = -fmul n h := by
  unfold fmul
  rw [sat_neg h, Int.mul_neg, rdiv_neg, sat_neg]
theorem fadd_neg (c x : Int) : fadd c (-x) = fsub c x := by
  unfold fadd fsub
  rw [sat_neg]; rfl
/-- a point moved back along the normal. -/
theorem back_pt (c n h : Int) : fadd c (fmul n (-h)) = fsub c (fmul n h) := by rw [fmul_neg, fadd_neg]
theorem dirX_ref (x y u : Int) : dirX x y u = if 0 < vlen x y then vnx x y else u := by
  have := vlen_nonneg x y
  unfold dirX
  by_cases h : vlen x y = 0
  · rw [if_pos h, if_neg (by omega)]
  · rw [if_neg h, if_pos (by omega)]
theorem dirY_ref (x y u : Int) : dirY x y u = if 0 < vlen x y then vny x y else u := by
  have := vlen_nonneg x y
  unfold dirY
  by_cases h : vlen x y = 0
  · rw [if_pos h, if_neg (by omega)]
  · rw [if_neg h, if_pos (by omega)]
def Mf.Bd (m : Mf) : Prop := (-65536 ≤ m.x ∧ m.x ≤ 65536) ∧ (-65536 ≤ m.y ∧ m.y ≤ 65536)
theorem Mf.Bd.z : Mf.z.Bd := ⟨by decide, by decide⟩
theorem Mf.Bd.fin {x y : Int} {l : List CPt} (hx : -65536 ≤ x ∧ x ≤ 65536) (hy : -65536 ≤ y ∧ y ≤ 65536) : (Mf.fin ⟨x, y, l⟩).Bd := by
  unfold Mf.fin
  split
  · exact Mf.Bd.z
  · exact ⟨hx, hy⟩
theorem pcN_bd (a : List (Int × Int)) (cx cy : Int) : (-65536 ≤ (pcN a cx cy).1 ∧ (pcN a cx cy).1 ≤ 65536) ∧ (-65536 ≤ (pcN a cx cy).2.1 ∧ (pcN a cx cy).2.1 ≤ 65536) := by
  have h1 := nmXY_bd a (mxs a [(cx, cy)]).1
  unfold pcN
  split
  · dsimp only
    refine ⟨?_, ?_⟩
    · unfold dirX; split
      · exact h1.1
      · exact (nrm_bd _ _).1
    · unfold dirY; split
      · exact h1.2
      · exact (nrm_bd _ _).2
  · exact h1
theorem pc_bd (a : List (Int × Int)) (cx cy s : Int) : (pcM a cx cy s).Bd := Mf.Bd.fin (pcN_bd a cx cy).1 (pcN_bd a cx cy).2
theorem Mf.flip_z {m : Mf} (h : m.ps.length = 0) : m.flip = Mf.z := if_pos h
theorem Mf.flip_nz {x y : Int} {l : List CPt} (h : ¬ l.length = 0) : (Mf.mk x y l).flip = ⟨-x, -y, l⟩ := if_neg h
/-- the core of a shape of a kind: how many vertices. -/
structure CoreOk (k : Int) (c : List (Int × Int)) : Prop where
  k1 : 1 ≤ k
  k3 : k ≤ 3
  n8 : c.length ≤ 8
  pos : 1 ≤ c.length
  n1 : k = 1 → c.length = 1
  n2 : k = 2 → c.length = 2
  n3 : k = 3 → 3 ≤ c.length
theorem core_ok {k r : Int} {ps : List (Int × Int)} (px py a : Int) (hv : sval k r ps = 0) : CoreOk k (core k r ps px py a) := by
  have ok := sval_ok hv
  have l := core_len_if (px := px) (py := py) (a := a) hv
  refine ⟨ok.k1, ok.k3, by rw [l]; exact ok.pos.2, by rw [l]; exact ok.pos.1, fun e => by rw [l]; exact ok.n1 e, fun e => by rw [l]; exact ok.n2 e, fun e => ?_⟩
  rw [l]
  have h1 := ok.k1_iff
  have h2 := ok.k2_iff
  have hp := ok.pos.1
  rcases Nat.lt_or_ge ps.length 3 with h | h
  · exfalso
    have : ps.length = 1 ∨ ps.length = 2 := by omega
    rcases this with e | e
    · have := h1.2 e; omega
    · have := h2.2 e; omega
  · exact h
/-- the manifold of two shapes in their places. -/
def collS (k r : Int) (ps : List (Int × Int)) (px py a k' r' : Int) (qs : List (Int × Int)) (ux uy b : Int) : Mf := coll k r (core k r ps px py a) k' r' (core k' r' qs ux uy b)
theorem collS_no {k r : Int} {ps : List (Int × Int)} {px py a k' r' : Int} {qs : List (Int × Int)} {ux uy b : Int} (h : ¬ sval k r ps = 0 ∨ ¬ sval k' r' qs = 0) : collS k r ps px py a k' r' qs ux uy b = Mf.z := by
  unfold collS coll
  rw [if_pos]
  rcases h with h | h
  · left; rw [core_no h]; rfl
  · right; rw [core_no h]; rfl
theorem coll_rnd {k r : Int} {c : List (Int × Int)} {k' r' : Int} {c' : List (Int × Int)} (h : 1 ≤ c.length) (h' : 1 ≤ c'.length) (h1 : k ≠ 3) (h2 : k' ≠ 3) : coll k r c k' r' c' = rndM (vx c 0) (vy c 0) (vx c (c.length - 1)) (vy c (c.length - 1)) r (vx c' 0) (vy c' 0) (vx c' (c'.length - 1)) (vy c' (c'.length - 1)) r' := by
  unfold coll; rw [if_neg (by omega), if_pos ⟨h1, h2⟩]
theorem coll_pc {k r : Int} {c : List (Int × Int)} {r' : Int} {c' : List (Int × Int)} (h : 1 ≤ c.length) (h' : 1 ≤ c'.length) (h1 : k = 3) : coll k r c 1 r' c' = pcM c (vx c' 0) (vy c' 0) r' := by
  unfold coll; rw [if_neg (by omega), if_neg (fun e => e.1 h1), if_pos rfl]
theorem coll_cp {r : Int} {c : List (Int × Int)} {k' r' : Int} {c' : List (Int × Int)} (h : 1 ≤ c.length) (h' : 1 ≤ c'.length) (h1 : k' = 3) : coll 1 r c k' r' c' = (pcM c' (vx c 0) (vy c 0) r).flip := by
  unfold coll; rw [if_neg (by omega), if_neg (fun e => e.2 h1), if_neg (by omega), if_pos rfl]
theorem coll_fac {k r : Int} {c : List (Int × Int)} {k' r' : Int} {c' : List (Int × Int)} (h : 1 ≤ c.length) (h' : 1 ≤ c'.length) (h0 : k = 3 ∨ k' = 3) (h1 : k ≠ 1) (h2 : k' ≠ 1) : coll k r c k' r' c' = facM c r c' r' := by
  unfold coll; rw [if_neg (by omega), if_neg (by omega), if_neg h2, if_neg h1]
end Go.Carom
