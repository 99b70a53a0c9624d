/-
  The plain law of ManifoldDistance. Conditions: none; no program in sight.
-/
import Derived.Test.YtehlfgikcipdaaaGreatM29
set_option linter.all false
namespace Go.Carom
open Go Go.AL

theorem fsub_up {a b : Int} {c : Int} (h : a ≤ b + c) (hc : 0 ≤ c) (hb : -536870911 ≤ b) (hb' : b ≤ 536870911) : fsub a b ≤ c := by
  unfold fsub
  rw [sat_id hb hb']
  unfold sat
  (repeat' split) <;> omega
theorem vlen_sat (a b c d : Int) : sat (vlen (fsub c a) (fsub d b)) = sat (isqrt (dsq a b c d)) := by
  unfold vlen fsub dsq
  rw [sat_sat, sat_sat]
  have hx := sat_le a
  have hx' := sat_ge a
  have hy := sat_le b
  have hy' := sat_ge b
  have hu := sat_le c
  have hu' := sat_ge c
  have hw := sat_le d
  have hw' := sat_ge d
  generalize sat a = x at *
  generalize sat b = y at *
  generalize sat c = u at *
  generalize sat d = w at *
  have hX : -1073741822 ≤ u - x ∧ u - x ≤ 1073741822 := by omega
  have hY : -1073741822 ≤ w - y ∧ w - y ≤ 1073741822 := by omega
  generalize u - x = X at *
  generalize w - y = Y at *
  have big : ∀ z : Int, 536870911 ≤ z → sat z = 536870911 := fun z hz => by unfold sat; split; omega; split <;> omega
  have m1 := mul_bd hX.1 hX.2 hX.1 hX.2
  have m2 := mul_bd hY.1 hY.2 hY.1 hY.2
  have m3 := mul_bd (sat_ge X) (sat_le X) (sat_ge X) (sat_le X)
  have m4 := mul_bd (sat_ge Y) (sat_le Y) (sat_ge Y) (sat_le Y)
  have s1 := sq_nn X
  have s2 := sq_nn Y
  have s3 := sq_nn (sat X)
  have s4 := sq_nn (sat Y)
  have sqb : ∀ z : Int, ¬ (-536870911 ≤ z ∧ z ≤ 536870911) → 288230375077969921 ≤ z * z ∧ sat z * sat z = 288230375077969921 := fun z hz => by
    by_cases h : z < -536870911
    · have e : sat z = -536870911 := by unfold sat; rw [if_pos h]
      have := Int.mul_le_mul (show 536870911 ≤ -z by omega) (show 536870911 ≤ -z by omega) (by decide) (by omega)
      rw [Int.neg_mul_neg] at this
      rw [e]; exact ⟨by omega, by decide⟩
    · have e : sat z = 536870911 := by unfold sat; rw [if_neg h, if_pos (by omega)]
      have := Int.mul_le_mul (show 536870911 ≤ z by omega) (show 536870911 ≤ z by omega) (by decide) (by omega)
      rw [e]; exact ⟨by omega, by decide⟩
  by_cases h1 : -536870911 ≤ X ∧ X ≤ 536870911
  · by_cases h2 : -536870911 ≤ Y ∧ Y ≤ 536870911
    · rw [sat_id h1.1 h1.2, sat_id h2.1 h2.2]
    · obtain ⟨b1, b2⟩ := sqb Y h2
      rw [big _ (isq_le (by omega) (by omega) (by decide) (by omega)), big _ (isq_le (by omega) (by omega) (by decide) (by omega))]
  · obtain ⟨b1, b2⟩ := sqb X h1
    rw [big _ (isq_le (by omega) (by omega) (by decide) (by omega)), big _ (isq_le (by omega) (by omega) (by decide) (by omega))]
theorem segx_sat (a b c d e f g h : Int) : segx (sat a) (sat b) (sat c) (sat d) (sat e) (sat f) (sat g) (sat h) = segx a b c d e f g h := by
  unfold segx seg2 orient area2
  simp only [sat_sat]
theorem sdist_cps (a b c d e f g h : Int) : sdist a b c d e f g h = sat (isqrt (cps a b c d e f g h).dist) := by
  unfold sdist
  split
  · rename_i hs
    rw [cps_dist, segx_sat, if_pos hs, isqrt_0]; rfl
  · rfl
theorem rndS_sd (a b c d e f g h r s : Int) : rndS (cps a b c d e f g h) r s = fsub (fsub (sdist a b c d e f g h) r) s := by
  unfold rndS
  have e : ∀ z w : Int, sat z = w → fsub z r = fsub w r := fun z w hz => by unfold fsub; rw [← hz, sat_sat]
  rw [e _ _ (vlen_sat _ _ _ _), sdist_cps]; rfl
theorem rnd_ok (a b c d e f g h r s : Int) : (rndM a b c d r e f g h s).ok = decide (fsub (fsub (sdist a b c d e f g h) r) s ≤ 1024) := by
  unfold rndM
  by_cases hg : rndS (cps a b c d e f g h) r s ≤ 1024
  · have hf : rndQ (cps a b c d e f g h) r s = _ := fin1_in hg
    rw [hf, decide_eq_true (by rw [← rndS_sd]; exact hg)]; rfl
  · have hf : rndQ (cps a b c d e f g h) r s = _ := fin1_out hg
    rw [hf, decide_eq_false (by rw [← rndS_sd]; exact hg)]; rfl

/-- a circle whose center lies in a polygon touches it. -/
theorem poly_touch {k r : Int} {ps : List (Int × Int)} {px py : Int} (a : Int) (hv : sval k r ps = 0) (h3 : k = 3) (hp : -268435456 ≤ px ∧ px ≤ 268435456) (hq : -268435456 ≤ py ∧ py ≤ 268435456)
    {x y : Int} (hx : -268435456 ≤ x ∧ x ≤ 268435456) (hy : -268435456 ≤ y ∧ y ≤ 268435456) (hc : polC (core k r ps px py a) x y = true) {s : Int} (hs : 2048 ≤ s ∧ s ≤ 524288) : fsub (pcN (core k r ps px py a) x y).2.2 s ≤ 1024 := by
  have hn3 := (sval_ok hv).n3 h3
  have ir := (sval_ok hv).ir
  have l1 := core_len_if (px := px) (py := py) (a := a) hv
  have hnot : ∀ u v : Int, 0 < u * u + v * v → _ := fun u v h => pol_not' (u := u) (v := v) hv h3 hp hq hc h
  have hpe := fun i (hi : i < ps.length) => poly_edge (px := px) (py := py) a hv h3 hp hq hi
  have hb : ∀ i, i < ps.length → (-2097152 ≤ vx (core k r ps px py a) i - px ∧ vx (core k r ps px py a) i - px ≤ 2097152) ∧ -2097152 ≤ vy (core k r ps px py a) i - py ∧ vy (core k r ps px py a) i - py ≤ 2097152 := fun i hi => by
    obtain ⟨⟨x1, x2⟩, ⟨y1, y2⟩⟩ := inr_bd ir hi
    obtain ⟨⟨c1, c2⟩, ⟨s1, s2⟩⟩ := rt_bd a x1 x2 y1 y2
    rw [core_if hv, vx_map _ _ _ _ hi, vy_map _ _ _ _ hi]
    unfold apx apy
    have e : ∀ r p : Int, -2097152 ≤ r → r ≤ 2097152 → -268435456 ≤ p → p ≤ 268435456 → fadd r p = r + p := fun r p h1 h2 h3 h4 => by
      unfold fadd; rw [sat_id (x := r) (by omega) (by omega), sat_id (x := p) (by omega) (by omega), sat_id (by omega) (by omega)]
    rw [e _ px c1 c2 hp.1 hp.2, e _ py s1 s2 hq.1 hq.2]
    omega
  have sx := sat_id (x := x) (by omega) (by omega)
  have sy := sat_id (x := y) (by omega) (by omega)
  generalize core k r ps px py a = c at *
  rw [sx, sy] at hnot
  have fs : ∀ u v : Int, -268435456 ≤ u → u ≤ 268435456 → -270532608 ≤ v → v ≤ 270532608 → -4194304 ≤ u - v → u - v ≤ 4194304 → fsub u v = u - v := fun u v h1 h2 h3 h4 h5 h6 => by
    unfold fsub; rw [sat_id (x := u) (by omega) (by omega), sat_id (x := v) (by omega) (by omega), sat_id (by omega) (by omega)]
  have fv : ∀ u v : Int, -270532608 ≤ u → u ≤ 270532608 → -270532608 ≤ v → v ≤ 270532608 → -4194304 ≤ u - v → u - v ≤ 4194304 → fsub u v = u - v := fun u v h1 h2 h3 h4 h5 h6 => by
    unfold fsub; rw [sat_id (x := u) (by omega) (by omega), sat_id (x := v) (by omega) (by omega), sat_id (by omega) (by omega)]
  -- the point is near the position
  have nx : -2097152 ≤ x - px ∧ x - px ≤ 2097152 := by
    obtain ⟨i, hi, h⟩ := hnot 1 0 (by decide)
    obtain ⟨j, hj, h'⟩ := hnot (-1) 0 (by decide)
    have b1 := hb i hi
    have b2 := hb j hj
    omega
  have ny : -2097152 ≤ y - py ∧ y - py ≤ 2097152 := by
    obtain ⟨i, hi, h⟩ := hnot 0 1 (by decide)
    obtain ⟨j, hj, h'⟩ := hnot 0 (-1) (by decide)
    have b1 := hb i hi
    have b2 := hb j hj
    omega
  unfold polC at hc
  rw [List.all_eq_true, l1] at hc
  have hor : ∀ i, i < ps.length → 0 ≤ (vx c ((i + 1) % ps.length) - vx c i) * (y - vy c i) - (vy c ((i + 1) % ps.length) - vy c i) * (x - vx c i) := fun i hi => by
    have h1 := hc i (List.mem_range.2 hi)
    have b1 := hb i hi
    have b2 := hb _ (imod_lt hi)
    unfold orE orient area2 at h1
    rw [l1, sx, sy, sat_id (x := vx c i) (by omega) (by omega), sat_id (x := vy c i) (by omega) (by omega), sat_id (x := vx c ((i + 1) % ps.length)) (by omega) (by omega), sat_id (x := vy c ((i + 1) % ps.length)) (by omega) (by omega)] at h1
    simp only [Bool.not_eq_true', decide_eq_false_iff_not] at h1
    split at h1
    · omega
    · split at h1
      · exact absurd h1 (by decide)
      · omega
  unfold pcN
  by_cases hG : 0 < (mxs c [(x, y)]).2
  · rw [if_pos hG]
    have hI : (mxs c [(x, y)]).1 < ps.length := by rw [← l1]; exact mxs_lt (by omega)
    have hval : (mxs c [(x, y)]).2 = vdot (nmX c (mxs c [(x, y)]).1) (nmY c (mxs c [(x, y)]).1) (fsub x (vx c (mxs c [(x, y)]).1)) (fsub y (vy c (mxs c [(x, y)]).1)) := mxG_val _ _
    rw [hval] at hG
    generalize (mxs c [(x, y)]).1 = I at *
    have bI := hb I hI
    have bI' := hb _ (imod_lt hI)
    unfold nmX nmY edgX edgY at hG
    rw [l1, fs x _ (by omega) (by omega) (by omega) (by omega) (by omega) (by omega), fs y _ (by omega) (by omega) (by omega) (by omega) (by omega) (by omega), fv (vx c ((I + 1) % ps.length)) _ (by omega) (by omega) (by omega) (by omega) (by omega) (by omega), fv (vy c ((I + 1) % ps.length)) _ (by omega) (by omega) (by omega) (by omega) (by omega) (by omega)] at hG
    obtain ⟨e0, hull⟩ := hpe I hI
    obtain ⟨l, hl1, hl2, hDp⟩ := near_line e0 (by omega) (by omega) (by omega) (by omega) hG
    have hD0 := hor I hI
    have hcl := fun m (hm : m < ps.length) => clo_le c x y (ps.length - 1) m (by omega)
    have dI : ∀ i, (vx c ((I + 1) % ps.length) - vx c I) * (vx c i - x) + (vy c ((I + 1) % ps.length) - vy c I) * (vy c i - y) = (vx c ((I + 1) % ps.length) - vx c I) * vx c i + (vy c ((I + 1) % ps.length) - vy c I) * vy c i - ((vx c ((I + 1) % ps.length) - vx c I) * x + (vy c ((I + 1) % ps.length) - vy c I) * y) := fun i => by grind
    have gI : (vx c ((I + 1) % ps.length) - vx c I) * (vx c I - x) + (vy c ((I + 1) % ps.length) - vy c I) * (vy c I - y) < (vx c ((I + 1) % ps.length) - vx c I) * (vx c ((I + 1) % ps.length) - x) + (vy c ((I + 1) % ps.length) - vy c I) * (vy c ((I + 1) % ps.length) - y) := by
      have e : (vx c ((I + 1) % ps.length) - vx c I) * (vx c ((I + 1) % ps.length) - x) + (vy c ((I + 1) % ps.length) - vy c I) * (vy c ((I + 1) % ps.length) - y) = ((vx c ((I + 1) % ps.length) - vx c I) * (vx c I - x) + (vy c ((I + 1) % ps.length) - vy c I) * (vy c I - y)) + ((vx c ((I + 1) % ps.length) - vx c I) * (vx c ((I + 1) % ps.length) - vx c I) + (vy c ((I + 1) % ps.length) - vy c I) * (vy c ((I + 1) % ps.length) - vy c I)) := by grind
      omega
    generalize hax : vx c ((I + 1) % ps.length) - vx c I = ax at *
    generalize hay : vy c ((I + 1) % ps.length) - vy c I = ay at *
    obtain ⟨k1, hk1, g1⟩ := hnot (-ax) (-ay) (by rw [Int.neg_mul_neg, Int.neg_mul_neg]; omega)
    obtain ⟨k2, hk2, g2⟩ := hnot ax ay (by omega)
    have g1' : ax * (vx c k1 - x) + ay * (vy c k1 - y) ≤ 0 := by
      have e : -ax * (x - vx c k1) + -ay * (y - vy c k1) = ax * (vx c k1 - x) + ay * (vy c k1 - y) := by grind
      omega
    have g2' : 0 ≤ ax * (vx c k2 - x) + ay * (vy c k2 - y) := by
      have e : ax * (x - vx c k2) + ay * (y - vy c k2) = -(ax * (vx c k2 - x) + ay * (vy c k2 - y)) := by grind
      omega
    obtain ⟨m, hm, f1, f2, f3⟩ := cyc_up0 (f := fun i => ax * (vx c i - x) + ay * (vy c i - y)) hk1 hk2 hI g1' g2' gI
    have hm' := imod_lt hm
    have bm := hb m hm
    have bm' := hb _ hm'
    have hA : ax * (x - vx c m) + ay * (y - vy c m) = -(ax * (vx c m - x) + ay * (vy c m - y)) := by grind
    have hB : ax * (vx c ((m + 1) % ps.length) - vx c m) + ay * (vy c ((m + 1) % ps.length) - vy c m) = (ax * (vx c ((m + 1) % ps.length) - x) + ay * (vy c ((m + 1) % ps.length) - y)) - (ax * (vx c m - x) + ay * (vy c m - y)) := by grind
    have hE := edge_near (ax := ax) (ay := ay) (l := l) (Dp := ax * (y - vy c I) - ay * (x - vx c I)) (Dm := ax * (vy c m - vy c I) - ay * (vx c m - vx c I)) (Dn := ax * (vy c ((m + 1) % ps.length) - vy c I) - ay * (vx c ((m + 1) % ps.length) - vx c I))
      (qx := x - vx c m) (qy := y - vy c m) (Ex := vx c ((m + 1) % ps.length) - vx c m) (Ey := vy c ((m + 1) % ps.length) - vy c m) hl2 hl1 hDp hD0 (hull m hm) (hull _ hm') (by grind) (by grind) (by omega) (by omega) (hor m hm)
    have hN := cp_near (X := vx c m) (Y := vy c m) (X' := vx c ((m + 1) % ps.length)) (Y' := vy c ((m + 1) % ps.length)) (x := x) (y := y) (A := ax * (x - vx c m) + ay * (y - vy c m)) (B := ax * (vx c ((m + 1) % ps.length) - vx c m) + ay * (vy c ((m + 1) % ps.length) - vy c m))
      (by omega) (by omega) (by omega) (by omega) (by omega) (by omega) (by omega) (by omega) (by omega) (by omega) (by omega) (by omega) (by omega) hE
    have hle := hcl m hm
    have hcE : dsq (cloE c x y m).1 (cloE c x y m).2 x y ≤ 9437184 := by
      obtain ⟨n1, ⟨n2, n3⟩, n4, n5⟩ := hN
      unfold cloE dsq
      simp only [l1]
      rw [sx, sy, sat_id n2 n3, sat_id n4 n5]
      exact n1
    have hd : dsq (clo c x y (c.length - 1)).1 (clo c x y (c.length - 1)).2 x y ≤ 9437184 := by rw [l1]; omega
    have hv := vlen_sat (clo c x y (c.length - 1)).1 (clo c x y (c.length - 1)).2 x y
    have h0 : 0 ≤ dsq (clo c x y (c.length - 1)).1 (clo c x y (c.length - 1)).2 x y := by
      unfold dsq; exact Int.add_nonneg (sq_nn _) (sq_nn _)
    obtain ⟨q1, q2, q3⟩ := isqrt_spec h0 (by omega)
    have q4 : isqrt (dsq (clo c x y (c.length - 1)).1 (clo c x y (c.length - 1)).2 x y) < 3073 := sq_lt q1 (by omega) (by omega)
    rw [sat_id (x := isqrt _) (by omega) (by omega)] at hv
    show fsub (vlen (fsub x (clo c x y (c.length - 1)).1) (fsub y (clo c x y (c.length - 1)).2)) s ≤ 1024
    refine fsub_up ?_ (by decide) (by omega) (by omega)
    unfold sat at hv
    split at hv
    · omega
    · split at hv <;> omega
  · rw [if_neg hG]
    exact fsub_up (by show (mxs c [(x, y)]).2 ≤ _; omega) (by decide) (by omega) (by omega)

theorem pc_in {c : List (Int × Int)} {x y s : Int} (h : fsub (pcN c x y).2.2 s ≤ 1024) : (pcM c x y s).ok = true := by
  have hf : pcM c x y s = _ := fin1_in h
  rw [hf]; rfl
theorem md_ok {k r : Int} {ps : List (Int × Int)} {px py : Int} (a : Int) (hv : sval k r ps = 0) (h3 : k ≠ 3) {s : Int} (hs : 2048 ≤ s ∧ s ≤ 524288) {x y : Int} (hx : -268435456 ≤ x ∧ x ≤ 268435456) (hy : -268435456 ≤ y ∧ y ≤ 268435456) (b : Int) :
    (collS k r ps px py a 1 s [(0, 0)] x y b).ok = decide (fsub (fsub (sdist (vx (core k r ps px py a) 0) (vy (core k r ps px py a) 0) (vx (core k r ps px py a) ((core k r ps px py a).length - 1)) (vy (core k r ps px py a) ((core k r ps px py a).length - 1)) x y x y) r) s ≤ 1024) := by
  unfold collS
  rw [circ_core' s x y b hs.1 hs.2, sat_id (x := x) (by omega) (by omega), sat_id (x := y) (by omega) (by omega), coll_rnd (k' := 1) (c' := [(x, y)]) (core_ok px py a hv).pos (Nat.le_refl 1) h3 (by decide), rnd_ok]
  rfl
theorem md_in {k r : Int} {ps : List (Int × Int)} {px py : Int} (a : Int) (hv : sval k r ps = 0) (hp : -268435456 ≤ px ∧ px ≤ 268435456) (hq : -268435456 ≤ py ∧ py ≤ 268435456) {s : Int} (hs : 2048 ≤ s ∧ s ≤ 524288) {x y : Int} (hx : -268435456 ≤ x ∧ x ≤ 268435456) (hy : -268435456 ≤ y ∧ y ≤ 268435456) (b : Int)
    (hc : shC (core k r ps px py a) r x y = true) : (collS k r ps px py a 1 s [(0, 0)] x y b).ok = true := by
  have ok := core_ok px py a hv
  have hr : 0 ≤ r ∧ r ≤ 524288 := by
    have h := (sval_ok hv).rb
    unfold sradB at h
    simp only [Bool.or_eq_false_iff, Bool.and_eq_false_iff, decide_eq_false_iff_not, Bool.not_eq_false', decide_eq_true_eq] at h
    omega
  by_cases h3 : k = 3
  · have hn := ok.n3 h3
    unfold shC at hc
    rw [if_neg (by omega), if_neg (by omega), if_neg (by omega)] at hc
    unfold collS
    rw [circ_core' s x y b hs.1 hs.2, sat_id (x := x) (by omega) (by omega), sat_id (x := y) (by omega) (by omega), coll_pc (c' := [(x, y)]) ok.pos (Nat.le_refl 1) h3]
    exact pc_in (poly_touch a hv h3 hp hq hx hy hc hs)
  · rw [md_ok a hv h3 hs hx hy b]
    have hn : (core k r ps px py a).length = 1 ∨ (core k r ps px py a).length = 2 := by
      have h1 := ok.k1
      have h2 := ok.k3
      rcases (by omega : k = 1 ∨ k = 2) with e | e
      · exact .inl (ok.n1 e)
      · exact .inr (ok.n2 e)
    have key : sdist (vx (core k r ps px py a) 0) (vy (core k r ps px py a) 0) (vx (core k r ps px py a) ((core k r ps px py a).length - 1)) (vy (core k r ps px py a) ((core k r ps px py a).length - 1)) x y x y ≤ r := by
      unfold shC at hc
      rcases hn with e | e
      · rw [if_neg (by omega), if_pos e, decide_eq_true_eq] at hc
        rw [e, sdist_cps, cps_pts]
        show sat (isqrt (dsq _ _ _ _)) ≤ r
        rw [← vlen_sat]
        have es : ∀ a b, fsub (sat a) (sat b) = fsub a b := fun a b => by unfold fsub; rw [sat_sat, sat_sat]
        rw [es, es]
        unfold sat
        have := vlen_nonneg (fsub x (vx (core k r ps px py a) 0)) (fsub y (vy (core k r ps px py a) 0))
        (repeat' split) <;> omega
      · rw [if_neg (by omega), if_neg (by omega), if_pos e, decide_eq_true_eq] at hc
        rw [e, sdist_sym]
        exact hc
    refine decide_eq_true (fsub_up ?_ (by decide) (by omega) (by omega))
    have := fsub_up (a := sdist (vx (core k r ps px py a) 0) (vy (core k r ps px py a) 0) (vx (core k r ps px py a) ((core k r ps px py a).length - 1)) (vy (core k r ps px py a) ((core k r ps px py a).length - 1)) x y x y) (b := r) (c := 0) (by omega) (by decide) (by omega) (by omega)
    omega
end Go.Carom
