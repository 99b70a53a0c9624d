/-
  The plain law of chapter 27: a world that already has its contacts. Conditions: none; no program in sight.
-/
import Derived.Test.YtplmagdbnbijlaaGreatM78
import Derived.Test.YtplmagdbnbijlaaGreatMD
set_option linter.all false
namespace Go.Carom
open Go.RowKit Go.AL
/-! ### unit vectors -/
theorem fdiv_m {x l : Int} (hl : 1 ≤ l) (hl' : l ≤ 536870911) (h : -l ≤ x) (h' : x ≤ l) : 2 * (fdiv x l * l) ≤ 131072 * x + l ∧ 131072 * x - l ≤ 2 * (fdiv x l * l) := by
  have hs := rdiv_spec (n := x * 65536) (d := l) hl (by omega) (by omega) (by omega)
  have hb := rdiv_abs (n := x * 65536) (d := l) (m := 65536) hl (by omega) (by omega) (by omega) (by omega) (by omega) (by omega)
  unfold fdiv
  rw [sat_id (x := l) (by omega) (by omega), if_neg (by omega), if_neg (by omega), sat_id (x := x) (by omega) (by omega), sat_id (by omega) (by omega)]
  omega
theorem nrm_len {x y : Int} (h : ¬ vlen x y = 0) : 4294836224 ≤ vnx x y * vnx x y + vny x y * vny x y := by
  have hx := sq_nonneg' (sat x)
  have hy := sq_nonneg' (sat y)
  have hm := sat_mul x x
  have hm' := sat_mul y y
  have hl : ∀ z : Int, z * z ≤ sat x * sat x + sat y * sat y → 0 ≤ z → z ≤ vlen x y := fun z hz hz0 => isq_le (by omega) (by omega) hz0 hz
  have hsp : 0 ≤ vlen x y ∧ vlen x y * vlen x y ≤ sat x * sat x + sat y * sat y ∧ _ := isqrt_spec (by omega) (by omega)
  have c1 : sat x ≤ vlen x y := by
    by_cases c : 0 ≤ sat x
    · exact hl _ (by omega) c
    · omega
  have c2 : -sat x ≤ vlen x y := by
    by_cases c : 0 ≤ -sat x
    · exact hl _ (by rw [Int.neg_mul_neg]; omega) c
    · omega
  have s1 : sat y ≤ vlen x y := by
    by_cases c : 0 ≤ sat y
    · exact hl _ (by omega) c
    · omega
  have s2 : -sat y ≤ vlen x y := by
    by_cases c : 0 ≤ -sat y
    · exact hl _ (by rw [Int.neg_mul_neg]; omega) c
    · omega
  have e : ∀ a l, fdiv a l = fdiv (sat a) (sat l) := fun a l => by unfold fdiv; rw [sat_sat, sat_sat]
  have x1 := sat_le x
  have x2 := sat_ge x
  have y1 := sat_le y
  have y2 := sat_ge y
  have hM : sat (vlen x y) ≤ vlen x y ∧ 1 ≤ sat (vlen x y) ∧ sat (vlen x y) ≤ 536870911 ∧ (sat (vlen x y) = vlen x y ∨ sat (vlen x y) = 536870911) := by
    have := hsp.1
    unfold sat
    split
    · omega
    · split <;> omega
  unfold vnx vny
  rw [if_neg h, if_neg h, e x, e y]
  have q : sat (vlen x y) * sat (vlen x y) ≤ vlen x y * vlen x y := Int.mul_le_mul hM.1 hM.1 (by omega) (by omega)
  have hMM : 1 * 1 ≤ sat (vlen x y) * sat (vlen x y) := Int.mul_le_mul hM.2.1 hM.2.1 (by omega) (by omega)
  clear hl e
  generalize sat x = X at *
  generalize sat y = Y at *
  generalize sat (vlen x y) = M at *
  generalize vlen x y = L at *
  have f1 := fdiv_m (x := X) (l := M) hM.2.1 hM.2.2.1 (by omega) (by omega)
  have f2 := fdiv_m (x := Y) (l := M) hM.2.1 hM.2.2.1 (by omega) (by omega)
  generalize fdiv X M = c at *
  generalize fdiv Y M = s at *
  have g1 := sq_low f1.1 f1.2 (by omega) (by omega)
  have g2 := sq_low f2.1 f2.2 (by omega) (by omega)
  have e1 : c * M * (c * M) + s * M * (s * M) = (c * c + s * s) * (M * M) := by grind
  have hq : ¬ c * c + s * s ≤ 4294836223 := fun h => by
    have := Int.mul_le_mul_of_nonneg_right h (show 0 ≤ M * M by omega)
    omega
  omega
def Nk (x y : Int) : Prop := x = 0 ∧ y = 0 ∨ 32768 ≤ vdot x y x y
theorem Nk.nrm (x y : Int) : Nk (vnx x y) (vny x y) := by
  by_cases h : vlen x y = 0
  · left
    unfold vnx vny
    rw [if_pos h, if_pos h]
    exact ⟨rfl, rfl⟩
  · right
    have h1 := nrm_len h
    have h2 := nrm_bd x y
    generalize vnx x y = c at *
    generalize vny x y = s at *
    have m1 := mul_bd (A := 65536) (B := 65536) h2.1.1 h2.1.2 h2.1.1 h2.1.2
    have m2 := mul_bd (A := 65536) (B := 65536) h2.2.1 h2.2.2 h2.2.1 h2.2.2
    unfold vdot prd
    rw [sat_id (x := c) (by omega) (by omega), sat_id (x := s) (by omega) (by omega)]
    have hs := rdiv_spec (n := c * c + s * s) (d := 65536) (by omega) (by omega) (by omega) (by omega)
    rw [sat_id (by omega) (by omega)]
    omega
theorem Nk.neg {x y : Int} (h : Nk x y) : Nk (-x) (-y) := by
  rcases h with ⟨rfl, rfl⟩ | h
  · exact .inl ⟨rfl, rfl⟩
  · right
    unfold vdot at *
    rw [sat_neg, sat_neg, Int.neg_mul_neg, Int.neg_mul_neg]
    exact h
theorem Nk.dir {x y u v : Int} (h : Nk u v) : Nk (dirX x y u) (dirY x y v) := by
  unfold dirX dirY
  by_cases hv : vlen x y = 0
  · rw [if_pos hv, if_pos hv]; exact h
  · rw [if_neg hv, if_neg hv]; exact Nk.nrm x y
theorem Nk.ws {x y : Int} (h : Nk x y) (ox oy : Int) : wsA x y x y = true ∨ wsA ox oy x y = false := by
  rcases h with ⟨rfl, rfl⟩ | h
  · right
    unfold wsA vdot
    rw [sat_zero, Int.mul_zero, Int.mul_zero]
    rfl
  · exact .inl (decide_eq_true h)
/-! ### manifolds -/
theorem satI_iff (x : Int) : satI x = true ↔ -536870911 ≤ x ∧ x ≤ 536870911 := inR_iff _ _ _
theorem satI_sat (x : Int) : satI (sat x) = true := (satI_iff _).2 ⟨sat_ge x, sat_le x⟩
def PtS (N : Int) (c : CPt) : Prop := (satI c.x = true ∧ satI c.y = true ∧ satI c.s = true) ∧ 0 ≤ c.id ∧ c.id ≤ N
structure MfS (N : Int) (m : Mf) : Prop where
  n : Nk m.x m.y
  b : m.Bd
  p : ∀ c ∈ m.ps, PtS N c
theorem MfS.z (N : Int) : MfS N Mf.z := ⟨.inl ⟨rfl, rfl⟩, Mf.Bd.z, fun c h => by cases h⟩
theorem MfS.fin {N x y : Int} {l : List CPt} (hn : Nk x y) (hx : -65536 ≤ x ∧ x ≤ 65536) (hy : -65536 ≤ y ∧ y ≤ 65536) (hp : ∀ c ∈ l, PtS N c) : MfS N (Mf.fin ⟨x, y, l⟩) := by
  unfold Mf.fin
  split
  · exact MfS.z N
  · exact ⟨hn, ⟨hx, hy⟩, hp⟩
theorem MfS.flip {N : Int} {m : Mf} (h : MfS N m) : MfS N m.flip := by
  unfold Mf.flip
  split
  · exact MfS.z N
  · obtain ⟨⟨b1, b2⟩, b3, b4⟩ := h.b
    exact ⟨h.n.neg, ⟨⟨by show -65536 ≤ -m.x; omega, by show -m.x ≤ 65536; omega⟩, by show -65536 ≤ -m.y; omega, by show -m.y ≤ 65536; omega⟩, h.p⟩
theorem MfS.up {N : Int} {m : Mf} (h : MfS N m) : MfS (N + 4096) m.up := by
  refine ⟨h.n, h.b, fun c hc => ?_⟩
  obtain ⟨d, hd, rfl⟩ := List.mem_map.1 (show c ∈ m.ps.map up12 from hc)
  obtain ⟨h1, h2, h3⟩ := h.p d hd
  exact ⟨h1, by show 0 ≤ d.id + 4096; omega, by show d.id + 4096 ≤ N + 4096; omega⟩
theorem MfS.le {N N' : Int} {m : Mf} (h : MfS N m) (hn : N ≤ N') : MfS N' m := ⟨h.n, h.b, fun c hc => by
  obtain ⟨h1, h2, h3⟩ := h.p c hc
  exact ⟨h1, h2, by omega⟩⟩
theorem pts_add {N nx ny px py d s id : Int} {l : List CPt} (hl : ∀ c ∈ l, PtS N c) (hs : satI s = true) (h0 : 0 ≤ id) (hN : id ≤ N) : ∀ c ∈ addP nx ny l px py d s id, PtS N c := by
  unfold addP
  split
  · intro c hc
    rcases List.mem_append.1 hc with h | h
    · exact hl c h
    · rw [List.mem_singleton.1 h]
      exact ⟨⟨satI_sat _, satI_sat _, hs⟩, h0, hN⟩
  · exact hl
theorem rnd_MfS (q : Q4) (r s : Int) : MfS 511 (rndQ q r s) := by
  unfold rndQ
  have b := nrm_bd (fsub q.c q.a) (fsub q.d q.b)
  refine MfS.fin (Nk.dir (.inr (by rw [show vdot 0 65536 0 65536 = 65536 by kernel_rfl]; decide))) ?_ ?_ (pts_add (fun c h => by cases h) (satI_sat _) (by omega) (by omega))
  · unfold rndX dirX; split <;> omega
  · unfold rndY dirY; split <;> omega
theorem pcN_Nk (a : List (Int × Int)) (cx cy : Int) : Nk (pcN a cx cy).1 (pcN a cx cy).2.1 := by
  unfold pcN
  split
  · exact Nk.dir (Nk.nrm _ _)
  · exact Nk.nrm _ _
theorem pc_MfS (a : List (Int × Int)) (cx cy s : Int) : MfS 511 (pcM a cx cy s) :=
  MfS.fin (pcN_Nk a cx cy) (pcN_bd a cx cy).1 (pcN_bd a cx cy).2 (pts_add (fun c h => by cases h) (satI_sat _) (by omega) (by omega))
theorem cli_MfS {a : List (Int × Int)} (r : Int) {b : List (Int × Int)} (s : Int) {i : Nat} (hi : i ≤ 7) (hb : b.length ≤ 8) (hb' : 1 ≤ b.length) : MfS 511 (cliM a r b s i) := by
  have hj := incE_lt (b := b) (nx := nmX a i) (ny := nmY a i) (by omega)
  have hn := nmXY_bd a i
  unfold cliM cliL
  generalize incE b (nmX a i) (nmY a i) = j at *
  rcases toE_cut a i b j with h | ⟨p, q, h, hp, hq⟩
  · rw [h]; exact MfS.fin (Nk.nrm _ _) hn.1 hn.2 (fun c h => by cases h)
  · rw [h]
    exact MfS.fin (Nk.nrm _ _) hn.1 hn.2 (pts_add (pts_add (fun c h => by cases h) (satI_sat _) (by omega) (by omega)) (satI_sat _) (by omega) (by omega))
theorem fac_MfS {a : List (Int × Int)} (r : Int) {b : List (Int × Int)} (s : Int) (ha : a.length ≤ 8) (ha' : 1 ≤ a.length) (hb : b.length ≤ 8) (hb' : 1 ≤ b.length) : MfS 4607 (facM a r b s) := by
  have h1 := mxs_lt (a := a) (b := b) (by omega)
  have h2 := mxs_lt (a := b) (b := a) (by omega)
  unfold facM
  split
  · exact MfS.z _
  · split
    · exact (cli_MfS r s (by omega) hb hb').le (by omega)
    · exact (cli_MfS s r (by omega) ha ha').up.flip
theorem coll_MfS (k r : Int) {c : List (Int × Int)} (k' r' : Int) {c' : List (Int × Int)} (hc : c.length ≤ 8) (hc' : c'.length ≤ 8) : MfS 4607 (coll k r c k' r' c') := by
  unfold coll
  split
  · exact MfS.z _
  · rename_i h
    split
    · unfold rndM; exact (rnd_MfS _ _ _).le (by omega)
    · split
      · exact (pc_MfS _ _ _ _).le (by omega)
      · split
        · exact (pc_MfS _ _ _ _).flip.le (by omega)
        · exact fac_MfS r r' hc (by omega) hc' (by omega)
theorem collS_MfS (k r : Int) (ps : List (Int × Int)) (px py a k' r' : Int) (qs : List (Int × Int)) (ux uy b : Int) : MfS 4607 (collS k r ps px py a k' r' qs ux uy b) := by
  by_cases hv : sval k r ps = 0 ∧ sval k' r' qs = 0
  · exact coll_MfS _ _ _ _ (core_ok px py a hv.1).n8 (core_ok ux uy b hv.2).n8
  · rw [collS_no (Decidable.not_and_iff_not_or_not.1 hv)]
    exact MfS.z _
theorem mnK_MfS (bs : List Bd) (k : K4) : MfS 4607 (mnK bs k) := collS_MfS _ _ _ _ _ _ _ _ _ _ _ _
theorem mnK_MOk (bs : List Bd) (k : K4) : MOk (mnK bs k) := collS_ok _ _ _ _ _ _ _ _ _ _ _ _
/-! ### warm starting -/
theorem wsR_ok {l : List P6} {id : Int} (h : ∀ o ∈ l, p6ok o = true) : 0 ≤ (wsR id l).1 ∧ satI (wsR id l).1 = true ∧ satI (wsR id l).2 = true := by
  induction l with
  | nil => exact ⟨Int.le_refl 0, rfl, rfl⟩
  | cons o l ih =>
    rw [wsR]
    split
    · have := h o List.mem_cons_self
      unfold p6ok at this
      simp only [Bool.and_eq_true, decide_eq_true_eq] at this
      exact ⟨this.1, this.2.1.2, this.2.2⟩
    · exact ih fun o ho => h o (List.mem_cons_of_mem _ ho)
theorem wsP_ok {l : List P6} (h : ∀ o ∈ l, p6ok o = true) (al : Bool) {N : Int} (hN : N ≤ 536870911) {c : CPt} (hc : PtS N c) : p6ok (wsP l al c.p6) = true := by
  obtain ⟨⟨h1, h2, h3⟩, h4, h5⟩ := hc
  have hi : satI c.id = true := (satI_iff _).2 ⟨by omega, by omega⟩
  have hw := wsR_ok (id := c.id) h
  unfold wsP
  split
  · show (decide (0 ≤ (wsR c.id l).1) && (satI c.x && satI c.y && satI c.s && satI c.id && satI (wsR c.id l).1 && satI (wsR c.id l).2)) = true
    rw [decide_eq_true hw.1, h1, h2, h3, hi, hw.2.1, hw.2.2]; rfl
  · show (decide ((0 : Int) ≤ 0) && (satI c.x && satI c.y && satI c.s && satI c.id && satI 0 && satI 0)) = true
    rw [h1, h2, h3, hi]; rfl
theorem wsP_d (l : List P6) (al : Bool) (p : P6) : (wsP l al p).d = p.d := by unfold wsP; split <;> rfl
theorem ws_twice {l : List P6} {al al' : Bool} {m : List P6} (h2 : m.length ≤ 2) (hd : ∀ a b, m = [a, b] → a.d ≠ b.d) (ha : al' = true ∨ al = false) :
    m.map (wsP (m.map (wsP l al)) al') = m.map (wsP l al) := by
  have one : ∀ p : P6, wsP l al p = ⟨p.a, p.b, p.c, p.d, (wsP l al p).e, (wsP l al p).f⟩ := fun p => by unfold wsP; split <;> rfl
  have two : al = false → ∀ (l' : List P6) p, wsP l' al p = ⟨p.a, p.b, p.c, p.d, 0, 0⟩ := fun h l' p => by unfold wsP; rw [h]; rfl
  have tru : ∀ (l' : List P6) p, wsP l' true p = ⟨p.a, p.b, p.c, p.d, (wsR p.d l').1, (wsR p.d l').2⟩ := fun l' p => by unfold wsP; rw [if_pos rfl]
  have fal : ∀ (l' : List P6) p, wsP l' false p = ⟨p.a, p.b, p.c, p.d, 0, 0⟩ := fun l' p => by unfold wsP; rw [if_neg (by decide)]
  match m, h2, hd with
  | [], _, _ => rfl
  | [a], _, _ =>
    simp only [List.map_cons, List.map_nil]
    congr 1
    cases al' with
    | true =>
      rw [tru, one a]
      simp only [wsR, wsP_d, if_true]
    | false =>
      rcases ha with h | h
      · cases h
      · subst h; rw [fal, fal]
  | [a, b], _, hd =>
    have hab := hd a b rfl
    simp only [List.map_cons, List.map_nil]
    cases al' with
    | true =>
      rw [tru, tru, one a, one b]
      simp only [wsR, wsP_d, if_true, if_neg hab]
    | false =>
      rcases ha with h | h
      · cases h
      · subst h; rw [fal, fal, fal, fal]
theorem oldC_ok {cs : List Ct} (h : ∀ c ∈ cs, ctOk c = true) (k : K4) : ∀ o ∈ (oldC cs k).ps, p6ok o = true := by
  unfold oldC
  split
  · rename_i hk
    have h1 := findK_at hk
    have hc := h _ (getD_mem (d := Ct.o) (show (findK cs k).toNat < cs.length by omega))
    generalize cs.getD (findK cs k).toNat Ct.o = c at *
    unfold ctOk mnOk at hc
    rw [Bool.and_eq_true] at hc
    have h2 := hc.2
    intro o ho
    have h3 := all_getD p6ok P6.o c.ps
    have h4 : c.ps.all p6ok = true := by rw [← h3]; exact h2
    exact List.all_eq_true.1 h4 o ho
  · intro o ho; cases ho
theorem newC_ok {bs : List Bd} {cs : List Ct} (h : ∀ c ∈ cs, ctOk c = true) {k : K4} (hk : acC bs k = true) : ctOk (newC bs cs k) = true := by
  have hS := mnK_MfS bs k
  have hO := mnK_MOk bs k
  unfold acC at hk
  rw [Bool.and_eq_true] at hk
  have hne := hk.2
  unfold Mf.ok at hne
  rw [Bool.not_eq_true', decide_eq_false_iff_not] at hne
  have ho := oldC_ok h k
  obtain ⟨⟨b1, b2⟩, b3, b4⟩ := hS.b
  show mnOk (mnK bs k).x (mnK bs k).y (wsC (oldC cs k) (mnK bs k)) = true
  unfold mnOk mnH
  have hlen : (wsC (oldC cs k) (mnK bs k)).length = (mnK bs k).ps.length := by unfold wsC; rw [List.length_map, List.length_map]
  have hall : (List.range (wsC (oldC cs k) (mnK bs k)).length).all (p6okI (wsC (oldC cs k) (mnK bs k))) = true := by
    have h3 := all_getD p6ok P6.o (wsC (oldC cs k) (mnK bs k))
    refine h3.trans (List.all_eq_true.2 fun p hp => ?_)
    unfold wsC at hp
    obtain ⟨q, hq, rfl⟩ := List.mem_map.1 hp
    obtain ⟨c, hc, rfl⟩ := List.mem_map.1 hq
    exact wsP_ok ho _ (by omega) (hS.p c hc)
  have hids : (decide ((mnK bs k).ps.length = 2) && decide (((wsC (oldC cs k) (mnK bs k)).getD 0 P6.o).d = ((wsC (oldC cs k) (mnK bs k)).getD 1 P6.o).d)) = false := by
    by_cases h2 : (mnK bs k).ps.length = 2
    · have hi := hO.ids
      unfold wsC
      generalize (mnK bs k).ps = l at *
      match l, h2 with
      | [a, b], _ =>
        have := hi a b rfl
        simp only [List.map_cons, List.map_nil, List.getD_cons_zero, List.getD_cons_succ, wsP_d]
        rw [decide_eq_false (show ¬ (CPt.p6 a).d = (CPt.p6 b).d from this), Bool.and_false]
    · rw [decide_eq_false h2]; rfl
  have hn2 := hO.n2
  rw [hall, hlen, hids, decide_eq_true (show 1 ≤ (mnK bs k).ps.length by omega), decide_eq_true hn2, (satI_iff _).2 ⟨by omega, by omega⟩, (satI_iff _).2 ⟨by omega, by omega⟩]
  rfl
/-! ### valid worlds -/
theorem wval_iff (w : Wd) : wval w = 0 ↔ (setOk w = true ∧ wcount w = false ∧ wR w = true ∧ wB w = true ∧ wJ w = true ∧ wC w = true) := by
  unfold wval
  cases setOk w <;> cases wcount w <;> cases wR w <;> cases wB w <;> cases wJ w <;> cases wC w <;> simp
theorem vkeys_kvs (l : List K4) : vkeys l = kvs l := by
  unfold vkeys kvs
  have h : vkI l = kvI l := by
    funext i
    have e1 : ∀ k, k4ok k = kval k := fun k => by
      rw [Bool.eq_iff_iff]
      unfold k4ok kval
      simp only [Bool.and_eq_true, decide_eq_true_eq, inR_iff]
      omega
    have e2 : ∀ a b, k4l a b = kql a b := fun a b => by rw [Bool.eq_iff_iff, k4l_iff, kql_iff]
    unfold vkI kvI
    rw [e1, e2]
    by_cases hi : i = 0
    · rw [decide_eq_true hi]; rfl
    · unfold kPrev; rw [if_neg hi]
  rw [h]
theorem kQ_l (a b : Bd) (p : Nat) : ∀ q, (kQ a b p q).length ≤ q
  | 0 => Nat.le_refl _
  | q + 1 => by
    have := kQ_l a b p q
    show (if okQ a b p q = true then kQ a b p q ++ [keyQ a b p q] else kQ a b p q).length ≤ q + 1
    split
    · rw [List.length_append]; simp; omega
    · omega
theorem kP_l (a b : Bd) (hb : b.fs.length ≤ 4) : ∀ p, (kP a b p).length ≤ p * 4
  | 0 => Nat.le_refl _
  | p + 1 => by
    have h1 := kP_l a b hb p
    have h2 := kQ_l a b p b.fs.length
    show (kP a b p ++ kQ a b p b.fs.length).length ≤ (p + 1) * 4
    rw [List.length_append]; omega
theorem kB_l {bs : List Bd} (hf : ∀ b ∈ bs, b.fs.length ≤ 4) (js : List Jt) {i : Nat} (hi : i < bs.length) : ∀ k, k ≤ bs.length → (kB bs js i k).length ≤ k * 16
  | 0, _ => Nat.le_refl _
  | k + 1, hk => by
    have h1 := kB_l hf js hi k (by omega)
    have h3 := hf _ (getD_mem (d := Bd.o) hi)
    have h4 := hf _ (getD_mem (l := bs) (j := k) (d := Bd.o) (by omega))
    show (if okB bs js i k = true then kB bs js i k ++ kP (bs.getD i Bd.o) (bs.getD k Bd.o) (bs.getD i Bd.o).fs.length else kB bs js i k).length ≤ (k + 1) * 16
    split
    · have h2 := kP_l (bs.getD i Bd.o) (bs.getD k Bd.o) h4 (bs.getD i Bd.o).fs.length
      rw [List.length_append]; omega
    · omega
theorem kA_l {bs : List Bd} (hb : bs.length ≤ 8) (hf : ∀ b ∈ bs, b.fs.length ≤ 4) (js : List Jt) : ∀ i, i ≤ bs.length → (kA bs js i).length ≤ i * 128
  | 0, _ => Nat.le_refl _
  | i + 1, hi => by
    have h1 := kA_l hb hf js i (by omega)
    have h2 := kB_l hf js (i := i) (by omega) bs.length (Nat.le_refl _)
    show (kA bs js i ++ kB bs js i bs.length).length ≤ (i + 1) * 128
    rw [List.length_append]; omega
theorem fpR_l {bs : List Bd} (hb : bs.length ≤ 8) (hf : ∀ b ∈ bs, b.fs.length ≤ 4) (js : List Jt) : (fpR bs js).length ≤ 1024 := by
  unfold fpR
  rw [insL_len]
  have h1 := kA_l hb hf js bs.length (Nat.le_refl _)
  omega
def Wd.wc (w : Wd) (t : List Ct) : Wd := ⟨w.ts, w.gx, w.gy, w.it, w.ss, w.bs, w.js, t, w.ov, w.nid, w.fr⟩
theorem updL_keys (bs : List Bd) (cs : List Ct) (l : List K4) : (updL bs cs l).map Ct.key = l.filter (acC bs) := by
  unfold updL
  rw [List.map_map]
  have : (Ct.key ∘ newC bs cs) = id := by funext k; exact newC_key bs cs k
  rw [this, List.map_id]
theorem upd_keys {w : Wd} (h : wval w = 0) : (upd w).map Ct.key = (fpR w.bs w.js).filter (acC w.bs) := by
  unfold upd; rw [if_pos h]; exact updL_keys _ _ _
theorem upd_SS {w : Wd} (h : wval w = 0) : SS kql ((upd w).map Ct.key) := by
  rw [upd_keys h]
  exact ((fpR_SS w.bs w.js).1).sublist List.filter_sublist
theorem upd_val {w : Wd} (h : wval w = 0) (h8 : w.bs.length ≤ 8) : wval (w.wc (upd w)) = 0 := by
  have hf := wval_fs h
  obtain ⟨h1, h2, h3, h4, h5, h6⟩ := (wval_iff w).1 h
  have hr : upd w = updL w.bs w.cs (fpR w.bs w.js) := if_pos h
  have hlen : (upd w).length ≤ 1024 := by
    rw [hr, ← updI_all]
    exact Nat.le_trans (updI_len _ _ _ _) (fpR_l h8 hf w.js)
  have hsub : ∀ k ∈ (upd w).map Ct.key, k ∈ fpR w.bs w.js := fun k hk => by
    rw [upd_keys h] at hk
    exact (List.mem_filter.1 hk).1
  unfold wC at h6
  rw [fx_app] at h6
  simp only [Bool.and_eq_true] at h6
  obtain ⟨c1, ⟨c2, c3⟩, c4, c5⟩ := h6
  have hct : ∀ c ∈ w.cs, ctOk c = true := by
    have h3 := all_getD ctOk Ct.o w.cs
    exact List.all_eq_true.1 (h3.symm.trans c1)
  refine (wval_iff _).2 ⟨h1, ?_, h3, h4, h5, ?_⟩
  · unfold wcount at *
    simp only [Bool.or_eq_false_iff, decide_eq_false_iff_not] at *
    exact ⟨⟨⟨h2.1.1.1, h2.1.1.2⟩, by show ¬ 8192 < (upd w).length; omega⟩, h2.2⟩
  · unfold wC
    rw [fx_app]
    simp only [Bool.and_eq_true]
    refine ⟨?_, ⟨?_, c3⟩, ?_, c5⟩
    · have h3 := all_getD ctOk Ct.o (upd w)
      refine h3.trans (List.all_eq_true.2 fun c hc => ?_)
      rw [hr] at hc
      obtain ⟨k, hk, rfl⟩ := List.mem_map.1 hc
      exact newC_ok hct (List.mem_filter.1 hk).2
    · rw [vkeys_kvs]
      exact kvs_of (upd_SS h) fun k hk => fp_kval hf (hsub k hk)
    · have h3 := all_getD (fxEx w.bs) K4.o ((upd w).map Ct.key)
      refine h3.trans (List.all_eq_true.2 fun k hk => ?_)
      have := key_has (hsub k hk)
      unfold fxEx
      rw [decide_eq_true this.1, decide_eq_true this.2]; rfl
theorem updL_old {bs : List Bd} {cs : List Ct} {l : List K4} {k : K4} (h : k ∈ l.filter (acC bs)) : oldC (updL bs cs l) k = newC bs cs k := by
  have hk : 0 ≤ findK (updL bs cs l) k := by
    have h1 := findK_neg (updL bs cs l) k
    have h2 : ((updL bs cs l).any fun c => c.keq k) = true := List.any_eq_true.2 ⟨newC bs cs k, List.mem_map.2 ⟨k, h, rfl⟩, (keq_iff _ _).2 (newC_key bs cs k)⟩
    rw [h2] at h1
    have := of_decide_eq_false h1
    omega
  obtain ⟨h1, h2⟩ := findK_at hk
  unfold oldC
  rw [if_pos hk]
  have hm := getD_mem (d := Ct.o) (show (findK (updL bs cs l) k).toNat < (updL bs cs l).length by omega)
  generalize (updL bs cs l).getD (findK (updL bs cs l) k).toNat Ct.o = c at *
  obtain ⟨k', _, rfl⟩ := List.mem_map.1 hm
  rw [newC_key] at h2
  rw [h2]
theorem newC_twice {bs : List Bd} {cs : List Ct} {l : List K4} {k : K4} (h : k ∈ l.filter (acC bs)) : newC bs (updL bs cs l) k = newC bs cs k := by
  have ho := updL_old (cs := cs) h
  unfold newC at *
  rw [ho]
  have hO := mnK_MOk bs k
  have hw := (mnK_MfS bs k).n.ws (oldC cs k).x (oldC cs k).y
  have hi := hO.ids
  have h2 := hO.n2
  have key : wsC ⟨k.a, k.fa, k.b, k.fb, (mnK bs k).x, (mnK bs k).y, wsC (oldC cs k) (mnK bs k)⟩ (mnK bs k) = wsC (oldC cs k) (mnK bs k) := by
    unfold wsC
    refine ws_twice (by rw [List.length_map]; exact h2) (fun a b hab => ?_) hw
    generalize (mnK bs k).ps = q at *
    match q, h2 with
    | [], _ => cases hab
    | [c], _ => simp at hab
    | [c, d], _ =>
      have := hi c d rfl
      simp only [List.map_cons, List.map_nil, List.cons.injEq, and_true] at hab
      obtain ⟨rfl, rfl⟩ := hab
      exact this
  rw [key]
theorem upd_twice {w : Wd} (h : wval w = 0) (h8 : w.bs.length ≤ 8) : upd (w.wc (upd w)) = upd w := by
  have hv := upd_val h h8
  have hr : upd w = updL w.bs w.cs (fpR w.bs w.js) := if_pos h
  have hr2 : upd (w.wc (upd w)) = updL w.bs (upd w) (fpR w.bs w.js) := if_pos hv
  rw [hr2, hr]
  exact List.map_congr_left fun k hk => newC_twice hk
theorem upd_find {w : Wd} (h : wval w = 0) {i : Nat} (hi : i < (upd w).length) : findK (upd w) ((upd w).getD i Ct.o).key = i := by
  have hS := upd_SS h
  have hg : ∀ j, j < (upd w).length → ((upd w).map Ct.key).getD j K4.o = ((upd w).getD j Ct.o).key := fun j hj => by
    rw [List.getD_eq_getElem?_getD, List.getElem?_map, List.getD_eq_getElem?_getD, List.getElem?_eq_getElem hj]; rfl
  have hp : ∀ j, j < i → kql ((upd w).getD j Ct.o).key ((upd w).getD i Ct.o).key = true := fun j hj => by
    have h1 := List.pairwise_iff_getElem.1 hS j i (by rw [List.length_map]; omega) (by rw [List.length_map]; omega) hj
    rw [← hg j (by omega), ← hg i hi, k4_at _ (by rw [List.length_map]; omega), k4_at _ (by rw [List.length_map]; omega)]
    exact h1
  refine fidx_hit hi (fun j hj => ?_) ?_
  · rw [Bool.not_eq_true', ← Bool.not_eq_true, keq_iff]
    intro e
    have := hp j hj
    rw [e] at this
    rw [kql_iff] at this
    omega
  · rw [(keq_iff _ _).2 rfl]; rfl
theorem upd_bad {w : Wd} (h : ¬ wval w = 0) : upd w = [] := if_neg h
end Go.Carom
