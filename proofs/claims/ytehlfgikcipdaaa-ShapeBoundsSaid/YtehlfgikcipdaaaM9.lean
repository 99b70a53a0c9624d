/-
  The plain law of chapters 14 and 18: edges and rays. Conditions: none; no program in sight.
-/
import Derived.Test.YtehlfgikcipdaaaM8
set_option linter.all false
namespace Go.Carom
open Go Go.AL

theorem fsub_sat (a b : Int) : sat (fsub a b) = fsub a b := sat_sat _
theorem fadd_sat (a b : Int) : sat (fadd a b) = fadd a b := sat_sat _
theorem fmul_sat (a b : Int) : sat (fmul a b) = fmul a b := sat_sat _
@[go_sem] theorem w_nfsub (a b : Int) : IntKind.i64.wrap (0 - fsub a b) = -fsub a b := by have := fsub_bd a b; rw [w64_id (by omega) (by omega)]; omega
theorem vcrs_bd (a b c d : Int) : -536870911 ≤ vcrs a b c d ∧ vcrs a b c d ≤ 536870911 := ⟨sat_ge _, sat_le _⟩
@[go_sem] theorem w_nvc (a b c d : Int) : IntKind.i64.wrap (0 - vcrs a b c d) = -vcrs a b c d := by have := vcrs_bd a b c d; rw [w64_id (by omega) (by omega)]; omega
theorem w_rr {r : Int} (h : 0 ≤ r) (h' : r ≤ 536870911) : IntKind.i64.wrap (r * r) = r * r := by
  have := mul_bd (A := 536870911) (B := 536870911) (by omega) h' (by omega) h'
  exact w64_id (by omega) (by omega)
theorem w_hh (a b c d : Int) : IntKind.i64.wrap (vcrs a b c d * vcrs a b c d) = vcrs a b c d * vcrs a b c d := by
  have hb := vcrs_bd a b c d
  have := mul_bd (A := 536870911) (B := 536870911) hb.1 hb.2 hb.1 hb.2
  exact w64_id (by omega) (by omega)
theorem w_rh {r : Int} (h : 0 ≤ r) (h' : r ≤ 536870911) {a b c d : Int} : IntKind.i64.wrap (r * r - vcrs a b c d * vcrs a b c d) = r * r - vcrs a b c d * vcrs a b c d := by
  have hb := vcrs_bd a b c d
  have h1 := mul_bd (A := 536870911) (B := 536870911) hb.1 hb.2 hb.1 hb.2
  have h2 := mul_bd (A := 536870911) (B := 536870911) (by omega) h' (by omega) h'
  exact w64_id (by omega) (by omega)
/-! ### edges -/
def edgeB (c : List (Int × Int)) (i : Int) : Bool := decide (2 ≤ c.length) && decide (0 ≤ i) && decide (i < c.length)
def edX (c : List (Int × Int)) (i : Int) : Int := if edgeB c i = true then fsub (vx c ((i.toNat + 1) % c.length)) (vx c i.toNat) else 0
def edY (c : List (Int × Int)) (i : Int) : Int := if edgeB c i = true then fsub (vy c ((i.toNat + 1) % c.length)) (vy c i.toNat) else 0
def enX (c : List (Int × Int)) (i : Int) : Int := if edgeB c i = true then vnx (edY c i) (-edX c i) else 0
def enY (c : List (Int × Int)) (i : Int) : Int := if edgeB c i = true then vny (edY c i) (-edX c i) else 0
def ediX (c : List (Int × Int)) (i : Int) : Int := if edgeB c i = true then vnx (edX c i) (edY c i) else 0
def ediY (c : List (Int × Int)) (i : Int) : Int := if edgeB c i = true then vny (edX c i) (edY c i) else 0
theorem edX_bd (c : List (Int × Int)) (i : Int) : -536870911 ≤ edX c i ∧ edX c i ≤ 536870911 := by
  unfold edX; split
  · exact fsub_bd _ _
  · omega
@[go_sem] theorem w_nedX (c : List (Int × Int)) (i : Int) : IntKind.i64.wrap (0 - edX c i) = -edX c i := by have := edX_bd c i; rw [w64_id (by omega) (by omega)]; omega
/-- what a ray's cast gives: a fraction, a normal, whether it hits. -/
structure Hit where
  t : Int
  x : Int
  y : Int
  ok : Bool
def Hit.no : Hit := ⟨0, 0, 0, false⟩
def Hit.v (h : Hit) : AV := .tup [.i h.t, .agg [.i h.x, .i h.y], .b h.ok]
theorem lt_hit (N : Nat) (h : Hit) : Lt N h.v := .tup _ (lt_cons (lt_i _ _) (lt_cons (lt_agg (lt_cons (lt_i _ _) (lt_cons (lt_i _ _) lt_nil))) (lt_cons (lt_b _ _) lt_nil)))
/-! ### circles -/
section
variable (cx cy r fx fy tx ty : Int)
def rdx : Int := fsub (sat tx) (sat fx)
def rdy : Int := fsub (sat ty) (sat fy)
def rln : Int := vlen (rdx fx tx) (rdy fy ty)
def rux : Int := vnx (rdx fx tx) (rdy fy ty)
def ruy : Int := vny (rdx fx tx) (rdy fy ty)
def rmx : Int := fsub cx (sat fx)
def rmy : Int := fsub cy (sat fy)
def rhh : Int := vcrs (rux fx fy tx ty) (ruy fx fy tx ty) (rmx cx fx) (rmy cy fy)
def ree : Int := fsub (vdot (rmx cx fx) (rmy cy fy) (rux fx fy tx ty) (ruy fx fy tx ty)) (isqrt (r * r - rhh cx cy fx fy tx ty * rhh cx cy fx fy tx ty))
def rtt : Int := frat (ree cx cy r fx fy tx ty) (rln fx fy tx ty)
def rpx : Int := fsub (flerp (sat fx) (sat tx) (rtt cx cy r fx fy tx ty)) cx
def rpy : Int := fsub (flerp (sat fy) (sat ty) (rtt cx cy r fx fy tx ty)) cy
def rmiss : Bool := decide (rln fx fy tx ty = 0) || decide (r < 0) || decide (536870911 < r) || decide (r < imax (rhh cx cy fx fy tx ty) (-rhh cx cy fx fy tx ty))
def rcirc : Hit := if rmiss cx cy r fx fy tx ty = true then Hit.no else
  if (decide (ree cx cy r fx fy tx ty < 0) || decide (rln fx fy tx ty < ree cx cy r fx fy tx ty)) = true then Hit.no else
  ⟨rtt cx cy r fx fy tx ty, vnx (rpx cx cy r fx fy tx ty) (rpy cx cy r fx fy tx ty), vny (rpx cx cy r fx fy tx ty) (rpy cx cy r fx fy tx ty), true⟩
end
theorem rmiss_b {cx cy r fx fy tx ty : Int} (h : rmiss cx cy r fx fy tx ty = false) : 0 ≤ r ∧ r ≤ 536870911 := by
  unfold rmiss at h
  simp only [Bool.or_eq_false_iff, decide_eq_false_iff_not] at h
  omega
theorem rcirc_out {cx cy r fx fy tx ty : Int} (hm : rmiss cx cy r fx fy tx ty = false) (h : (decide (ree cx cy r fx fy tx ty < 0) || decide (rln fx fy tx ty < ree cx cy r fx fy tx ty)) = true) : rcirc cx cy r fx fy tx ty = Hit.no := by
  unfold rcirc; rw [if_neg (Bool.eq_false_iff.1 hm), if_pos h]
theorem rcirc_hit {cx cy r fx fy tx ty : Int} (hm : rmiss cx cy r fx fy tx ty = false) (h : (decide (ree cx cy r fx fy tx ty < 0) || decide (rln fx fy tx ty < ree cx cy r fx fy tx ty)) = false) : rcirc cx cy r fx fy tx ty =
    ⟨rtt cx cy r fx fy tx ty, vnx (rpx cx cy r fx fy tx ty) (rpy cx cy r fx fy tx ty), vny (rpx cx cy r fx fy tx ty) (rpy cx cy r fx fy tx ty), true⟩ := by
  unfold rcirc; rw [if_neg (Bool.eq_false_iff.1 hm), if_neg (Bool.eq_false_iff.1 h)]
theorem rmiss_ref (cx cy r fx fy tx ty : Int) : rmiss cx cy r fx fy tx ty = (decide (rln fx fy tx ty = 0) || decide (r < 0) || decide (536870911 < r) || decide (r < rhh cx cy fx fy tx ty) || decide (r < -rhh cx cy fx fy tx ty)) := by
  unfold rmiss imax
  generalize rhh cx cy fx fy tx ty = h
  rw [Bool.eq_iff_iff]
  simp only [Bool.or_eq_true, decide_eq_true_eq]
  split <;> omega
/-! ### polygons -/
structure PSt where
  en : Int
  ex : Int
  fi : Int
  le : Bool
def pX (c : List (Int × Int)) (fx fy : Int) (i : Nat) : Int := vdot (enX c i) (enY c i) (fsub (vx c i) (sat fx)) (fsub (vy c i) (sat fy))
def pY (c : List (Int × Int)) (fx fy tx ty : Int) (i : Nat) : Int := vdot (enX c i) (enY c i) (rdx fx tx) (rdy fy ty)
def pT (c : List (Int × Int)) (fx fy tx ty : Int) (i : Nat) : Int := fdiv (pX c fx fy i) (pY c fx fy tx ty i)
def pGood (c : List (Int × Int)) (fx fy tx ty : Int) (i : Nat) : Bool := !(decide (pY c fx fy tx ty i = 0) && decide (pX c fx fy i < 0))
def pStep (c : List (Int × Int)) (fx fy tx ty : Int) (i : Nat) (s : PSt) : PSt :=
  if pY c fx fy tx ty i < 0 then (if s.fi < 0 ∨ s.en < pT c fx fy tx ty i then ⟨pT c fx fy tx ty i, s.ex, i, s.le⟩ else s)
  else if 0 < pY c fx fy tx ty i then (if s.le = false ∨ pT c fx fy tx ty i < s.ex then ⟨s.en, pT c fx fy tx ty i, s.fi, true⟩ else s) else s
def pSt (c : List (Int × Int)) (fx fy tx ty : Int) : Nat → PSt
  | 0 => ⟨0, 0, -1, false⟩
  | i + 1 => pStep c fx fy tx ty i (pSt c fx fy tx ty i)
def pMiss (s : PSt) : Bool := decide (s.fi < 0) || decide (s.en < 0) || decide (65536 < s.en) || (s.le && decide (s.ex < s.en))
def rpol (c : List (Int × Int)) (fx fy tx ty : Int) : Hit :=
  if (decide (2 ≤ c.length) && (List.range c.length).all (pGood c fx fy tx ty)) = true then
    (if pMiss (pSt c fx fy tx ty c.length) = true then Hit.no else
      ⟨(pSt c fx fy tx ty c.length).en, enX c (pSt c fx fy tx ty c.length).fi, enY c (pSt c fx fy tx ty c.length).fi, true⟩)
  else Hit.no
section
variable {c : List (Int × Int)} {fx fy tx ty : Int} {i : Nat}
theorem pSt_a (h : pY c fx fy tx ty i < 0) (h' : (decide ((pSt c fx fy tx ty i).fi < 0) || decide ((pSt c fx fy tx ty i).en < pT c fx fy tx ty i)) = true) : pSt c fx fy tx ty (i + 1) = ⟨pT c fx fy tx ty i, (pSt c fx fy tx ty i).ex, i, (pSt c fx fy tx ty i).le⟩ := by
  rw [pSt, pStep, if_pos h, if_pos (by simpa using h')]
theorem pSt_b (h : pY c fx fy tx ty i < 0) (h' : (decide ((pSt c fx fy tx ty i).fi < 0) || decide ((pSt c fx fy tx ty i).en < pT c fx fy tx ty i)) = false) : pSt c fx fy tx ty (i + 1) = pSt c fx fy tx ty i := by
  rw [pSt, pStep, if_pos h, if_neg (by simpa using h')]
theorem pSt_c (h : ¬ pY c fx fy tx ty i < 0) (h0 : 0 < pY c fx fy tx ty i) (h' : (!(pSt c fx fy tx ty i).le || decide (pT c fx fy tx ty i < (pSt c fx fy tx ty i).ex)) = true) : pSt c fx fy tx ty (i + 1) = ⟨(pSt c fx fy tx ty i).en, pT c fx fy tx ty i, (pSt c fx fy tx ty i).fi, true⟩ := by
  rw [pSt, pStep, if_neg h, if_pos h0, if_pos (by simpa using h')]
theorem pSt_d (h : ¬ pY c fx fy tx ty i < 0) (h0 : 0 < pY c fx fy tx ty i) (h' : (!(pSt c fx fy tx ty i).le || decide (pT c fx fy tx ty i < (pSt c fx fy tx ty i).ex)) = false) : pSt c fx fy tx ty (i + 1) = pSt c fx fy tx ty i := by
  rw [pSt, pStep, if_neg h, if_pos h0, if_neg (by simpa using h')]
theorem pSt_e (h : ¬ pY c fx fy tx ty i < 0) (h0 : ¬ 0 < pY c fx fy tx ty i) : pSt c fx fy tx ty (i + 1) = pSt c fx fy tx ty i := by
  rw [pSt, pStep, if_neg h, if_neg h0]
theorem pSt_x (h : (decide (pY c fx fy tx ty i < 0) && (decide ((pSt c fx fy tx ty i).fi < 0) || decide ((pSt c fx fy tx ty i).en < pT c fx fy tx ty i))) = true)
    {z : Bool} (h' : (decide (0 < pY c fx fy tx ty i) && z) = true) : False := by
  simp only [Bool.and_eq_true, decide_eq_true_eq] at h h'
  omega
theorem pSt_ra (h : (decide (pY c fx fy tx ty i < 0) && (decide ((pSt c fx fy tx ty i).fi < 0) || decide ((pSt c fx fy tx ty i).en < pT c fx fy tx ty i))) = true) : pSt c fx fy tx ty (i + 1) = ⟨pT c fx fy tx ty i, (pSt c fx fy tx ty i).ex, i, (pSt c fx fy tx ty i).le⟩ := by
  rw [Bool.and_eq_true] at h
  exact pSt_a (of_decide_eq_true h.1) h.2
theorem pSt_rc (h : (decide (pY c fx fy tx ty i < 0) && (decide ((pSt c fx fy tx ty i).fi < 0) || decide ((pSt c fx fy tx ty i).en < pT c fx fy tx ty i))) = false)
    (h' : (decide (0 < pY c fx fy tx ty i) && (!(pSt c fx fy tx ty i).le || decide (pT c fx fy tx ty i < (pSt c fx fy tx ty i).ex))) = true) : pSt c fx fy tx ty (i + 1) = ⟨(pSt c fx fy tx ty i).en, pT c fx fy tx ty i, (pSt c fx fy tx ty i).fi, true⟩ := by
  rw [Bool.and_eq_true] at h'
  have h0 := of_decide_eq_true h'.1
  exact pSt_c (by omega) h0 h'.2
theorem pSt_re (h : (decide (pY c fx fy tx ty i < 0) && (decide ((pSt c fx fy tx ty i).fi < 0) || decide ((pSt c fx fy tx ty i).en < pT c fx fy tx ty i))) = false)
    (h' : (decide (0 < pY c fx fy tx ty i) && (!(pSt c fx fy tx ty i).le || decide (pT c fx fy tx ty i < (pSt c fx fy tx ty i).ex))) = false) : pSt c fx fy tx ty (i + 1) = pSt c fx fy tx ty i := by
  by_cases h1 : pY c fx fy tx ty i < 0
  · rw [decide_eq_true h1, Bool.true_and] at h; exact pSt_b h1 h
  · by_cases h2 : 0 < pY c fx fy tx ty i
    · rw [decide_eq_true h2, Bool.true_and] at h'; exact pSt_d h1 h2 h'
    · exact pSt_e h1 h2
theorem rpol_few (h : ¬ 2 ≤ c.length) : rpol c fx fy tx ty = Hit.no := by unfold rpol; rw [if_neg]; simp [h]
theorem rpol_bad (hi : i < c.length) (h : pGood c fx fy tx ty i = false) : rpol c fx fy tx ty = Hit.no := by unfold rpol; rw [if_neg]; rw [LS.fail hi h]; simp
theorem rpol_miss (ha : (List.range c.length).all (pGood c fx fy tx ty) = true) (h : pMiss (pSt c fx fy tx ty c.length) = true) : rpol c fx fy tx ty = Hit.no := by
  unfold rpol; rw [if_pos h]; split <;> rfl
theorem rpol_hit (h2 : 2 ≤ c.length) (ha : (List.range c.length).all (pGood c fx fy tx ty) = true) (h : pMiss (pSt c fx fy tx ty c.length) = false) :
    rpol c fx fy tx ty = ⟨(pSt c fx fy tx ty c.length).en, enX c (pSt c fx fy tx ty c.length).fi, enY c (pSt c fx fy tx ty c.length).fi, true⟩ := by
  unfold rpol; rw [ha, decide_eq_true h2, Bool.and_self, if_pos rfl, if_neg (by rw [h]; decide)]
end
/-! ### capsules, shapes -/
def hmin (a b : Hit) : Hit := if (b.ok && (!a.ok || decide (b.t < a.t))) = true then b else a
def capW (px py qx qy r : Int) : Int × Int :=
  (fmul (-sat (vny (fsub qx px) (fsub qy py))) r, fmul (sat (vnx (fsub qx px) (fsub qy py))) r)
def capP (px py qx qy r : Int) : List (Int × Int) :=
  [(fsub px (capW px py qx qy r).1, fsub py (capW px py qx qy r).2), (fsub qx (capW px py qx qy r).1, fsub qy (capW px py qx qy r).2),
   (fadd qx (capW px py qx qy r).1, fadd qy (capW px py qx qy r).2), (fadd px (capW px py qx qy r).1, fadd py (capW px py qx qy r).2)]
def rcap (px py qx qy r fx fy tx ty : Int) : Hit :=
  hmin (hmin (rcirc px py r fx fy tx ty) (rcirc qx qy r fx fy tx ty)) (rpol (capP px py qx qy r) fx fy tx ty)
def rcast (k r : Int) (c : List (Int × Int)) (fx fy tx ty : Int) : Hit :=
  if c.length = 0 then Hit.no else if shC c r fx fy = true then ⟨0, 0, 0, true⟩
  else if k = 1 then rcirc (vx c 0) (vy c 0) r fx fy tx ty else if k = 2 then rcap (vx c 0) (vy c 0) (vx c 1) (vy c 1) r fx fy tx ty else rpol c fx fy tx ty
end Go.Carom
