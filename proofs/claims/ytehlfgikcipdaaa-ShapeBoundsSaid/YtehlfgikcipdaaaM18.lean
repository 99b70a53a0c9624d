/-
  The plain law of a shape's box: its core and its support points lie in it. Conditions: none; no program in sight.
-/
import Derived.Test.YtehlfgikcipdaaaM14
set_option linter.all false
namespace Go.Carom
open Go Go.AL

theorem le2_imin (a b : Int) : imin a b ≤ a ∧ imin a b ≤ b := by unfold imin; split <;> omega
theorem ge2_imax (a b : Int) : a ≤ imax a b ∧ b ≤ imax a b := by unfold imax; split <;> omega
/-- the box's sides are beside each point. -/
theorem lohi (c : List (Int × Int)) (n : Nat) : ∀ i, i ≤ n → (loX c n ≤ sat (vx c i) ∧ sat (vx c i) ≤ hiX c n) ∧ (loY c n ≤ sat (vy c i) ∧ sat (vy c i) ≤ hiY c n) := by
  induction n with
  | zero =>
    intro i hi
    have : i = 0 := by omega
    subst this
    exact ⟨⟨Int.le_refl _, Int.le_refl _⟩, ⟨Int.le_refl _, Int.le_refl _⟩⟩
  | succ n ih =>
    intro i hi
    rw [loX, hiX, loY, hiY]
    have h1 := le2_imin (loX c n) (sat (vx c (n + 1)))
    have h2 := le2_imin (loY c n) (sat (vy c (n + 1)))
    have h3 := ge2_imax (hiX c n) (sat (vx c (n + 1)))
    have h4 := ge2_imax (hiY c n) (sat (vy c (n + 1)))
    by_cases e : i = n + 1
    · subst e; omega
    · have := ih i (by omega)
      omega
/-- a bound of all points is one of the box. -/
theorem lohi_bd {c : List (Int × Int)} {B : Int} (hx : ∀ i, -B ≤ sat (vx c i) ∧ sat (vx c i) ≤ B) (hy : ∀ i, -B ≤ sat (vy c i) ∧ sat (vy c i) ≤ B) (n : Nat) : (-B ≤ loX c n ∧ hiX c n ≤ B) ∧ (-B ≤ loY c n ∧ hiY c n ≤ B) := by
  induction n with
  | zero => exact ⟨⟨(hx 0).1, (hx 0).2⟩, ⟨(hy 0).1, (hy 0).2⟩⟩
  | succ n ih =>
    rw [loX, hiX, loY, hiY]
    have h1 := hx (n + 1)
    have h2 := hy (n + 1)
    unfold imin imax
    (repeat' split) <;> omega
theorem nrm_bd (x y : Int) : (-65536 ≤ vnx x y ∧ vnx x y ≤ 65536) ∧ (-65536 ≤ vny x y ∧ vny x y ≤ 65536) := by
  have hx := sq_nonneg' (sat x)
  have hy := sq_nonneg' (sat y)
  have hm := sat_mul x x
  have hm' := sat_mul y y
  have hl : ∀ z : Int, z * z ≤ sat x * sat x + sat y * sat y → 0 ≤ z → z ≤ vlen x y := fun z hz hz0 => isq_le (by omega) (by omega) hz0 hz
  have hp : 0 ≤ vlen x y := isqrt_nonneg _
  have c1 : sat x ≤ vlen x y := by
    by_cases c : 0 ≤ sat x
    · exact hl _ (by omega) c
    · omega
  have c2 : -sat x ≤ vlen x y := by
    by_cases c : 0 ≤ -sat x
    · exact hl _ (by rw [Int.neg_mul_neg]; omega) c
    · omega
  have s1 : sat y ≤ vlen x y := by
    by_cases c : 0 ≤ sat y
    · exact hl _ (by omega) c
    · omega
  have s2 : -sat y ≤ vlen x y := by
    by_cases c : 0 ≤ -sat y
    · exact hl _ (by rw [Int.neg_mul_neg]; omega) c
    · omega
  have e : ∀ a l, fdiv a l = fdiv (sat a) l := fun a l => by unfold fdiv; rw [sat_sat]
  have f1 := fdiv_unit (c := sat x) (l := vlen x y) (by omega) c1
  have f2 := fdiv_unit (c := sat y) (l := vlen x y) (by omega) s1
  rw [← e] at f1 f2
  unfold vnx vny
  constructor <;> split <;> omega
theorem fmul_unit {n r : Int} (h : -65536 ≤ n) (h' : n ≤ 65536) (hr : 0 ≤ r) (hr' : r ≤ 524288) : -r ≤ fmul n r ∧ fmul n r ≤ r := by
  unfold fmul
  rw [sat_id (x := n) (by omega) (by omega), sat_id (x := r) (by omega) (by omega)]
  have h1 : n * r ≤ 65536 * r := Int.mul_le_mul_of_nonneg_right h' hr
  have h2 : (-n) * r ≤ 65536 * r := Int.mul_le_mul_of_nonneg_right (by omega) hr
  rw [Int.neg_mul] at h2
  have := rdiv_abs (n := n * r) (d := 65536) (m := r) (by omega) (by omega) (by omega) (by omega) hr (by omega) (by omega)
  rw [sat_id (by omega) (by omega)]
  exact this
/-- the core of a shape at a transform that is valid. -/
def NV (c : List (Int × Int)) : Prop := ∀ i, (-270532608 ≤ vx c i ∧ vx c i ≤ 270532608) ∧ (-270532608 ≤ vy c i ∧ vy c i ≤ 270532608)
theorem core_nv (k r : Int) (ps : List (Int × Int)) {px py : Int} (a : Int) (hp : -268435456 ≤ px ∧ px ≤ 268435456) (hq : -268435456 ≤ py ∧ py ≤ 268435456) : NV (core k r ps px py a) := by
  have z : ((-270532608 : Int) ≤ 0 ∧ (0 : Int) ≤ 270532608) ∧ ((-270532608 : Int) ≤ 0 ∧ (0 : Int) ≤ 270532608) := ⟨⟨by omega, by omega⟩, ⟨by omega, by omega⟩⟩
  by_cases h : sval k r ps = 0
  · have ir := (sval_ok h).ir
    rw [core_if h]
    intro i
    by_cases hi : i < ps.length
    · rw [vx_map _ _ _ _ hi, vy_map _ _ _ _ hi]
      have hm : (vx ps i, vy ps i) ∈ ps := by rw [← ps_get hi]; exact List.getElem_mem hi
      obtain ⟨⟨x1, x2⟩, ⟨y1, y2⟩⟩ := ir_mem ir hm
      obtain ⟨⟨c1, c2⟩, ⟨s1, s2⟩⟩ := rt_bd a x1 x2 y1 y2
      unfold apx apy
      generalize rtx _ _ _ _ = X at *
      generalize rty _ _ _ _ = Y at *
      have e : ∀ r p : Int, -2097152 ≤ r → r ≤ 2097152 → -268435456 ≤ p → p ≤ 268435456 → fadd r p = r + p := fun r p h1 h2 h3 h4 => by
        unfold fadd; rw [sat_id (x := r) (by omega) (by omega), sat_id (x := p) (by omega) (by omega), sat_id (by omega) (by omega)]
      rw [e X px c1 c2 hp.1 hp.2, e Y py s1 s2 hq.1 hq.2]
      omega
    · have e : (ps.map (tp px py a)).getD i (0, 0) = (0, 0) := by rw [List.getD_eq_getElem?_getD, List.getElem?_eq_none (by simp; omega)]; rfl
      unfold vx vy
      rw [e]
      exact z
  · rw [core_no h]
    exact fun i => z
/-- what the box contains. -/
theorem box_in {c : List (Int × Int)} {r x y : Int} (hc : NV c) (hl : 0 < c.length) (hr : 0 ≤ r) (hr' : r ≤ 524288) {i : Nat} (hi : i < c.length) (hx : vx c i - r ≤ x ∧ x ≤ vx c i + r) (hy : vy c i - r ≤ y ∧ y ≤ vy c i + r) :
    bcp (boxR c r).a (boxR c r).b (boxR c r).c (boxR c r).d x y = true := by
  have hs : ∀ j, sat (vx c j) = vx c j ∧ sat (vy c j) = vy c j := fun j => ⟨sat_id (by have := (hc j).1; omega) (by have := (hc j).1; omega), sat_id (by have := (hc j).2; omega) (by have := (hc j).2; omega)⟩
  have h1 := lohi c (c.length - 1) i (by omega)
  have h2 := lohi_bd (c := c) (B := 270532608) (fun j => by rw [(hs j).1]; exact (hc j).1) (fun j => by rw [(hs j).2]; exact (hc j).2) (c.length - 1)
  rw [(hs i).1, (hs i).2] at h1
  have h3 := hc i
  unfold boxR
  rw [if_neg (by omega)]
  generalize loX c (c.length - 1) = a at *
  generalize loY c (c.length - 1) = b at *
  generalize hiX c (c.length - 1) = d at *
  generalize hiY c (c.length - 1) = e at *
  have es : ∀ q : Int, -270532608 ≤ q → q ≤ 270532608 → fsub q r = q - r ∧ fadd q r = q + r := fun q g g' => by
    unfold fsub fadd
    rw [sat_id (x := q) (by omega) (by omega), sat_id (x := r) (by omega) (by omega), sat_id (by omega) (by omega), sat_id (by omega) (by omega)]
    exact ⟨rfl, rfl⟩
  show bcp (fsub a r) (fsub b r) (fadd d r) (fadd e r) x y = true
  rw [(es a (by omega) (by omega)).1, (es b (by omega) (by omega)).1, (es d (by omega) (by omega)).2, (es e (by omega) (by omega)).2]
  unfold bcp bvalid vsatd
  rw [sat_id (x := x) (by omega) (by omega), sat_id (x := y) (by omega) (by omega), sat_id (x := a - r) (by omega) (by omega), sat_id (x := b - r) (by omega) (by omega), sat_id (x := d + r) (by omega) (by omega), sat_id (x := e + r) (by omega) (by omega)]
  simp only [Bool.and_eq_true, decide_eq_true_eq, and_true, true_and]
  (repeat' apply And.intro) <;> omega
theorem sup_in {k r : Int} {ps : List (Int × Int)} {px py : Int} (a dx dy : Int) (hv : sval k r ps = 0) (hp : -268435456 ≤ px ∧ px ≤ 268435456) (hq : -268435456 ≤ py ∧ py ≤ 268435456) :
    bcp (boxR (core k r ps px py a) r).a (boxR (core k r ps px py a) r).b (boxR (core k r ps px py a) r).c (boxR (core k r ps px py a) r).d (supX (core k r ps px py a) r dx dy) (supY (core k r ps px py a) r dx dy) = true := by
  have hc := core_nv k r ps a hp hq
  have r0 := (sval_ok hv).r0
  have hl : 0 < (core k r ps px py a).length := core_pos.2 hv
  generalize core k r ps px py a = c at *
  have hb := (spB_bd c dx dy c.length).2 hl
  have hi : (supI c dx dy).toNat < c.length := by unfold supI; omega
  have hn := nrm_bd dx dy
  have f1 := fmul_unit hn.1.1 hn.1.2 r0.1 r0.2
  have f2 := fmul_unit hn.2.1 hn.2.2 r0.1 r0.2
  have h3 := hc (supI c dx dy).toNat
  have e : ∀ q f : Int, -270532608 ≤ q → q ≤ 270532608 → -524288 ≤ f → f ≤ 524288 → fadd q f = q + f := fun q f g1 g2 g3 g4 => by
    unfold fadd
    rw [sat_id (x := q) (by omega) (by omega), sat_id (x := f) (by omega) (by omega), sat_id (by omega) (by omega)]
  have hX : supX c r dx dy = vx c (supI c dx dy).toNat + fmul (vnx dx dy) r := by
    unfold supX; rw [if_neg (by omega), e _ _ h3.1.1 h3.1.2 (by omega) (by omega)]
  have hY : supY c r dx dy = vy c (supI c dx dy).toNat + fmul (vny dx dy) r := by
    unfold supY; rw [if_neg (by omega), e _ _ h3.2.1 h3.2.2 (by omega) (by omega)]
  rw [hX, hY]
  exact box_in hc hl r0.1 r0.2 hi ⟨by omega, by omega⟩ ⟨by omega, by omega⟩
end Go.Carom
