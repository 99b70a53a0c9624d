/-
  The plain law of chapter 12: the core of a shape, its box, its points. Conditions: none; no program in sight.
-/
import Derived.Test.YtehlfgikcipdaaaM6
set_option linter.all false
namespace Go.Carom
open Go Go.AL

theorem take_map_succ {α β : Type} {ps : List α} {i : Nat} {f : α → β} (h : i < ps.length) : (ps.take (i + 1)).map f = (ps.take i).map f ++ [f ps[i]] := by
  rw [List.take_succ_eq_append_getElem h, List.map_append]; rfl
theorem ps_get {ps : List (Int × Int)} {i : Nat} (h : i < ps.length) : ps[i] = (vx ps i, vy ps i) := by
  simp [vx, vy, List.getD_eq_getElem?_getD, h]

theorem within_inr (x y : Int) : (!(decide (-1048576 ≤ x) && decide (x ≤ 1048576)) || !(decide (-1048576 ≤ y) && decide (y ≤ 1048576))) = !inr x y := by
  unfold inr; rw [Bool.eq_iff_iff]; simp; omega
/-! ### the core -/
def tp (px py a : Int) (p : Int × Int) : Int × Int := (apx px py a p.1 p.2, apy px py a p.1 p.2)
/-- the core of a shape at a transform. -/
def core (k r : Int) (ps : List (Int × Int)) (px py a : Int) : List (Int × Int) := if sval k r ps = 0 then ps.map (tp px py a) else []
theorem core_if {k r : Int} {ps : List (Int × Int)} {px py a : Int} (h : sval k r ps = 0) : core k r ps px py a = ps.map (tp px py a) := if_pos h
theorem core_no {k r : Int} {ps : List (Int × Int)} {px py a : Int} (h : ¬ sval k r ps = 0) : core k r ps px py a = [] := if_neg h
/-- what a valid shape is. -/
structure SOk (k r : Int) (ps : List (Int × Int)) : Prop where
  k1 : 1 ≤ k
  k3 : k ≤ 3
  n1 : k = 1 → ps.length = 1
  n2 : k = 2 → ps.length = 2
  n3 : k = 3 → 3 ≤ ps.length ∧ ps.length ≤ 8
  ir : allIR ps = true
  rb : sradB k r = false
  cb : scapB k ps = false
  pb : spolB k ps = false
theorem sval_ok {k r : Int} {ps : List (Int × Int)} (h : sval k r ps = 0) : SOk k r ps := by
  unfold sval at h
  split at h
  · omega
  split at h
  · omega
  split at h
  · omega
  split at h
  · omega
  split at h
  · omega
  split at h
  · omega
  rename_i h1 h2 h3 h4 h5 h6
  have hv : vcount k ps.length = true := by simpa using h2
  unfold vcount at hv
  refine ⟨by omega, by omega, fun e => ?_, fun e => ?_, fun e => ?_, by simpa using h3, by simpa using h4, by simpa using h5, by simpa using h6⟩
  · subst e; simp at hv; omega
  · subst e; simp at hv; omega
  · subst e; simp at hv; omega
theorem SOk.pos {k r : Int} {ps : List (Int × Int)} (h : SOk k r ps) : 1 ≤ ps.length ∧ ps.length ≤ 8 := by
  have h1 := h.k1
  have h3 := h.k3
  by_cases e1 : k = 1
  · have := h.n1 e1; omega
  · by_cases e2 : k = 2
    · have := h.n2 e2; omega
    · have := h.n3 (by omega); omega
theorem SOk.k1_iff {k r : Int} {ps : List (Int × Int)} (h : SOk k r ps) : k = 1 ↔ ps.length = 1 := by
  refine ⟨h.n1, fun e => ?_⟩
  have h1 := h.k1; have h3 := h.k3
  by_cases e2 : k = 2
  · have := h.n2 e2; omega
  · by_cases e3 : k = 3
    · have := h.n3 e3; omega
    · omega
theorem SOk.k2_iff {k r : Int} {ps : List (Int × Int)} (h : SOk k r ps) : k = 2 ↔ ps.length = 2 := by
  refine ⟨h.n2, fun e => ?_⟩
  have h1 := h.k1; have h3 := h.k3
  by_cases e2 : k = 1
  · have := h.n1 e2; omega
  · by_cases e3 : k = 3
    · have := h.n3 e3; omega
    · omega
theorem core_len_if {k r : Int} {ps : List (Int × Int)} {px py a : Int} (h : sval k r ps = 0) : (core k r ps px py a).length = ps.length := by rw [core_if h, List.length_map]
theorem core_len {k r : Int} {ps : List (Int × Int)} {px py a : Int} : (core k r ps px py a).length ≤ 8 := by
  by_cases h : sval k r ps = 0
  · rw [core_len_if h]; exact (sval_ok h).pos.2
  · rw [core_no h]; simp
theorem core_pos {k r : Int} {ps : List (Int × Int)} {px py a : Int} : 0 < (core k r ps px py a).length ↔ sval k r ps = 0 := by
  by_cases h : sval k r ps = 0
  · rw [core_len_if h]; have := (sval_ok h).pos.1; simp [h]; omega
  · rw [core_no h]; simp [h]
theorem vx_map (ps : List (Int × Int)) (px py a : Int) {i : Nat} (h : i < ps.length) : vx (ps.map (tp px py a)) i = apx px py a (vx ps i) (vy ps i) := by
  simp [vx, vy, List.getD_eq_getElem?_getD, h, tp]
theorem vy_map (ps : List (Int × Int)) (px py a : Int) {i : Nat} (h : i < ps.length) : vy (ps.map (tp px py a)) i = apy px py a (vx ps i) (vy ps i) := by
  simp [vx, vy, List.getD_eq_getElem?_getD, h, tp]
/-- all is within the numbers that there are. -/
def Satd (c : List (Int × Int)) : Prop := ∀ i, sat (vx c i) = vx c i ∧ sat (vy c i) = vy c i
theorem core_sat (k r : Int) (ps : List (Int × Int)) (px py a : Int) : Satd (core k r ps px py a) := by
  intro i
  by_cases h : sval k r ps = 0
  · rw [core_if h]
    by_cases hi : i < ps.length
    · rw [vx_map _ _ _ _ hi, vy_map _ _ _ _ hi]
      exact ⟨sat_sat _, sat_sat _⟩
    · have e : (ps.map (tp px py a)).getD i (0, 0) = (0, 0) := by rw [List.getD_eq_getElem?_getD, List.getElem?_eq_none (by simp; omega)]; rfl
      unfold vx vy
      rw [e]; exact ⟨rfl, rfl⟩
  · rw [core_no h]; exact ⟨rfl, rfl⟩

/-! ### the box -/
def boxR (c : List (Int × Int)) (r : Int) : Q4 :=
  if c.length = 0 then ⟨0, 0, 0, 0⟩ else ⟨fsub (loX c (c.length - 1)) r, fsub (loY c (c.length - 1)) r, fadd (hiX c (c.length - 1)) r, fadd (hiY c (c.length - 1)) r⟩
/-- the same, begun with the first point, and with it once more. -/
def loXR (c : List (Int × Int)) : Nat → Int
  | 0 => vx c 0
  | i + 1 => imin (loXR c i) (vx c i)
def loYR (c : List (Int × Int)) : Nat → Int
  | 0 => vy c 0
  | i + 1 => imin (loYR c i) (vy c i)
def hiXR (c : List (Int × Int)) : Nat → Int
  | 0 => vx c 0
  | i + 1 => imax (hiXR c i) (vx c i)
def hiYR (c : List (Int × Int)) : Nat → Int
  | 0 => vy c 0
  | i + 1 => imax (hiYR c i) (vy c i)
theorem imin_self (a : Int) : imin a a = a := by unfold imin; split <;> rfl
theorem imax_self (a : Int) : imax a a = a := by unfold imax; split <;> rfl
theorem box_ref {c : List (Int × Int)} (hs : Satd c) (i : Nat) : loXR c (i + 1) = loX c i ∧ loYR c (i + 1) = loY c i ∧ hiXR c (i + 1) = hiX c i ∧ hiYR c (i + 1) = hiY c i := by
  induction i with
  | zero =>
    have := hs 0
    simp only [loXR, loYR, hiXR, hiYR, loX, loY, hiX, hiY, imin_self, imax_self, this.1, this.2, and_self]
  | succ i ih =>
    have := hs (i + 1)
    rw [loXR, loYR, hiXR, hiYR, ih.1, ih.2.1, ih.2.2.1, ih.2.2.2, loX, loY, hiX, hiY, this.1, this.2]
    exact ⟨rfl, rfl, rfl, rfl⟩
theorem boxR_ref {c : List (Int × Int)} (hs : Satd c) (r : Int) (h : ¬ c.length = 0) : boxR c r = ⟨fsub (loXR c c.length) r, fsub (loYR c c.length) r, fadd (hiXR c c.length) r, fadd (hiYR c c.length) r⟩ := by
  unfold boxR
  rw [if_neg h]
  obtain ⟨n, hn⟩ : ∃ n, c.length = n + 1 := ⟨c.length - 1, by omega⟩
  rw [hn, Nat.add_sub_cancel]
  obtain ⟨h1, h2, h3, h4⟩ := box_ref hs n
  rw [h1, h2, h3, h4]

def bcp (x y u v px py : Int) : Bool := bvalid x y u v && decide (x ≤ sat px) && decide (sat px ≤ u) && decide (y ≤ sat py) && decide (sat py ≤ v)
def bexp (x y u v m : Int) : Q4 := if (!bvalid x y u v) = true then ⟨0, 0, 0, 0⟩ else if (!bvalid (fsub x m) (fsub y m) (fadd u m) (fadd v m)) = true then ⟨0, 0, 0, 0⟩ else ⟨fsub x m, fsub y m, fadd u m, fadd v m⟩
theorem vs_all1 (ps : List (Int × Int)) : (∀ v ∈ ps.map ev, v.cells.length = 2 ∧ ∀ c ∈ v.cells, c.one = true) = True := eq_true (by
  intro v hv
  obtain ⟨p, _, rfl⟩ := List.mem_map.1 hv
  refine ⟨rfl, fun c hc => ?_⟩
  simp only [ev, AV.cells, List.mem_cons, List.not_mem_nil, or_false] at hc
  rcases hc with rfl | rfl <;> rfl)
theorem evs_len (ps : List (Int × Int)) : ∀ v ∈ ps.map ev, v.cells.length = 2 := of_eq_true (vs_all ps)
theorem evs_one (ps : List (Int × Int)) : ∀ v ∈ ps.map ev, ∀ c ∈ v.cells, c.one = true := fun v hv => (of_eq_true (vs_all1 ps) v hv).2
/-! ### points -/
def orE (c : List (Int × Int)) (x y : Int) (i : Nat) : Bool := !decide (orient (vx c i) (vy c i) (vx c ((i + 1) % c.length)) (vy c ((i + 1) % c.length)) x y < 0)
def polC (c : List (Int × Int)) (x y : Int) : Bool := (List.range c.length).all (orE c x y)
def shC (c : List (Int × Int)) (r x y : Int) : Bool :=
  if c.length = 0 then false else if c.length = 1 then decide (vlen (fsub x (vx c 0)) (fsub y (vy c 0)) ≤ r)
  else if c.length = 2 then decide (sdist x y x y (vx c 0) (vy c 0) (vx c 1) (vy c 1) ≤ r) else polC c x y
/-- the farthest vertex of the first i. -/
def farR (ps : List (Int × Int)) : Nat → Int
  | 0 => 0
  | i + 1 => imax (farR ps i) (vlen (vx ps i) (vy ps i))
def sradius (k r : Int) (ps : List (Int × Int)) : Int := if sval k r ps = 0 then fadd (farR ps ps.length) r else 0
def supI (c : List (Int × Int)) (dx dy : Int) : Int := (spB c dx dy c.length).1
theorem spB_bd (c : List (Int × Int)) (dx dy : Int) (i : Nat) : (i = 0 → (spB c dx dy i).1 = -1) ∧ (0 < i → 0 ≤ (spB c dx dy i).1 ∧ (spB c dx dy i).1 < i) := by
  induction i with
  | zero => exact ⟨fun _ => rfl, fun h => by omega⟩
  | succ i ih =>
    refine ⟨fun h => by omega, fun _ => ?_⟩
    rw [spB]
    split
    · simp; omega
    · rename_i h
      have : 0 < i := by
        rcases Nat.eq_zero_or_pos i with h0 | h0
        · have := ih.1 h0; omega
        · exact h0
      have := ih.2 this
      omega
def supX (c : List (Int × Int)) (r dx dy : Int) : Int := if c.length = 0 then 0 else fadd (vx c (supI c dx dy).toNat) (fmul (vnx dx dy) r)
def supY (c : List (Int × Int)) (r dx dy : Int) : Int := if c.length = 0 then 0 else fadd (vy c (supI c dx dy).toNat) (fmul (vny dx dy) r)

/-! ### equality of rows of points -/
def eqE (ps qs : List (Int × Int)) (i : Nat) : Bool := decide (vx ps i = vx qs i) && decide (vy ps i = vy qs i)
def eqV (ps qs : List (Int × Int)) : Bool := decide (ps.length = qs.length) && (List.range ps.length).all (eqE ps qs)
theorem eqV_refl (ps : List (Int × Int)) : eqV ps ps = true := by
  unfold eqV eqE; simp
def eqS (k r : Int) (ps : List (Int × Int)) (k' r' : Int) (qs : List (Int × Int)) : Bool := decide (k = k') && decide (r = r') && eqV ps qs
end Go.Carom
