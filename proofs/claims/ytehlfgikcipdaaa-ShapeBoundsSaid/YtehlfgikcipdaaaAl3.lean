/-
  The abstract logic: what single operations give, over abstract values. Conditions: none.
-/
import Derived.Test.YtehlfgikcipdaaaAl2
set_option linter.all false
namespace Go.AL
open Go.RowKit

def aggB (P : Program) (t : TypeId) : Bool := match P.underlying t with
  | some (.struct _) | some (.array _ _) => true
  | _ => false
/-- a type that is known: size, aggregate or not. -/
def tyI (P : Program) (t : TypeId) : Option (Nat × Bool) := match P.info? t, P.underlying t with
  | some i, some _ => some (i.size, aggB P t)
  | _, _ => none
theorem tyI_some {P : Program} {t : TypeId} {n : Nat} {b : Bool} (h : tyI P t = some (n, b)) : ∃ i d, P.info? t = some i ∧ P.underlying t = some d ∧ i.size = n ∧ aggB P t = b := by
  unfold tyI at h
  split at h
  · rename_i i d h1 h2
    simp only [Option.some.injEq, Prod.mk.injEq] at h
    exact ⟨i, d, h1, h2, h.1, h.2⟩
  · cases h
/-- a field: its type, its place, its size, aggregate or not. -/
def fldI (P : Program) (s : TypeId) (f : Nat) : Option (Nat × Nat × Bool) := match P.underlying s with
  | some (.struct fs) => match fs[f]? with
    | some fd => match tyI P fd.type with
      | some (n, ag) => if n = 0 ∨ (ag = false ∧ n ≠ 1) then none else some (fd.offset, n, ag)
      | none => none
    | none => none
  | _ => none
/-- a slice's element: its type, size, bytes, aggregate or not. -/
def elI (P : Program) (t : TypeId) : Option (TypeId × Nat × Nat × Bool) := match P.underlying t with
  | some (.slice e) => match P.info? e, tyI P e with
    | some i, some (n, ag) => if n = 0 ∨ (ag = false ∧ n ≠ 1) then none else some (e, n, i.bytes, ag)
    | _, _ => none
  | _ => none
/-- an array: how many, the element's size, aggregate or not. -/
def arI (P : Program) (t : TypeId) : Option (Nat × Nat × Bool) := match P.underlying t with
  | some (.array m e) => match tyI P e with
    | some (n, ag) => if n = 0 ∨ (ag = false ∧ n ≠ 1) then none else some (m, n, ag)
    | none => none
  | _ => none
def zI (P : Program) (t : TypeId) : Option (List Value) := (P.info? t).bind fun i => i.zero.map fun z => z.cells.toList

theorem fldI_some {P : Program} {s f fo sz : Nat} {ag : Bool} (h : fldI P s f = some (fo, sz, ag)) :
    ∃ fs fd, P.underlying s = some (.struct fs) ∧ fs[f]? = some fd ∧ tyI P fd.type = some (sz, ag) ∧ sz ≠ 0 ∧ fd.offset = fo ∧ (ag = false → sz = 1) := by
  unfold fldI at h
  split at h
  · rename_i fs hs
    split at h
    · rename_i fd hfd
      split at h
      · rename_i n ag' hi
        split at h
        · cases h
        · rename_i hne
          simp only [Option.some.injEq, Prod.mk.injEq] at h
          obtain ⟨h1, rfl, rfl⟩ := h
          exact ⟨fs, fd, hs, hfd, hi, by omega, h1, fun ha => Decidable.byContradiction fun hn => hne (.inr ⟨ha, hn⟩)⟩
      · cases h
    · cases h
  · cases h
theorem elI_some {P : Program} {t e n by_ : Nat} {ag : Bool} (h : elI P t = some (e, n, by_, ag)) :
    ∃ i, P.underlying t = some (.slice e) ∧ P.info? e = some i ∧ i.size = n ∧ i.bytes = by_ ∧ tyI P e = some (n, ag) ∧ n ≠ 0 ∧ (ag = false → n = 1) := by
  unfold elI at h
  split at h
  · rename_i e' hs
    split at h
    · rename_i i n' ag' hi ht
      split at h
      · cases h
      · rename_i hne
        simp only [Option.some.injEq, Prod.mk.injEq] at h
        obtain ⟨rfl, rfl, h1, rfl⟩ := h
        obtain ⟨i', d, h2, h3, h4, h5⟩ := tyI_some ht
        rw [hi] at h2
        injection h2 with h2
        subst h2
        exact ⟨i, hs, hi, h4, h1, ht, by omega, fun ha => Decidable.byContradiction fun hn => hne (.inr ⟨ha, hn⟩)⟩
    · cases h
  · cases h
theorem arI_some {P : Program} {t m n : Nat} {ag : Bool} (h : arI P t = some (m, n, ag)) :
    ∃ e, P.underlying t = some (.array m e) ∧ tyI P e = some (n, ag) ∧ n ≠ 0 ∧ (ag = false → n = 1) := by
  unfold arI at h
  split at h
  · rename_i m' e hs
    split at h
    · rename_i n' ag' ht
      split at h
      · cases h
      · rename_i hne
        simp only [Option.some.injEq, Prod.mk.injEq] at h
        obtain ⟨rfl, rfl, rfl⟩ := h
        exact ⟨e, hs, ht, by omega, fun ha => Decidable.byContradiction fun hn => hne (.inr ⟨ha, hn⟩)⟩
    · cases h
  · cases h

def AV.get : AV → AV
  | .gd _ v => v
  | v => v
def AV.cond : AV → Bool
  | .gd x _ => x
  | _ => true
def AV.one : AV → Bool
  | .sc v => v.oneCell'
  | .agg _ | .tup _ | .gd _ _ | .und => false
  | _ => true
def AV.ok : AV → Bool
  | .agg _ => true
  | v => v.one

theorem Rep.get {w : World} {O : Nat → Prop} {g : Nat → List Value} {v : AV} {val : Value} (h : Rep w O g v val) (hc : v.cond = true) : Rep w O g v.get val := by
  cases v with
  | gd x v => cases h with | gd x v val h _ => exact h hc
  | _ => exact h

theorem Rep.oneCell {w : World} {O : Nat → Prop} {g : Nat → List Value} {v : AV} {val : Value} (h : Rep w O g v val)
    (h1 : v.one = true) : val.oneCell' = true := by
  cases h with
  | sc => exact h1
  | agg | tup | gd | und => simp [AV.one] at h1
  | _ => rfl

theorem cells_one {val : Value} (h : val.oneCell' = true) : val.cells = #[val] := by cases val <;> first | rfl | simp [Value.oneCell'] at h

/-- what is known of a value's cells. -/
theorem Rep.cells {w : World} {O : Nat → Prop} {g : Nat → List Value} {v : AV} {val : Value} (h : Rep w O g v val)
    (hok : v.ok = true) :
    val.cells.size = v.cells.length ∧ ∀ j, j < v.cells.length → Rep w O g (v.cells.getD j .und) (val.cells.getD j undef) := by
  by_cases hv : ∃ cs, v = .agg cs
  · obtain ⟨cs, rfl⟩ := hv
    cases h with
    | agg _ vs h1 h2 => exact ⟨h1, h2⟩
  · have h1 : v.one = true := by cases v <;> first | exact hok | exact absurd ⟨_, rfl⟩ hv
    have hc : v.cells = [v] := by cases v <;> first | rfl | exact absurd ⟨_, rfl⟩ hv
    rw [cells_one (h.oneCell h1), hc]
    refine ⟨rfl, fun j hj => ?_⟩
    have : j = 0 := by simp at hj; exact hj
    subst this
    exact h

end Go.AL
