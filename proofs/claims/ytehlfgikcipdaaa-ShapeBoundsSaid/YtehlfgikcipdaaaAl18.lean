/-
  The abstract logic: contracts found by their shape. Conditions: none.
-/
import Derived.Test.YtehlfgikcipdaaaAl14
set_option linter.all false
namespace Go.AL
open Go.RowKit

/-- a contract, found by function and arguments. -/
class HasC (P : Program) (f : Nat) (as : List AV) (r : outParam AV) : Prop where
  h : PCall P f as r

theorem cst_go {P : Program} {H : Nat → Option ABox} {nx fid : Nat} {as : List AV} {r : AV} {K : Res → Prop} [h : HasC P fid as r] (hk : K ⟨r, [], 0, []⟩) : cst P H nx (.clo fid []) as K :=
  cst_pure h.h hk

theorem gcst_go {c : Bool} {P : Program} {H : Nat → Option ABox} {nx fid : Nat} {as : List AV} {r : AV} {K : Res → Prop} [h : HasC P fid as r] (hk : K ⟨.gd c r, [], 0, []⟩) : gcst c P H nx (.clo fid []) as K :=
  gcst_pure (fun _ => h.h) hk
theorem cst_cap {P : Program} {H : Nat → Option ABox} {nx fid : Nat} {as cap as' : List AV} {r : AV} {K : Res → Prop} (he : as ++ cap = as') (h : PCall P fid as' r) (hk : K ⟨r, [], 0, []⟩) : cst P H nx (.clo fid cap) as K :=
  cst_pure_cap (by rw [he]; exact h) hk
theorem cst_go_cap {P : Program} {H : Nat → Option ABox} {nx fid : Nat} {as cap as' : List AV} {r : AV} {K : Res → Prop} (he : as ++ cap = as') [h : HasC P fid as' r] (hk : K ⟨r, [], 0, []⟩) : cst P H nx (.clo fid cap) as K :=
  cst_cap he h.h hk

theorem regOk_go {ops : List Oper} {fps : List FP} (h : regOk ops fps = true) : regOk ops fps = true := h
/-- the temporaries of T' stand in T. -/
def TWk (T : TT) (nx' : Nat) : TT → Prop
  | [] => True
  | (t, v) :: r => (lk T t = v ∧ Lt nx' v) ∧ TWk T nx' r
def bLt (nx' : Nat) : ABox → Prop
  | .var v => Lt nx' v
  | .nl => True
  | .row _ _ _ es => ∀ e ∈ es, Lt nx' e
  | .ob _ => True
/-- the boxes of H' stand in H. -/
def HWk (H : HH) (nx' : Nat) : HH → Prop
  | [] => True
  | (b, x) :: r => (b < nx' ∧ (∃ y, hk H b = some y ∧ bwk y x) ∧ bLt nx' x) ∧ HWk H nx' r
theorem tw_nil {T : TT} {nx' : Nat} : TWk T nx' [] := trivial
theorem tw_cons {T T' : TT} {nx' t : Nat} {v : AV} (h : lk T t = v) (hl : Lt nx' v) (hr : TWk T nx' T') : TWk T nx' ((t, v) :: T') := ⟨⟨h, hl⟩, hr⟩
theorem hw_nil {H : HH} {nx' : Nat} : HWk H nx' [] := trivial
theorem hw_cons {H H' : HH} {nx' b : Nat} {x y : ABox} (hb : b < nx') (h : hk H b = some y) (hw : bwk y x) (hl : bLt nx' x) (hr : HWk H nx' H') : HWk H nx' ((b, x) :: H') := ⟨⟨hb, ⟨y, h, hw⟩, hl⟩, hr⟩
theorem bwk_rfl {x : ABox} : bwk x x := .inl rfl
theorem wk_go {T T' : TT} {H H' : HH} {nx nx' : Nat} (hn : nx' ≤ nx) (hT : TWk T nx' T') (hH : HWk H nx' H') : Wk T H nx T' H' nx' := by
  have h1 : ∀ (T' : TT), TWk T nx' T' → ∀ p ∈ T', lk T p.1 = p.2 ∧ Lt nx' p.2 := by
    intro T'
    induction T' with
    | nil => intro _ p hp; cases hp
    | cons q r ih =>
      intro h p hp
      simp only [List.mem_cons] at hp
      rcases hp with rfl | hp
      · exact h.1
      · exact ih h.2 p hp
  have h2 : ∀ (H' : HH), HWk H nx' H' → ∀ p ∈ H', p.1 < nx' ∧ (∃ y, hk H p.1 = some y ∧ bwk y p.2) ∧ bLt nx' p.2 := by
    intro H'
    induction H' with
    | nil => intro _ p hp; cases hp
    | cons q r ih =>
      intro h p hp
      simp only [List.mem_cons] at hp
      rcases hp with rfl | hp
      · exact h.1
      · exact ih h.2 p hp
  refine wk_of hn (fun p hp => .inr (h1 T' hT p hp).1) (fun p hp => (h1 T' hT p hp).2) (fun p hp => ⟨(h2 H' hH p hp).1, (h2 H' hH p hp).2.1⟩) (fun p hp => ?_)
  have := (h2 H' hH p hp).2.2
  unfold bLt at this
  exact this

theorem lt_agg {N : Nat} {cs : List AV} (h : ∀ c ∈ cs, Lt N c) : Lt N (.agg cs) := .agg _ h
theorem lt_nil {N : Nat} : ∀ c ∈ ([] : List AV), Lt N c := fun _ h => by cases h
theorem lt_cons {N : Nat} {c : AV} {cs : List AV} (h : Lt N c) (h' : ∀ x ∈ cs, Lt N x) : ∀ x ∈ c :: cs, Lt N x := by
  intro x hx
  simp only [List.mem_cons] at hx
  rcases hx with rfl | hx
  · exact h
  · exact h' x hx
theorem lt_map {N : Nat} {α : Type} {f : α → AV} {l : List α} (h : ∀ x, Lt N (f x)) : ∀ x ∈ l.map f, Lt N x := by
  intro x hx
  obtain ⟨y, _, rfl⟩ := List.mem_map.1 hx
  exact h y
theorem lt_i (N : Nat) (n : Int) : Lt N (.i n) := .sc _
theorem lt_b (N : Nat) (n : Bool) : Lt N (.b n) := .sc _
end Go.AL
