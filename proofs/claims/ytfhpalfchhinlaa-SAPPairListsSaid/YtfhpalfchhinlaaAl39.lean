/-
  The abstract logic: a variable of one cell, told by that cell. Conditions: none.
-/
import Derived.Test.YtfhpalfchhinlaaAl36
set_option linter.all false
namespace Go.AL
open Go.RowKit

section
variable {C : Cx} {T : Nat → AV} {H : Nat → Option ABox} {D : Nat → Prop} {g : Nat → List Value} {a : Act} {w : World}
theorem Rel.un1 {b : Nat} {c : AV} (h : Rel C T H D g a w) (hb : H b = some (.var (.agg [c]))) (hc : c.cells = [c]) : Rel C T (updF H b (some (.var c))) D g a w := by
  have hother : ∀ d x, updF H b (some (.var c)) d = some x → (d = b ∧ x = .var c) ∨ (d ≠ b ∧ H d = some x) := by
    intro d x hx
    by_cases hd : d = b
    · subst hd; rw [updF_same] at hx; left; exact ⟨rfl, by injection hx with hx; exact hx.symm⟩
    · rw [updF_other hd] at hx; exact .inr ⟨hd, hx⟩
  have hob : ownBlk g b (.var c) = ownBlk g b (.var (.agg [c])) := rfl
  have hOwn : ∀ k, Own C.O g (updF H b (some (.var c))) k → Own C.O g H k := by
    rintro k (hk' | ⟨d, x, hx, hk'⟩)
    · exact .inl hk'
    · rcases hother d x hx with ⟨rfl, rfl⟩ | ⟨_, hx⟩
      · exact .inr ⟨d, _, hb, hk'⟩
      · exact .inr ⟨d, x, hx, hk'⟩
  refine ⟨h.df, h.sz, fun t => (h.tm t).sub hOwn, fun d x hx => ?_, h.fresh, fun d x hx => ?_, fun d d' x x' k hx hx' hk hk' => ?_, fun d x k hx hk => ?_, h.oo, h.kept, h.old.set hb _⟩
  · rcases hother d x hx with ⟨rfl, rfl⟩ | ⟨_, hx⟩
    · obtain ⟨blk, vs, ty, h1, h2, h3, h4⟩ := h.bx d _ hb
      refine ⟨blk, vs, ty, h1, h2, by rw [h3, hc]; rfl, fun j hj => ?_⟩
      have h5 := (h4 j (by rw [hc] at hj; exact hj)).sub hOwn
      rw [hc]; exact h5
    · exact (h.bx d x hx).sub hOwn
  · rcases hother d x hx with ⟨rfl, _⟩ | ⟨_, hx⟩
    · exact h.dom _ _ hb
    · exact h.dom d x hx
  · rcases hother d x hx with ⟨e1, e2⟩ | ⟨_, h1⟩ <;> rcases hother d' x' hx' with ⟨e3, e4⟩ | ⟨_, h2⟩
    · exact e1.trans e3.symm
    · rw [e1]; rw [e1, e2] at hk; exact h.sep _ _ _ _ k hb h2 hk hk'
    · rw [e3]; rw [e3, e4] at hk'; exact h.sep _ _ _ _ k h1 hb hk hk'
    · exact h.sep _ _ _ _ k h1 h2 hk hk'
  · rcases hother d x hx with ⟨rfl, rfl⟩ | ⟨_, hx⟩
    · exact h.own _ _ k hb hk
    · exact h.own d x k hx hk
end
variable {P : Program} {n : Nat} {c : Code} {T : TT} {H : HH} {nx : Nat} {Q : Exit → TT → HH → Nat → Prop}
theorem tr_un1 (b : Nat) (v : AV) (hb : hk H b = some (.var (.agg [v]))) (hv : v.cells = [v]) (h : Tr P n c T (hput H b (.var v)) nx Q) : Tr P n c T H nx Q := by
  intro C g a w hP hn hr
  refine h C g a w hP hn ?_
  rw [hk_hput]
  exact hr.un1 hb hv
end Go.AL
