/-
  The plain law of the reference's manifolds: IDs. Conditions: none; no program in sight.
-/
import Derived.Test.YtehlfgikcipdaaaGreatM28
set_option linter.all false
namespace Go.Carom
open Go Go.AL

theorem cli_id {a : List (Int × Int)} {r : Int} {b : List (Int × Int)} {s : Int} {i : Nat} (hi : i < 8) (hb : 0 < b.length) (hb8 : b.length ≤ 8) : ∀ p ∈ (cliM a r b s i).ps, 0 ≤ p.id ∧ p.id ≤ 1000 := by
  have hj := incE_lt (b := b) (nx := nmX a i) (ny := nmY a i) hb
  have key : ∀ (l : List CPt) (c : CV), (c.id = 0 ∨ c.id = 1) → (∀ p ∈ l, 0 ≤ p.id ∧ p.id ≤ 1000) → ∀ p ∈ cliP a r s i (incE b (nmX a i) (nmY a i)) l c, 0 ≤ p.id ∧ p.id ≤ 1000 := by
    intro l c hc hl p hp
    unfold cliP addP at hp
    split at hp
    · rcases List.mem_append.1 hp with h | h
      · exact hl p h
      · rw [List.mem_singleton] at h
        subst h
        show 0 ≤ 64 * (i : Int) + 8 * ((incE b (nmX a i) (nmY a i) : Nat) : Int) + c.id ∧ 64 * (i : Int) + 8 * ((incE b (nmX a i) (nmY a i) : Nat) : Int) + c.id ≤ 1000
        omega
    · exact hl p hp
  rcases toE_cut a i b (incE b (nmX a i) (nmY a i)) with h | ⟨p, q, h, hp, hq⟩
  · rw [cliM_nil h]; intro p hp; cases hp
  · rw [cliM_two h]
    unfold Mf.fin
    split
    · intro p hp; cases hp
    · exact key _ q (.inr hq) (key _ p (.inl hp) (fun p hp => by cases hp))
theorem cli_bd (a : List (Int × Int)) (r : Int) (b : List (Int × Int)) (s : Int) (i : Nat) : (cliM a r b s i).Bd := Mf.Bd.fin (nmXY_bd a i).1 (nmXY_bd a i).2
theorem up_fl1 (x y : Int) (p : CPt) : (Mf.mk x y [p]).up.flip = ⟨-x, -y, [up12 p]⟩ := rfl
theorem up_fl2 (x y : Int) (p q : CPt) : (Mf.mk x y [p, q]).up.flip = ⟨-x, -y, [up12 p, up12 q]⟩ := rfl
end Go.Carom
