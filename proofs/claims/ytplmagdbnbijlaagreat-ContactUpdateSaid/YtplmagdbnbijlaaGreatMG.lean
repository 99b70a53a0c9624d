/-
  The plain law of the manifold of a circle whose center lies in a shape: it touches. Conditions: none; no program in sight.
-/
import Derived.Test.YtplmagdbnbijlaaGreatMB
import Derived.Test.YtplmagdbnbijlaaGreatMA
import Derived.Test.YtplmagdbnbijlaaGreatMC
set_option linter.all false
namespace Go.Carom
open Go Go.AL
/-! ### around a polygon -/
/-! ### the closest point of an edge -/
/-! ### a point in a polygon is not beside it -/
/-! ### the core of a polygon -/
structure Turned (ps c : List (Int × Int)) (q : Int) : Prop where
 q0 : 4294836224 ≤ q
 cr : ∀ i j k,i < ps.length → j < ps.length → k < ps.length → q * ((vx ps j - vx ps i) * (vy ps k - vy ps i) - (vy ps j - vy ps i) * (vx ps k - vx ps i)) - 27021604206673920 ≤ 4294967296 * ((vx c j - vx c i) * (vy c k - vy c i) - (vy c j - vy c i) * (vx c k - vx c i))
 ln : ∀ i j,i < ps.length → j < ps.length → 3 * (q * ((vx ps j - vx ps i) * (vx ps j - vx ps i) + (vy ps j - vy ps i) * (vy ps j - vy ps i))) - 103079215104 ≤ 17179869184 * ((vx c j - vx c i) * (vx c j - vx c i) + (vy c j - vy c i) * (vy c j - vy c i))
end Go.Carom
/-
 The plain law of chapter 16's statements. Conditions: none; no program in sight.
-/
namespace Go.Carom
open Go Go.AL
theorem Mf.flip_ok (m : Mf) : m.flip.ok = m.ok:=by
 unfold Mf.flip
 split
 ·rename_i h; simp [Mf.ok,h,Mf.z]
 ·rfl
theorem collS_ok (k r : Int) (ps : List (Int × Int)) (px py a k' r' : Int) (qs : List (Int × Int)) (ux uy b : Int) : MOk (collS k r ps px py a k' r' qs ux uy b):=coll_ok _ _ _ _ _ _
theorem two_cases {l : List CPt} (h : l.length ≤ 2) : l = [] ∨ (∃ a,l = [a]) ∨ ∃ a b,l = [a,b]:=by
 match l,h with
 | [],_=>exact .inl rfl
 | [a],_=>exact .inr (.inl ⟨a,rfl⟩)
 | [a,b],_=>exact .inr (.inr ⟨a,b,rfl⟩)
end Go.Carom
/-
 The plain law of the manifold of a circle whose center lies in a polygon: it touches. Conditions: none; no program in sight.
-/
namespace Go.Carom
open Go Go.AL
end Go.Carom
/-
 The plain law of ManifoldDistance. Conditions: none; no program in sight.
-/
namespace Go.Carom
open Go Go.AL
end Go.Carom
/-
 The plain law of ManifoldFlip. Conditions: none; no program in sight.
-/
namespace Go.Carom
open Go Go.AL
end Go.Carom
/-
 The plain law of the reference's manifolds: IDs. Conditions: none; no program in sight.
-/
namespace Go.Carom
open Go Go.AL
theorem cli_id {a : List (Int × Int)} {r : Int} {b : List (Int × Int)} {s : Int} {i : Nat} (hi : i < 8) (hb : 0 < b.length) (hb8 : b.length ≤ 8) : ∀ p ∈ (cliM a r b s i).ps,0 ≤ p.id ∧ p.id ≤ 1000:=by
 have hj:=incE_lt (b:=b) (nx:=nmX a i) (ny:=nmY a i) hb
 have key : ∀ (l : List CPt) (c : CV),(c.id = 0 ∨ c.id = 1) → (∀ p ∈ l,0 ≤ p.id ∧ p.id ≤ 1000) → ∀ p ∈ cliP a r s i (incE b (nmX a i) (nmY a i)) l c,0 ≤ p.id ∧ p.id ≤ 1000:=by
  intro l c hc hl p hp
  unfold cliP addP at hp
  split at hp
  ·rcases List.mem_append.1 hp with h|h
   ·exact hl p h
   ·rw [List.mem_singleton] at h
    subst h
    show 0 ≤ 64 * (i : Int) + 8 * ((incE b (nmX a i) (nmY a i) : Nat) : Int) + c.id ∧ 64 * (i : Int) + 8 * ((incE b (nmX a i) (nmY a i) : Nat) : Int) + c.id ≤ 1000
    omega
  ·exact hl p hp
 rcases toE_cut a i b (incE b (nmX a i) (nmY a i)) with h|⟨p,q,h,hp,hq⟩
 ·rw [cliM_nil h]; intro p hp; cases hp
 ·rw [cliM_two h]
  unfold Mf.fin
  split
  ·intro p hp; cases hp
  ·exact key _ q (.inr hq) (key _ p (.inl hp) (fun p hp=>by cases hp))
theorem cli_bd (a : List (Int × Int)) (r : Int) (b : List (Int × Int)) (s : Int) (i : Nat) : (cliM a r b s i).Bd:=Mf.Bd.fin (nmXY_bd a i).1 (nmXY_bd a i).2
theorem up_fl1 (x y : Int) (p : CPt) : (Mf.mk x y [p]).up.flip = ⟨-x,-y,[up12 p]⟩:=rfl
theorem up_fl2 (x y : Int) (p q : CPt) : (Mf.mk x y [p,q]).up.flip = ⟨-x,-y,[up12 p,up12 q]⟩:=rfl
end Go.Carom
