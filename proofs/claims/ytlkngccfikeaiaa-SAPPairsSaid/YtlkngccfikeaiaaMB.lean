/-
  The plain law of translation: what does not change when all is moved by the same vector. Conditions: none; no program in sight.
-/
import Derived.Test.YtlkngccfikeaiaaMA
set_option linter.all false
namespace Go.Carom
open Go Go.AL
/-! ### bounds -/
/-! ### a number that is moved -/
def Nr (x : Int) : Prop := -207618048 ≤ x ∧ x ≤ 207618048
def Sm (u : Int) : Prop := -67108864 ≤ u ∧ u ≤ 67108864
section
variable {u v : Int} (hu : Sm u) (hv : Sm v)
variable {ax ay bx byy cx cy dx dy : Int} (ha : Nr ax) (ha' : Nr ay) (hb : Nr bx) (hb' : Nr byy) (hc : Nr cx) (hc' : Nr cy) (hd : Nr dx) (hd' : Nr dy)
include hu hv ha ha' hb hb'
end
/-! ### distances -/
def Nc (x : Int) : Prop := -69206016 ≤ x ∧ x ≤ 69206016
section
variable {u v : Int} (hu : Sm u) (hv : Sm v)
variable {ax ay bx byy cx cy dx dy : Int} (ha : Nc ax) (ha' : Nc ay) (hb : Nc bx) (hb' : Nc byy)
include hu hv ha ha' hb hb'
end
/-! ### cores -/
structure Mv (u v : Int) (us us' : List Q4) : Prop where
  l : us'.length = us.length
  h : ∀ i, i < us.length → us'.getD i Q4.d0 = ⟨(us.getD i Q4.d0).a + u, (us.getD i Q4.d0).b + v, (us.getD i Q4.d0).c + u, (us.getD i Q4.d0).d + v⟩ ∧ (Nc (us.getD i Q4.d0).a ∧ Nc (us.getD i Q4.d0).b) ∧ (Nc (us.getD i Q4.d0).c ∧ Nc (us.getD i Q4.d0).d)
end Go.Carom
/-
  The segments of a core, as the reference lays them: their first points and their last points. Conditions: none; no program in sight.
-/
namespace Go.Carom
open Go Go.AL
structure SegOk (us : List Q4) (A B : List (Int × Int)) : Prop where
  la : A.length = us.length
  lb : B.length = us.length
  h : ∀ i, i < us.length → us.getD i Q4.d0 = ⟨vx A i, vy A i, vx B i, vy B i⟩
end Go.Carom
/-
  How a motion that is handed to a law looks. Conditions: none; no program in sight.
-/
namespace Go.Carom
open Go Go.AL
end Go.Carom
/-
  The plain law of a shape's distance from its own points. Conditions: none; no program in sight.
-/
namespace Go.Carom
open Go Go.AL
section
variable {k r : Int} {ps : List (Int × Int)} (px py a : Int)
end
end Go.Carom
/-
  The plain law of a shape's box: its core and its support points lie in it. Conditions: none; no program in sight.
-/
namespace Go.Carom
open Go Go.AL
end Go.Carom
/-
  The plain law of turns: how long a turned vector is, and the area of a polygon that is turned and rounded. Conditions: none; no program in sight.
-/
namespace Go.Carom
open Go Go.AL
/-! ### sines -/
end Go.Carom
/-
  The plain law of a shape's box: a point that a shape contains lies in its box. Conditions: none; no program in sight.
-/
namespace Go.Carom
open Go Go.AL
/-! ### how long a turned vector is -/
/-! ### products of sums -/
/-! ### a turned and rounded vertex -/
/-! ### areas -/
/-! ### turning around a point -/
structure Near (c : List (Int × Int)) (r X Y : Int) : Prop where
  x1 : ∃ i, i < c.length ∧ vx c i - r ≤ X
  x2 : ∃ i, i < c.length ∧ X ≤ vx c i + r
  y1 : ∃ i, i < c.length ∧ vy c i - r ≤ Y
  y2 : ∃ i, i < c.length ∧ Y ≤ vy c i + r
/-! ### round shapes -/
end Go.Carom
/-
  The plain law of contact manifolds: what the functions of chapters 14 to 16 compute. Conditions: none; no program in sight.
-/
namespace Go.Carom
open Go Go.AL
theorem nc0 : ((0 : Nat) : Int) = 0 := rfl
/-! ### edges -/
/-! ### clipping -/
structure CV where
  x : Int
  y : Int
  id : Int
def CV.v (c : CV) : AV := .agg [.i c.x, .i c.y, .i c.id]
def CV.d (c : CV) (ox oy nx ny : Int) : Int := vdot nx ny (fsub c.x ox) (fsub c.y oy)
/-! ### manifolds -/
structure CPt where
  x : Int
  y : Int
  s : Int
  id : Int
def CPt.v (c : CPt) : AV := .agg [.i c.x, .i c.y, .i c.s, .i c.id, .i 0, .i 0]
structure Mf where
  x : Int
  y : Int
  ps : List CPt
def Mf.v (m : Mf) : AV := .agg [.i m.x, .i m.y, .sl (m.ps.map CPt.v)]
def Mf.z : Mf := ⟨0, 0, []⟩
def Mf.ok (m : Mf) : Bool := !decide (m.ps.length = 0)
def cloE (a : List (Int × Int)) (cx cy : Int) (i : Nat) : Int × Int :=
  (cpx (vx a i) (vy a i) (vx a ((i + 1) % a.length)) (vy a ((i + 1) % a.length)) cx cy, cpy (vx a i) (vy a i) (vx a ((i + 1) % a.length)) (vy a ((i + 1) % a.length)) cx cy)
def clo (a : List (Int × Int)) (cx cy : Int) : Nat → Int × Int
  | 0 => cloE a cx cy 0
  | m + 1 => if dsq (cloE a cx cy (m + 1)).1 (cloE a cx cy (m + 1)).2 cx cy < dsq (clo a cx cy m).1 (clo a cx cy m).2 cx cy then cloE a cx cy (m + 1) else clo a cx cy m
structure P6 where
  a : Int
  b : Int
  c : Int
  d : Int
  e : Int
  f : Int
def P6.v (p : P6) : AV := .agg [.i p.a, .i p.b, .i p.c, .i p.d, .i p.e, .i p.f]
def up12 (c : CPt) : CPt := { c with id := c.id + 4096 }
def Mf.up (m : Mf) : Mf := { m with ps := m.ps.map up12 }
/-! ### what a manifold is -/
structure MOk (m : Mf) : Prop where
  n2 : m.ps.length ≤ 2
  z : m.ps.length = 0 → m = Mf.z
  sp : ∀ c ∈ m.ps, c.s ≤ 1024
  ids : ∀ a b, m.ps = [a, b] → a.id ≠ b.id
theorem MOk.zero : MOk Mf.z := ⟨by decide, fun _ => rfl, (fun c h => by cases h), (fun a b h => by cases h)⟩
theorem MOk.up {m : Mf} (h : MOk m) (hp : m.ps.length ≠ 0) : MOk m.up := by
  obtain ⟨x, y, l⟩ := m
  refine ⟨by simpa [Mf.up] using h.n2, fun e => absurd (by simpa [Mf.up] using e) hp, fun c hc => ?_, fun a b hab => ?_⟩
  · obtain ⟨d, hd, rfl⟩ := List.mem_map.1 (show c ∈ l.map up12 from hc)
    exact h.sp d hd
  · have hab' : l.map up12 = [a, b] := hab
    match l, hab' with
    | [c, d], hab' =>
      simp only [List.map_cons, List.map_nil, List.cons.injEq, and_true] at hab'
      obtain ⟨rfl, rfl⟩ := hab'
      have := h.ids c d rfl
      unfold up12
      show c.id + 4096 ≠ d.id + 4096
      omega
end Go.Carom
/-
  The plain law of contact manifolds: the reference's way, and what is known of the numbers. Conditions: none; no program in sight.
-/
namespace Go.Carom
open Go Go.AL
def Mf.Bd (m : Mf) : Prop := (-65536 ≤ m.x ∧ m.x ≤ 65536) ∧ (-65536 ≤ m.y ∧ m.y ≤ 65536)
theorem Mf.Bd.z : Mf.z.Bd := ⟨by decide, by decide⟩
structure CoreOk (k : Int) (c : List (Int × Int)) : Prop where
  k1 : 1 ≤ k
  k3 : k ≤ 3
  n8 : c.length ≤ 8
  pos : 1 ≤ c.length
  n1 : k = 1 → c.length = 1
  n2 : k = 2 → c.length = 2
  n3 : k = 3 → 3 ≤ c.length
end Go.Carom
