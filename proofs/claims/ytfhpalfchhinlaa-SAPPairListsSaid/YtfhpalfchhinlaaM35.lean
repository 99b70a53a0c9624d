/-
  What the functions of chapter 39 compute. Conditions: none; no program in sight.
-/
import Derived.Test.YtfhpalfchhinlaaM34
import Derived.Test.YtfhpalfchhinlaaMA
set_option linter.all false
namespace Go.Carom
open Go Go.AL

def shd (a b : Fx) : Bool := if a.grp = b.grp ∧ a.grp ≠ 0 then decide (0 < a.grp) else !decide (bits .and .i64 a.cat b.msk = 0) && !decide (bits .and .i64 b.cat a.msk = 0)
def jcon (a b : Int) (j : Jt) : Bool := !j.cc && (decide (a = j.ba ∧ b = j.bb) || decide (a = j.bb ∧ b = j.ba))
def conn (js : List Jt) (a b : Int) : Bool := js.any (jcon a b)
def tI (was now o : Bd) (p q : Fx) : Int × Bool := toi p.k p.r p.vs was.px was.py was.an now.px now.py now.an q.k q.r q.vs o.px o.py o.an o.px o.py o.an
def solid (l : List Fx) : List Fx := l.filter fun f => !f.sen
def minI (was now o : Bd) (p : Fx) (a : Int) (q : Fx) : Int := if shd p q && (tI was now o p q).2 && decide (0 < (tI was now o p q).1) then imin a (tI was now o p q).1 else a
def minP (was now o : Bd) (a : Int) (p : Fx) : Int := (solid o.fs).foldl (minI was now o p) a
def impW (was now o : Bd) : Int := (solid now.fs).foldl (minP was now o) 65536
def minK (was now : List Bd) (js : List Jt) (i : Nat) (a : Int) (k : Nat) : Int :=
  if k = i ∨ conn js (now.getD i Bd.o).id (now.getD k Bd.o).id = true then a else imin a (impW (was.getD i Bd.o) (now.getD i Bd.o) (now.getD k Bd.o))
def fstK (was now : List Bd) (js : List Jt) (i : Nat) : Int := (List.range now.length).foldl (minK was now js i) 65536
def bullet (b : Bd) : Bool := b.bul && decide (b.kd = 3) && !b.asl
/-- the first impact of body i. -/
def fstI (was now : List Bd) (js : List Jt) (i : Int) : Int × Bool :=
  if was.length = now.length ∧ 0 ≤ i ∧ i < now.length ∧ bullet (now.getD i.toNat Bd.o) = true ∧ fstK was now js i.toNat ≠ 65536 then (fstK was now js i.toNat, true) else (0, false)
def Bd.at (b : Bd) (x y a : Int) : Bd := { b with px := x, py := y, an := a }
/-- body i at its first impact. -/
def stopI (was now : List Bd) (js : List Jt) (i : Int) : Bd × Bool :=
  if 0 ≤ i ∧ i < now.length then
    (if (fstI was now js i).2 = true then (now.getD i.toNat Bd.o).at (flerp (was.getD i.toNat Bd.o).px (now.getD i.toNat Bd.o).px (fstI was now js i).1) (flerp (was.getD i.toNat Bd.o).py (now.getD i.toNat Bd.o).py (fstI was now js i).1) (ipA (was.getD i.toNat Bd.o).an (now.getD i.toNat Bd.o).an (fstI was now js i).1)
      else now.getD i.toNat Bd.o, (fstI was now js i).2)
  else (Bd.o, false)
def stopB (was now : List Bd) (js : List Jt) : List Bd := (List.range now.length).map fun i : Nat => (stopI was now js (i : Int)).1
end Go.Carom
