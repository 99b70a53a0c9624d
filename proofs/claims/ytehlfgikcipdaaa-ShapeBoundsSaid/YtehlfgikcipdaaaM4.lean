/-
  The plain law of chapters 5 and 10: boxes and segments. Conditions: none; no program in sight.
-/
import Derived.Test.YtehlfgikcipdaaaM3
set_option linter.all false
namespace Go.Carom
open Go Go.AL

def imin (a b : Int) : Int := if b < a then b else a
def imax (a b : Int) : Int := if a < b then b else a
def vsatd (x y : Int) : Bool := decide (sat x = x) && decide (sat y = y)
def bvalid (x y u v : Int) : Bool := decide (x ≤ u) && decide (y ≤ v) && vsatd x y && vsatd u v
def bover (x y u v x' y' u' v' : Int) : Bool := decide (x ≤ u') && decide (x' ≤ u) && decide (y ≤ v') && decide (y' ≤ v)
def boverlaps (x y u v x' y' u' v' : Int) : Bool := bvalid x y u v && bvalid x' y' u' v' && bover x y u v x' y' u' v'
/-- the box of the first points. -/
def loX (ps : List (Int × Int)) : Nat → Int
  | 0 => sat (vx ps 0)
  | i + 1 => imin (loX ps i) (sat (vx ps (i + 1)))
def loY (ps : List (Int × Int)) : Nat → Int
  | 0 => sat (vy ps 0)
  | i + 1 => imin (loY ps i) (sat (vy ps (i + 1)))
def hiX (ps : List (Int × Int)) : Nat → Int
  | 0 => sat (vx ps 0)
  | i + 1 => imax (hiX ps i) (sat (vx ps (i + 1)))
def hiY (ps : List (Int × Int)) : Nat → Int
  | 0 => sat (vy ps 0)
  | i + 1 => imax (hiY ps i) (sat (vy ps (i + 1)))
theorem vs_drop {ps : List (Int × Int)} {i : Nat} (h : i + 1 < ps.length) : ((ps.map ev).drop 1).getD i .und = .agg [.i (vx ps (i + 1)), .i (vy ps (i + 1))] := by
  have := ev_getD h
  simpa [List.getD_eq_getElem?_getD, Nat.add_comm] using this
theorem vs_all (ps : List (Int × Int)) : (∀ v ∈ ps.map ev, v.cells.length = 2) = True := eq_true (by
  intro v hv
  obtain ⟨p, _, rfl⟩ := List.mem_map.1 hv
  rfl)
theorem vs_take (ps : List (Int × Int)) : (ps.map ev).take ps.length = ps.map ev := by
  rw [List.take_of_length_le (by simp)]
theorem vs_tail (ps : List (Int × Int)) : (ps.map ev).drop 1 = (ps.drop 1).map ev := List.map_drop.symm
theorem vx_drop (ps : List (Int × Int)) (i : Nat) : vx (ps.drop 1) i = vx ps (i + 1) := by simp [vx, List.getD_eq_getElem?_getD, Nat.add_comm]
theorem vy_drop (ps : List (Int × Int)) (i : Nat) : vy (ps.drop 1) i = vy ps (i + 1) := by simp [vy, List.getD_eq_getElem?_getD, Nat.add_comm]
end Go.Carom
