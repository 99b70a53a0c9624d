/-
  The plain law of chapter 27's events. Conditions: none; no program in sight.
-/
import Derived.Test.YtehlfgikcipdaaaM24
set_option linter.all false
namespace Go.Carom
open Go Go.AL

/-- the events for the first i of l. -/
def evI (l m : List Ct) (kd : Int) (i : Nat) : List Evt := (fl l (fun c => !isIn m c) i).map (Ct.evt kd)
theorem evI_in {l m : List Ct} {kd : Int} {i : Nat} (h : i < l.length) (hp : isIn m (l.getD i Ct.o) = false) : evI l m kd (i + 1) = evI l m kd i ++ [(l.getD i Ct.o).evt kd] := by
  unfold evI; rw [fl_in (p := fun c => !isIn m c) Ct.o h (by simp only [hp]; rfl), List.map_append]; rfl
theorem evI_out {l m : List Ct} {kd : Int} {i : Nat} (h : i < l.length) (hp : isIn m (l.getD i Ct.o) = true) : evI l m kd (i + 1) = evI l m kd i := by
  unfold evI; rw [fl_out (p := fun c => !isIn m c) Ct.o h (by simp only [hp]; rfl)]
theorem evI_all (l m : List Ct) (kd : Int) : evI l m kd l.length = evF l m kd := by unfold evI evF; rw [fl_all]
theorem evI_len (l m : List Ct) (kd : Int) (i : Nat) : (evI l m kd i).length ≤ l.length := by unfold evI; rw [List.length_map]; exact fl_len _ _ _
theorem evF_len (l m : List Ct) (kd : Int) : (evF l m kd).length ≤ l.length := by rw [← evI_all]; exact evI_len _ _ _ _
theorem ixT_up {m : List Ct} {i : Nat} (h : mhas (keyL (m.getD i Ct.o)) (ixT m i) = false) : ixT m (i + 1) = mset (keyL (m.getD i Ct.o)) (.int .i64 i) (ixT m i) := if_neg (by rw [h]; decide)
theorem ixT_dn {m : List Ct} {i : Nat} (h : mhas (keyL (m.getD i Ct.o)) (ixT m i) = true) : ixT m (i + 1) = ixT m i := if_pos h
theorem findK_in (l : List Ct) (c : Ct) : decide (findK l c.key < 0) = !isIn l c := findK_neg l c.key
/-- warm starting, from the last old point back. -/
def wsB (old : List P6) (id : Int) (m : Nat) : Int × Int := wsR id (old.drop m)
end Go.Carom
