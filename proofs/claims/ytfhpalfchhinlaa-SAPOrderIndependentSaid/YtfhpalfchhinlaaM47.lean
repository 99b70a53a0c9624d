/-
  The map of the IDs that were met. Conditions: none; no program in sight.
-/
import Derived.Test.YtfhpalfchhinlaaM46
import Derived.Test.YtfhpalfchhinlaaAl24
set_option linter.all false
namespace Go.Carom
open Go Go.AL

def idK (n : Int) : List Value := [.int .i64 n]
def idM (l : List Int) : List (List Value × Value) := l.map fun n => (idK n, .bool true)
theorem idK_eq (a b : Int) : veqs (idK a) (idK b) = decide (a = b) := by simp [idK, veqs, veq]
theorem mfind_idM (n : Int) : ∀ (l : List Int) (i : Nat), (l.any (fun m => decide (n = m)) = false → mfind (idK n) (idM l) i = none) ∧ (l.any (fun m => decide (n = m)) = true → ∃ j, mfind (idK n) (idM l) i = some (j, .bool true))
  | [], i => ⟨fun _ => rfl, fun h => by cases h⟩
  | a :: l, i => by
    obtain ⟨h1, h2⟩ := mfind_idM n l (i + 1)
    show ((a :: l).any _ = false → (if veqs (idK n) (idK a) = true then some (i, Value.bool true) else mfind (idK n) (idM l) (i + 1)) = none) ∧ ((a :: l).any _ = true → ∃ j, (if veqs (idK n) (idK a) = true then some (i, Value.bool true) else mfind (idK n) (idM l) (i + 1)) = some (j, .bool true))
    rw [idK_eq, List.any_cons]
    by_cases hna : n = a
    · rw [decide_eq_true hna]; exact ⟨fun h => by simp at h, fun _ => ⟨i, rfl⟩⟩
    · rw [decide_eq_false hna]
      simp only [Bool.false_or, Bool.false_eq_true, if_false]
      exact ⟨h1, h2⟩
theorem mget_idM (n : Int) (l : List Int) : mgetV (idK n) (idM l) (.bool false) = .bool (l.any fun m => decide (n = m)) := by
  unfold mgetV
  cases h : l.any (fun m => decide (n = m)) with
  | false => rw [(mfind_idM n l 0).1 h]
  | true => obtain ⟨j, hj⟩ := (mfind_idM n l 0).2 h; rw [hj]
theorem mset_idM (n : Int) (l : List Int) (h : l.any (fun m => decide (n = m)) = false) : mset (idK n) (.bool true) (idM l) = idM (l ++ [n]) := by
  rw [mset_none ((mfind_idM n l 0).1 h)]; simp [idM]
theorem idM_keys (l : List Int) : MKeys [some .i64] (idM l) := fun m hm => by
  obtain ⟨n, _, rfl⟩ := List.mem_map.1 hm; rfl
/-- the IDs of the entries that are kept. -/
def idsE (l : List En) : List Int := l.map En.id
theorem newE_any (acc : List En) (e : En) : newE acc e = (vE e && !((idsE acc).any fun m => decide (e.id = m))) := by
  unfold newE idsE
  congr 1
  rw [List.any_map, Bool.eq_iff_iff]
  simp only [List.all_eq_true, Bool.not_eq_true', decide_eq_false_iff_not, List.any_eq_false, Function.comp]
  constructor
  · intro h x hx; have := h x hx; simpa using fun e => this e.symm
  · intro h x hx e; have := h x hx; simp [e] at this
theorem fltI_in (l : List En) (i : Nat) (h : i < l.length) (hn : (vE (l.getD i En.o) && !((idsE (fltI l i)).any fun m => decide ((l.getD i En.o).id = m))) = true) :
    fltI l (i + 1) = fltI l i ++ [l.getD i En.o] ∧ idsE (fltI l (i + 1)) = idsE (fltI l i) ++ [(l.getD i En.o).id] := by
  have h1 : fltI l (i + 1) = fltI l i ++ [l.getD i En.o] := by rw [fltI_next l i h]; unfold addE; rw [newE_any, hn, if_pos rfl]
  exact ⟨h1, by rw [h1]; simp [idsE]⟩
theorem fltI_out (l : List En) (i : Nat) (h : i < l.length) (hn : (vE (l.getD i En.o) && !((idsE (fltI l i)).any fun m => decide ((l.getD i En.o).id = m))) = false) : fltI l (i + 1) = fltI l i := by
  rw [fltI_next l i h]; unfold addE; rw [newE_any, hn, if_neg (by decide)]
end Go.Carom
