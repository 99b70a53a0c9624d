/-
  How the values that are handed to a law look. Conditions: none; no program in sight.
-/
import Derived.Test.YtehlfgikcipdaaaM7
import Derived.Test.YtehlfgikcipdaaaAl17
set_option linter.all false
namespace Go.Carom
open Go Go.AL

theorem ofC_true (cs : List AV) : ofC true cs = .agg cs := rfl
theorem in_vec {cs : List AV} (h : InL [.int .i64, .int .i64] cs) : ∃ x y, cs = [.i x, .i y] := by
  obtain ⟨c0, cs, rfl, h0, h⟩ := inL_cons.1 h
  obtain ⟨c1, cs, rfl, h1, h⟩ := inL_cons.1 h
  obtain rfl := inL_nil.1 h
  obtain ⟨x, rfl, _⟩ := inC_int.1 h0
  obtain ⟨y, rfl, _⟩ := inC_int.1 h1
  exact ⟨x, y, rfl⟩
theorem in_tr {cs : List AV} (h : InL [.int .i64, .int .i64, .int .i64] cs) : ∃ x y z, cs = [.i x, .i y, .i z] := by
  obtain ⟨c0, cs', rfl, h0, h'⟩ := inL_cons.1 h
  obtain ⟨y, z, rfl⟩ := in_vec h'
  obtain ⟨x, rfl, _⟩ := inC_int.1 h0
  exact ⟨x, y, z, rfl⟩
theorem in_vecs {c : AV} (h : InC (.sl true [.int .i64, .int .i64]) c) : ∃ ps : List (Int × Int), c = .sl (ps.map ev) ∧ ps.length ≤ maxLen := by
  obtain ⟨ps, h1, h2, _⟩ := inC_sl (F := ev) (Q := fun _ => True) (fun cs hcs => by
    obtain ⟨x, y, rfl⟩ := in_vec hcs
    exact ⟨(x, y), rfl, trivial⟩) h
  exact ⟨ps, h1, h2⟩
theorem in_shape {cs : List AV} (h : InL [.int .i64, .int .i64, .sl true [.int .i64, .int .i64]] cs) : ∃ k r, ∃ ps : List (Int × Int), cs = [.i k, .i r, .sl (ps.map ev)] ∧ ps.length ≤ maxLen := by
  obtain ⟨c0, cs, rfl, h0, h⟩ := inL_cons.1 h
  obtain ⟨c1, cs, rfl, h1, h⟩ := inL_cons.1 h
  obtain ⟨c2, cs, rfl, h2, h⟩ := inL_cons.1 h
  obtain rfl := inL_nil.1 h
  obtain ⟨k, rfl, _⟩ := inC_int.1 h0
  obtain ⟨r, rfl, _⟩ := inC_int.1 h1
  obtain ⟨ps, rfl, hl⟩ := in_vecs h2
  exact ⟨k, r, ps, rfl, hl⟩
theorem in_int {cs : List AV} (h : InL [.int .i64] cs) : ∃ n, ofC false cs = .i n := by
  obtain ⟨c0, cs', rfl, h0, h'⟩ := inL_cons.1 h
  obtain ⟨n, rfl, _⟩ := inC_int.1 h0
  exact ⟨n, rfl⟩
theorem in_ray {cs : List AV} (h : InL [.int .i64, .int .i64, .int .i64, .int .i64] cs) : ∃ x y z u, cs = [.i x, .i y, .i z, .i u] := by
  obtain ⟨c0, cs', rfl, h0, h'⟩ := inL_cons.1 h
  obtain ⟨y, z, u, rfl⟩ := in_tr h'
  obtain ⟨x, rfl, _⟩ := inC_int.1 h0
  exact ⟨x, y, z, u, rfl⟩
theorem in_pts {cs : List AV} (h : InL [.sl true [.int .i64, .int .i64]] cs) : ∃ ps : List (Int × Int), ofC false cs = .sl (ps.map ev) ∧ ps.length ≤ maxLen := by
  obtain ⟨c0, cs', rfl, h0, h'⟩ := inL_cons.1 h
  obtain ⟨ps, rfl, hl⟩ := in_vecs h0
  exact ⟨ps, rfl, hl⟩
end Go.Carom
