/-
  How a motion that is handed to a law looks. Conditions: none; no program in sight.
-/
import Derived.Test.YtojkdbeodjanpaaGreatM11
set_option linter.all false
namespace Go.Carom
open Go Go.AL

theorem in_3 {c : List Sh} {cs : List AV} (h : InL (.int .i64 :: .int .i64 :: .int .i64 :: c) cs) : ∃ x y z cs', cs = .i x :: .i y :: .i z :: cs' ∧ InL c cs' := by
  obtain ⟨c0, cs0, rfl, h0, g0⟩ := inL_cons.1 h
  obtain ⟨c1, cs1, rfl, h1, g1⟩ := inL_cons.1 g0
  obtain ⟨c2, cs2, rfl, h2, g2⟩ := inL_cons.1 g1
  obtain ⟨x, rfl, _⟩ := inC_int.1 h0
  obtain ⟨y, rfl, _⟩ := inC_int.1 h1
  obtain ⟨z, rfl, _⟩ := inC_int.1 h2
  exact ⟨x, y, z, cs2, rfl, g2⟩
theorem in_sh {c : List Sh} {cs : List AV} (h : InL (.int .i64 :: .int .i64 :: .sl true [.int .i64, .int .i64] :: c) cs) : ∃ k r, ∃ ps : List (Int × Int), ∃ cs', cs = .i k :: .i r :: .sl (ps.map ev) :: cs' ∧ ps.length ≤ maxLen ∧ InL c cs' := by
  obtain ⟨c0, cs0, rfl, h0, g0⟩ := inL_cons.1 h
  obtain ⟨c1, cs1, rfl, h1, g1⟩ := inL_cons.1 g0
  obtain ⟨c2, cs2, rfl, h2, g2⟩ := inL_cons.1 g1
  obtain ⟨k, rfl, _⟩ := inC_int.1 h0
  obtain ⟨r, rfl, _⟩ := inC_int.1 h1
  obtain ⟨ps, rfl, hl⟩ := in_vecs h2
  exact ⟨k, r, ps, cs2, rfl, hl, g2⟩
theorem in_motion {cs : List AV} (h : InL [.int .i64, .int .i64, .sl true [.int .i64, .int .i64], .int .i64, .int .i64, .sl true [.int .i64, .int .i64], .int .i64, .int .i64, .int .i64, .int .i64, .int .i64, .int .i64, .int .i64, .int .i64, .int .i64, .int .i64, .int .i64, .int .i64] cs) :
    ∃ k r, ∃ ps : List (Int × Int), ∃ k' r', ∃ qs : List (Int × Int), ∃ px py a px' py' a' ux uy b ux' uy' b',
      cs = [.i k, .i r, .sl (ps.map ev), .i k', .i r', .sl (qs.map ev), .i px, .i py, .i a, .i px', .i py', .i a', .i ux, .i uy, .i b, .i ux', .i uy', .i b'] ∧ ps.length ≤ maxLen ∧ qs.length ≤ maxLen := by
  obtain ⟨k, r, ps, cs1, rfl, hl, h1⟩ := in_sh h
  obtain ⟨k', r', qs, cs2, rfl, hm, h2⟩ := in_sh h1
  obtain ⟨px, py, a, cs3, rfl, h3⟩ := in_3 h2
  obtain ⟨px', py', a', cs4, rfl, h4⟩ := in_3 h3
  obtain ⟨ux, uy, b, cs5, rfl, h5⟩ := in_3 h4
  obtain ⟨ux', uy', b', cs6, rfl, h6⟩ := in_3 h5
  obtain rfl := inL_nil.1 h6
  exact ⟨k, r, ps, k', r', qs, px, py, a, px', py', a', ux, uy, b, ux', uy', b', rfl, hl, hm⟩
end Go.Carom
