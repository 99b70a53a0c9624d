/-
  The laws of chapter 39 that speak of the reference, and what a reading says of a motion. Conditions: none.
-/
import Derived.Test.YtgjmmipabpocdaaGreatC52
import Derived.Test.YtgjmmipabpocdaaGreatC48
import Derived.Outline
set_option linter.all false
namespace Go.Proofs.YtgjmmipabpocdaaGreat
open Go.RowKit Go.AL Go.Carom

theorem in_mo39 {cs : List AV} (h : InL [.sl true [.int .i64, .int .i64, .int .i64, .int .i64, .int .i64, .int .i64, .int .i64, .int .i64, .int .i64, .int .i64, .int .i64, .int .i64, .int .i64, .int .i64, .bool, .bool, .bool, .bool, .int .i64, .sl true [.int .i64, .int .i64, .sl true [.int .i64, .int .i64], .int .i64, .int .i64, .int .i64, .bool, .int .i64, .int .i64, .int .i64]], .sl true [.int .i64, .int .i64, .int .i64, .int .i64, .int .i64, .int .i64, .int .i64, .int .i64, .int .i64, .int .i64, .int .i64, .int .i64, .int .i64, .int .i64, .bool, .bool, .bool, .bool, .int .i64, .sl true [.int .i64, .int .i64, .sl true [.int .i64, .int .i64], .int .i64, .int .i64, .int .i64, .bool, .int .i64, .int .i64, .int .i64]], .sl true [.int .i64, .int .i64, .int .i64, .int .i64, .int .i64, .int .i64, .int .i64, .int .i64, .int .i64, .int .i64, .int .i64, .bool, .int .i64, .int .i64, .bool, .int .i64, .int .i64, .int .i64, .int .i64, .bool, .int .i64, .int .i64, .int .i64, .int .i64]] cs) : ∃ (was now : List Bd) (js : List Jt), cs = [.sl (was.map Bd.v), .sl (now.map Bd.v), .sl (js.map Jt.v)] ∧
    was.length ≤ maxLen ∧ now.length ≤ maxLen ∧ (∀ b ∈ was, b.fs.length ≤ maxLen) ∧ (∀ b ∈ now, b.fs.length ≤ maxLen) := by
  obtain ⟨c0, cs, rfl, h0, h⟩ := inL_cons.1 h
  obtain ⟨c1, cs, rfl, h1, h⟩ := inL_cons.1 h
  obtain ⟨c2, cs, rfl, h2, h⟩ := inL_cons.1 h
  obtain rfl := inL_nil.1 h
  obtain ⟨x0, rfl, q0, p0⟩ := in_bds h0
  obtain ⟨x1, rfl, q1, p1⟩ := in_bds h1
  obtain ⟨x2, rfl, q2, p2⟩ := in_jts h2
  exact ⟨x0, x1, x2, rfl, q0, q1, fun b hb => (p0 b hb).1, fun b hb => (p1 b hb).1⟩
theorem k_first (was now : List Bd) (js : List Jt) (hw : was.length ≤ maxLen) (hn : now.length ≤ maxLen) (hwF : ∀ b ∈ was, b.fs.length ≤ maxLen) (hnF : ∀ b ∈ now, b.fs.length ≤ maxLen) (i : Int) : PCall Tryz.prog 4 [.agg [.sl (was.map Bd.v), .sl (now.map Bd.v), .sl (js.map Jt.v)], .i i] (.b true) := l_first was now js hw hn hwF hnF i c_ex39
theorem k_stops (was now : List Bd) (js : List Jt) (hw : was.length ≤ maxLen) (hn : now.length ≤ maxLen) (hwF : ∀ b ∈ was, b.fs.length ≤ maxLen) (hnF : ∀ b ∈ now, b.fs.length ≤ maxLen) : PCall Tryz.prog 3 [.agg [.sl (was.map Bd.v), .sl (now.map Bd.v), .sl (js.map Jt.v)]] (.b true) := l_stops was now js hw hn hwF hnF c_ex39
end Go.Proofs.YtgjmmipabpocdaaGreat
