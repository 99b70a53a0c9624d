/-
  The plain law of ManifoldFlip. Conditions: none; no program in sight.
-/
import Derived.Test.YtehlfgikcipdaaaGreatM24
import Derived.Test.YtehlfgikcipdaaaGreatM26
set_option linter.all false
namespace Go.Carom
open Go Go.AL

theorem ng_ng {x : Int} (h : -9223372036854775808 ≤ x ∧ x ≤ 9223372036854775807) : ng (ng x) = x := by
  unfold ng
  simp [IntKind.wrap, IntKind.signed, IntKind.bits]; omega
theorem in_mx {x y : Int} {s : AV} {S : Sh} (h : InL [.int .i64, .int .i64, S] [.i x, .i y, s]) : (-9223372036854775808 ≤ x ∧ x ≤ 9223372036854775807) ∧ -9223372036854775808 ≤ y ∧ y ≤ 9223372036854775807 := by
  obtain ⟨c0, cs', e0, h0, h'⟩ := inL_cons.1 h
  injection e0 with e0 e1
  subst e0; subst e1
  obtain ⟨c1, cs', e2, h1, h''⟩ := inL_cons.1 h'
  injection e2 with e2 e3
  subst e2
  obtain ⟨n, e4, g⟩ := inC_int.1 h0
  obtain ⟨n', e5, g'⟩ := inC_int.1 h1
  injection e4 with e4
  injection e4 with _ e4
  injection e5 with e5
  injection e5 with _ e5
  subst e4; subst e5
  simp [Lit.wf, IntKind.min, IntKind.max, IntKind.signed, IntKind.bits] at g g'
  exact ⟨by omega, by omega⟩
def incS (p : P6) : P6 := ⟨p.a, p.b, IntKind.i64.wrap (p.c + 1), p.d, p.e, p.f⟩
def incD (p : P6) : P6 := ⟨p.a, p.b, p.c, IntKind.i64.wrap (p.d + 1), p.e, p.f⟩
end Go.Carom
