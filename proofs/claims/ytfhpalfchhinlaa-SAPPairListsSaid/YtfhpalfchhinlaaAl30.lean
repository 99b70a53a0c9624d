/-
  The abstract logic: a callee that is walked in its place and leaves its caller's boxes as they were: only the new boxes count as written. Conditions: the program follows the mixed orders.
-/
import Derived.Test.YtfhpalfchhinlaaAlC
set_option linter.all false
namespace Go.AL
open Go.RowKit

theorem updL_self {Hl : HH} {H' : Nat → Option ABox} (hk0 : keysOk Hl = true) (h : ∀ b ∈ Hl.map (·.1), H' b = hk Hl b) : updL H' Hl = H' := by
  funext b
  by_cases hb : b ∈ Hl.map (·.1)
  · rw [updL_hk Hl H' b hk0 hb, h b hb]
  · exact updL_other Hl H' b hb
theorem cst_new {P : Program} {f : Nat} {fn : Func} {c : Code} {as cap : List AV} {Hl : HH} {nx n : Nat} {rs : Array ResultVar} {K : Res → Prop} {v : AV} {wn : HH} {e : Nat} (hm : P.follows .mixedOrders = true) (hf : P.funcs[f]? = some fn) (hb : fn.body = some c) (he : entB P f = true)
    (hn : fn.ntmps = n) (hrs : fn.results = rs) (hle : (as ++ cap).length.ble n = true) (h : acode P n c (argT (as ++ cap) 0) Hl nx (retJ P rs.toList nx v (Hl ++ wn) e (Hl.map (·.1)))) (h1 : Lts nx (as ++ cap)) (h2 : HBs nx Hl) (h3 : Lt e v) (h4 : HBs e (Hl ++ wn))
    (h5 : keysOk (Hl ++ wn) = true) (h6 : keepB Hl (Hl ++ wn) = true) (h7 : nx ≤ e) (h8 : keysOk Hl = true) (hK : K ⟨v, wn, e - nx, Hl.map (·.1)⟩) : cst P (hk Hl) nx (.clo f cap) as K := by
  obtain ⟨r, hr, rfl⟩ := cst_in (K := fun r => r = ⟨v, Hl ++ wn, e - nx, Hl.map (·.1)⟩) hm hf hb he hn hrs hle h h1 h2 h3 h4 h5 h6 h7 rfl
  refine ⟨_, ⟨hr.1, fun C T' H' D g a w hP hrel hag hD vs hvs => ?_⟩, hK⟩
  have hs : updL H' (Hl ++ wn) = updL H' wn := by rw [updL_append, updL_self h8 hag]
  have := hr.2 C T' H' D g a w hP hrel hag hD vs hvs
  simp only [hs] at this
  exact this
end Go.AL
