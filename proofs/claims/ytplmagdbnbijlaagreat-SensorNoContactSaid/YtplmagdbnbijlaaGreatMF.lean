/-
  The plain law of chapter 38: overlaps of sensors. Conditions: none; no program in sight.
-/
import Derived.Test.YtplmagdbnbijlaaGreatME
import Derived.Test.YtplmagdbnbijlaaGreatMD
import Derived.Test.YtplmagdbnbijlaaGreatMA
set_option linter.all false
namespace Go.Carom
open Go.RowKit Go.AL
theorem fbK_frst {bs : List Bd} {i : Nat} (hi : i < bs.length) (hf : frst bs i = true) : fbK bs (bs.getD i Bd.o).id = i := by
  unfold fbK
  refine fidx_hit hi (fun j hj => ?_) ?_
  · have := (frst_iff bs i).1 hf j hj
    rw [decide_eq_false this]; rfl
  · rw [decide_eq_true rfl]; rfl
def bdZ (bs : List Bd) (id : Int) : Bd := bs.getD (fbK bs id).toNat Bd.o
def fxZ (bs : List Bd) (id f : Int) : Fx := (bdZ bs id).fs.getD f.toNat Fx.o
theorem key_has {bs : List Bd} {js : List Jt} {k : K4} (h : k ∈ fpR bs js) : hasFx bs k.a k.fa ∧ hasFx bs k.b k.fb := by
  obtain ⟨i, j, p, q, hi, hj, hok, hp, hq, _, rfl⟩ := (mem_kA bs js k bs.length).1 (((fpR_SS bs js).2 k).1 h)
  obtain ⟨_, h1, h2, _, _⟩ := (okB_iff _ _ _ _).1 hok
  unfold hasFx keyQ
  simp only [fbK_frst hi h1, fbK_frst hj h2]
  refine ⟨⟨by omega, by omega, ?_⟩, ⟨by omega, by omega, ?_⟩⟩
  · rw [Int.toNat_natCast]; omega
  · rw [Int.toNat_natCast]; omega
def ovl2 (A : Bd) (f : Fx) (B : Bd) (g : Fx) : Bool := overl f.k f.r f.vs A.px A.py A.an g.k g.r g.vs B.px B.py B.an
def senK (bs : List Bd) (k : K4) : Bool := (fxZ bs k.a k.fa).sen || (fxZ bs k.b k.fb).sen
def ovS (bs : List Bd) (k : K4) : Bool := senK bs k && ovl2 (bdZ bs k.a) (fxZ bs k.a k.fa) (bdZ bs k.b) (fxZ bs k.b k.fb)
def ovs (w : Wd) : List K4 := if wval w = 0 then (fpR w.bs w.js).filter (ovS w.bs) else []
theorem hasFx_mem {bs : List Bd} {id f : Int} (h : hasFx bs id f) : bdZ bs id ∈ bs ∧ fxZ bs id f ∈ (bdZ bs id).fs := by
  obtain ⟨h1, h2, h3⟩ := h
  have h4 := fbK_lt bs id
  exact ⟨getD_mem (by omega), getD_mem (by unfold bdZ; omega)⟩
end Go.Carom
/-
  The plain law of chapter 38: events applied; overlaps are complete. Conditions: none; no program in sight.
-/
namespace Go.Carom
open Go.RowKit Go.AL
theorem hasK_false {m : List K4} {k : K4} (h : k ∉ m) : hasK m k = false := by rw [← Bool.not_eq_true, hasK_iff]; exact h
/-! ### overlaps -/
end Go.Carom
