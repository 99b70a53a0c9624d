/-
  The plain law of chapter 38: overlaps of sensors. Conditions: none; no program in sight.
-/
import Derived.Test.YtplmagdbnbijlaaGreatME
import Derived.Test.YtplmagdbnbijlaaGreatMD
import Derived.Test.YtplmagdbnbijlaaGreatMA
set_option linter.all false
namespace Go.Carom
open Go.RowKit Go.AL
theorem fbK_frst {bs : List Bd} {i : Nat} (hi : i < bs.length) (hf : frst bs i = true) : fbK bs (bs.getD i Bd.o).id = i := by
  unfold fbK
  refine fidx_hit hi (fun j hj => ?_) ?_
  · have := (frst_iff bs i).1 hf j hj
    rw [decide_eq_false this]; rfl
  · rw [decide_eq_true rfl]; rfl
def bdZ (bs : List Bd) (id : Int) : Bd := bs.getD (fbK bs id).toNat Bd.o
def fxZ (bs : List Bd) (id f : Int) : Fx := (bdZ bs id).fs.getD f.toNat Fx.o
theorem key_has {bs : List Bd} {js : List Jt} {k : K4} (h : k ∈ fpR bs js) : hasFx bs k.a k.fa ∧ hasFx bs k.b k.fb := by
  obtain ⟨i, j, p, q, hi, hj, hok, hp, hq, _, rfl⟩ := (mem_kA bs js k bs.length).1 (((fpR_SS bs js).2 k).1 h)
  obtain ⟨_, h1, h2, _, _⟩ := (okB_iff _ _ _ _).1 hok
  unfold hasFx keyQ
  simp only [fbK_frst hi h1, fbK_frst hj h2]
  refine ⟨⟨by omega, by omega, ?_⟩, ⟨by omega, by omega, ?_⟩⟩
  · rw [Int.toNat_natCast]; omega
  · rw [Int.toNat_natCast]; omega
def senK (bs : List Bd) (k : K4) : Bool := (fxZ bs k.a k.fa).sen || (fxZ bs k.b k.fb).sen
theorem hasFx_mem {bs : List Bd} {id f : Int} (h : hasFx bs id f) : bdZ bs id ∈ bs ∧ fxZ bs id f ∈ (bdZ bs id).fs := by
  obtain ⟨h1, h2, h3⟩ := h
  have h4 := fbK_lt bs id
  exact ⟨getD_mem (by omega), getD_mem (by unfold bdZ; omega)⟩
end Go.Carom
/-
  The plain law of chapter 38: events applied; overlaps are complete. Conditions: none; no program in sight.
-/
namespace Go.Carom
open Go.RowKit Go.AL
/-! ### overlaps -/
theorem wval_fs {w : Wd} (h : wval w = 0) : ∀ b ∈ w.bs, b.fs.length ≤ 4 := by
  have hB : wB w = true := by
    cases hb : wB w with
    | true => rfl
    | false =>
      unfold wval at h
      rw [hb] at h
      split at h
      · cases h
      · split at h
        · cases h
        · split at h
          · cases h
          · simp at h
  intro b hm
  obtain ⟨i, hi, rfl⟩ := mem_getB.1 hm
  have h1 := List.all_eq_true.1 hB i (List.mem_range.2 hi)
  unfold wbI at h1
  simp only [Bool.and_eq_true, decide_eq_true_eq] at h1
  have h2 := h1.1.1
  unfold bval at h2
  split at h2
  · cases h2
  · split at h2
    · cases h2
    · split at h2
      · cases h2
      · omega
theorem fp_kval {bs : List Bd} {js : List Jt} (hf : ∀ b ∈ bs, b.fs.length ≤ 4) {k : K4} (h : k ∈ fpR bs js) : kval k = true := by
  obtain ⟨i, j, p, q, hi, hj, hok, hp, hq, hQ, rfl⟩ := (mem_kA bs js k bs.length).1 (((fpR_SS bs js).2 k).1 h)
  have c1 := ((okB_iff _ _ _ _).1 hok).1
  have f1 := hf _ (getD_mem (d := Bd.o) hi)
  have f2 := hf _ (getD_mem (d := Bd.o) hj)
  unfold kval keyQ
  simp only [Bool.and_eq_true, decide_eq_true_eq]
  omega
end Go.Carom
