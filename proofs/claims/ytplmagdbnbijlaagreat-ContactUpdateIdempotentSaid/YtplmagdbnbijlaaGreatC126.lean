/-
  Laws ContactUpdate, SensorNoContact. Conditions: none.
-/
import Derived.Test.YtplmagdbnbijlaaGreatC124
import Derived.Outline
import Derived.Test.YtplmagdbnbijlaaGreatC40
set_option linter.all false
namespace Go.Proofs.YtplmagdbnbijlaaGreat
open Go.RowKit Go.AL Go.Carom
theorem small_WU {w : Wd} (h : smallW w = true) : WU w := by
  unfold smallW at h
  simp only [Bool.and_eq_true, decide_eq_true_eq] at h
  obtain ⟨⟨⟨⟨⟨⟨h1, h2⟩, h3⟩, h4⟩, _⟩, h5⟩, h6⟩ := h
  have hF : ∀ b ∈ w.bs, b.fs.length ≤ 4 ∧ ∀ f ∈ b.fs, f.vs.length ≤ 10 := by
    intro b hb
    obtain ⟨i, hi, rfl⟩ := mem_getB.1 hb
    have h7 := List.all_eq_true.1 h5 i (List.mem_range.2 hi)
    unfold smallI at h7
    rw [Bool.and_eq_true, Bool.not_eq_true'] at h7
    have h8 := of_decide_eq_false h7.1
    refine ⟨by omega, fun f hf => ?_⟩
    obtain ⟨j, hj, e⟩ := List.mem_iff_getElem.1 hf
    have h9 := List.all_eq_true.1 h7.2 j (List.mem_range.2 hj)
    unfold smallJ at h9
    rw [Bool.not_eq_true'] at h9
    have h10 := of_decide_eq_false h9
    rw [List.getD_eq_getElem?_getD (l := (w.bs.getD i Bd.o).fs), List.getElem?_eq_getElem hj] at h10
    rw [← e]
    have h10 : ¬ 10 < (w.bs.getD i Bd.o).fs[j].vs.length := h10
    omega
  have hP : ∀ c ∈ w.cs, c.ps.length ≤ 6 := by
    intro c hc
    unfold few27 at h6
    rw [Bool.and_eq_true] at h6
    obtain ⟨i, hi, e⟩ := List.mem_iff_getElem.1 hc
    have h7 := List.all_eq_true.1 h6.1 i (List.mem_range.2 hi)
    unfold fewI at h7
    rw [Bool.not_eq_true'] at h7
    have h8 := of_decide_eq_false h7
    rw [List.getD_eq_getElem?_getD, List.getElem?_eq_getElem hi] at h8
    rw [← e]
    have h8 : ¬ 6 < w.cs[i].ps.length := h8
    omega
  refine ⟨⟨by omega, by omega, by omega, by omega, fun b hb => ⟨by have := (hF b hb).1; omega, fun f hf => by have := (hF b hb).2 f hf; omega⟩, fun c hc => by have := hP c hc; omega⟩,
    ⟨by omega, fun b hb => ⟨by have := (hF b hb).1; omega, fun f hf => by have := (hF b hb).2 f hf; omega⟩⟩⟩
theorem upd_ps {w : Wd} {c : Ct} (h : c ∈ upd w) : c.ps.length ≤ 2 := by
  unfold upd at h
  split at h
  · obtain ⟨k, _, rfl⟩ := List.mem_map.1 h
    show (wsC _ _).length ≤ 2
    unfold wsC
    rw [List.length_map, List.length_map]
    exact mn_n2 _ _
  · cases h
theorem upd_len {w : Wd} (hs : WU w) : (upd w).length ≤ 1000000 := by
  unfold upd
  split
  · rw [← updI_all]
    exact Nat.le_trans (updI_len _ _ _ _) (fpR_len hs.f w.js)
  · simp
end Go.Proofs.YtplmagdbnbijlaaGreat
