/-
  The plain law of chapter 38: overlaps of sensors. Conditions: none; no program in sight.
-/
import Derived.Test.YtplmagdbnbijlaaGreatME
import Derived.Test.YtplmagdbnbijlaaGreatMD
import Derived.Test.YtplmagdbnbijlaaGreatMA
set_option linter.all false
namespace Go.Carom
open Go.RowKit Go.AL
theorem fbK_frst {bs : List Bd} {i : Nat} (hi : i < bs.length) (hf : frst bs i = true) : fbK bs (bs.getD i Bd.o).id = i := by
  unfold fbK
  refine fidx_hit hi (fun j hj => ?_) ?_
  · have := (frst_iff bs i).1 hf j hj
    rw [decide_eq_false this]; rfl
  · rw [decide_eq_true rfl]; rfl
def bdZ (bs : List Bd) (id : Int) : Bd := bs.getD (fbK bs id).toNat Bd.o
def fxZ (bs : List Bd) (id f : Int) : Fx := (bdZ bs id).fs.getD f.toNat Fx.o
theorem key_has {bs : List Bd} {js : List Jt} {k : K4} (h : k ∈ fpR bs js) : hasFx bs k.a k.fa ∧ hasFx bs k.b k.fb := by
  obtain ⟨i, j, p, q, hi, hj, hok, hp, hq, _, rfl⟩ := (mem_kA bs js k bs.length).1 (((fpR_SS bs js).2 k).1 h)
  obtain ⟨_, h1, h2, _, _⟩ := (okB_iff _ _ _ _).1 hok
  unfold hasFx keyQ
  simp only [fbK_frst hi h1, fbK_frst hj h2]
  refine ⟨⟨by omega, by omega, ?_⟩, ⟨by omega, by omega, ?_⟩⟩
  · rw [Int.toNat_natCast]; omega
  · rw [Int.toNat_natCast]; omega
def ovl2 (A : Bd) (f : Fx) (B : Bd) (g : Fx) : Bool := overl f.k f.r f.vs A.px A.py A.an g.k g.r g.vs B.px B.py B.an
def senK (bs : List Bd) (k : K4) : Bool := (fxZ bs k.a k.fa).sen || (fxZ bs k.b k.fb).sen
def ovS (bs : List Bd) (k : K4) : Bool := senK bs k && ovl2 (bdZ bs k.a) (fxZ bs k.a k.fa) (bdZ bs k.b) (fxZ bs k.b k.fb)
def ovs (w : Wd) : List K4 := if wval w = 0 then (fpR w.bs w.js).filter (ovS w.bs) else []
theorem hasFx_mem {bs : List Bd} {id f : Int} (h : hasFx bs id f) : bdZ bs id ∈ bs ∧ fxZ bs id f ∈ (bdZ bs id).fs := by
  obtain ⟨h1, h2, h3⟩ := h
  have h4 := fbK_lt bs id
  exact ⟨getD_mem (by omega), getD_mem (by unfold bdZ; omega)⟩
theorem ovs_SS (w : Wd) : SS kql (ovs w) := by
  unfold ovs
  split
  · exact ((fpR_SS w.bs w.js).1).sublist List.filter_sublist
  · exact List.Pairwise.nil
end Go.Carom
/-
  The plain law of chapter 38: events applied; overlaps are complete. Conditions: none; no program in sight.
-/
namespace Go.Carom
open Go.RowKit Go.AL
def evA (old now : List K4) : List K4 := now.filter (nin old)
def evB (old now : List K4) : List K4 := old.filter (nin now)
theorem sevs_eq (old now : List K4) : sevs old now = (evA old now).map (K4.evt 3) ++ (evB old now).map (K4.evt 4) := rfl
theorem nin_iff (m : List K4) (k : K4) : nin m k = true ↔ k ∉ m := by
  unfold nin
  rw [Bool.not_eq_true', ← Bool.not_eq_true, hasK_iff]
theorem mem_evA {old now : List K4} {k : K4} : k ∈ evA old now ↔ k ∈ now ∧ k ∉ old := by unfold evA; rw [List.mem_filter, nin_iff]
theorem mem_evB {old now : List K4} {k : K4} : k ∈ evB old now ↔ k ∈ old ∧ k ∉ now := by unfold evB; rw [List.mem_filter, nin_iff]
theorem hasK_false {m : List K4} {k : K4} (h : k ∉ m) : hasK m k = false := by rw [← Bool.not_eq_true, hasK_iff]; exact h
theorem sev_one {old now : List K4} {i : Nat} (h : i < (evA old now).length) : (sevs old now).getD i Evt.o = ((evA old now).getD i K4.o).evt 3 ∧ hasK old ((evA old now).getD i K4.o) = false ∧ hasK now ((evA old now).getD i K4.o) = true := by
  have hm := mem_evA.1 (getD_mem (d := K4.o) h)
  refine ⟨?_, hasK_false hm.2, (hasK_iff _ _).2 hm.1⟩
  rw [sevs_eq, List.getD_eq_getElem?_getD, List.getElem?_append_left (by rw [List.length_map]; exact h), List.getElem?_map, k4_at _ h, List.getElem?_eq_getElem h]; rfl
theorem sev_two {old now : List K4} {i : Nat} (h : ¬ i < (evA old now).length) (h2 : i < (sevs old now).length) : (sevs old now).getD i Evt.o = ((evB old now).getD (i - (evA old now).length) K4.o).evt 4 ∧
    hasK old ((evB old now).getD (i - (evA old now).length) K4.o) = true ∧ hasK now ((evB old now).getD (i - (evA old now).length) K4.o) = false := by
  rw [sevs_eq, List.length_append, List.length_map, List.length_map] at h2
  have h3 : i - (evA old now).length < (evB old now).length := by omega
  have hm := mem_evB.1 (getD_mem (d := K4.o) h3)
  refine ⟨?_, (hasK_iff _ _).2 hm.1, hasK_false hm.2⟩
  rw [sevs_eq, List.getD_eq_getElem?_getD, List.getElem?_append_right (by rw [List.length_map]; omega), List.length_map, List.getElem?_map, k4_at _ h3, List.getElem?_eq_getElem h3]; rfl
def xitE (k : K4) (e : Evt) : Bool := decide (e.kd = 4) && (decide (e.a = k.a) && (decide (e.fa = k.fa) && (decide (e.b = k.b) && decide (e.fb = k.fb))))
def xitK (l : List Evt) (k : K4) : Bool := l.any (xitE k)
theorem xitE_evt (k x : K4) (kd : Int) : xitE k (x.evt kd) = true ↔ kd = 4 ∧ x = k := by
  show (decide (kd = 4) && x.eqb k) = true ↔ kd = 4 ∧ x = k
  rw [Bool.and_eq_true, K4.eqb_iff]
  exact and_congr (decide_eq_true_iff) Iff.rfl
theorem xit_all {old now : List K4} {k : K4} (h : k ∈ old ++ evA old now) : xitK (sevs old now) k = !hasK now k := by
  have h1 : xitK (sevs old now) k = true ↔ k ∈ evB old now := by
    unfold xitK
    rw [List.any_eq_true, sevs_eq]
    constructor
    · rintro ⟨e, he, hx⟩
      rcases List.mem_append.1 he with he | he
      · obtain ⟨x, _, rfl⟩ := List.mem_map.1 he
        have := ((xitE_evt k x 3).1 hx).1
        omega
      · obtain ⟨x, hm, rfl⟩ := List.mem_map.1 he
        rw [← ((xitE_evt k x 4).1 hx).2]; exact hm
    · intro hm
      exact ⟨_, List.mem_append_right _ (List.mem_map.2 ⟨k, hm, rfl⟩), (xitE_evt k k 4).2 ⟨rfl, rfl⟩⟩
  rw [mem_evB] at h1
  cases hn : hasK now k with
  | true =>
    have hm := (hasK_iff _ _).1 hn
    show xitK _ _ = false
    rw [← Bool.not_eq_true, h1]
    exact fun h => h.2 hm
  | false =>
    have hm : k ∉ now := fun h => by rw [(hasK_iff _ _).2 h] at hn; cases hn
    show xitK _ _ = true
    rw [h1]
    rcases List.mem_append.1 h with h | h
    · exact ⟨h, hm⟩
    · exact absurd (mem_evA.1 h).1 hm
theorem now_all {old now : List K4} {k : K4} (h : k ∈ now) : hasK (old ++ evA old now) k = true := by
  rw [hasK_iff, List.mem_append, mem_evA]
  by_cases ho : k ∈ old
  · exact .inl ho
  · exact .inr ⟨h, ho⟩
def alI (old now : List K4) (i : Nat) : List K4 := old ++ (evA old now).take i
theorem alI_in {old now : List K4} {i : Nat} (h : i < (evA old now).length) : alI old now (i + 1) = alI old now i ++ [(evA old now).getD i K4.o] := by
  unfold alI
  rw [take_succ_getD _ K4.o h, List.append_assoc]
theorem alI_out {old now : List K4} {i : Nat} (h : ¬ i < (evA old now).length) : alI old now (i + 1) = alI old now i := by
  unfold alI
  rw [List.take_of_length_le (by omega), List.take_of_length_le (by omega)]
theorem alI_all (old now : List K4) : alI old now (sevs old now).length = old ++ evA old now := by
  unfold alI
  rw [List.take_of_length_le]
  rw [sevs_eq, List.length_append, List.length_map]; omega
theorem alI_len (old now : List K4) (i : Nat) : (alI old now i).length ≤ old.length + now.length := by
  unfold alI evA
  have := List.length_filter_le (nin old) now
  rw [List.length_append, List.length_take]; omega
/-! ### overlaps -/
theorem wval_fs {w : Wd} (h : wval w = 0) : ∀ b ∈ w.bs, b.fs.length ≤ 4 := by
  have hB : wB w = true := by
    cases hb : wB w with
    | true => rfl
    | false =>
      unfold wval at h
      rw [hb] at h
      split at h
      · cases h
      · split at h
        · cases h
        · split at h
          · cases h
          · simp at h
  intro b hm
  obtain ⟨i, hi, rfl⟩ := mem_getB.1 hm
  have h1 := List.all_eq_true.1 hB i (List.mem_range.2 hi)
  unfold wbI at h1
  simp only [Bool.and_eq_true, decide_eq_true_eq] at h1
  have h2 := h1.1.1
  unfold bval at h2
  split at h2
  · cases h2
  · split at h2
    · cases h2
    · split at h2
      · cases h2
      · omega
theorem ovs_sub {w : Wd} {k : K4} (h : k ∈ ovs w) : k ∈ fpR w.bs w.js := by
  unfold ovs at h
  split at h
  · exact (List.mem_filter.1 h).1
  · cases h
theorem fp_kval {bs : List Bd} {js : List Jt} (hf : ∀ b ∈ bs, b.fs.length ≤ 4) {k : K4} (h : k ∈ fpR bs js) : kval k = true := by
  obtain ⟨i, j, p, q, hi, hj, hok, hp, hq, hQ, rfl⟩ := (mem_kA bs js k bs.length).1 (((fpR_SS bs js).2 k).1 h)
  have c1 := ((okB_iff _ _ _ _).1 hok).1
  have f1 := hf _ (getD_mem (d := Bd.o) hi)
  have f2 := hf _ (getD_mem (d := Bd.o) hj)
  unfold kval keyQ
  simp only [Bool.and_eq_true, decide_eq_true_eq]
  omega
theorem ovs_val {w : Wd} (h : wval w = 0) : kvs (ovs w) = true := kvs_of (ovs_SS w) fun k hk => fp_kval (wval_fs h) (ovs_sub hk)
theorem ovs_has {w : Wd} (h : wval w = 0) {k : K4} (hk : k ∈ fpR w.bs w.js) : hasK (ovs w) k = ovS w.bs k := by
  rw [Bool.eq_iff_iff, hasK_iff]
  unfold ovs
  rw [if_pos h, List.mem_filter]
  exact ⟨fun h => h.2, fun h => ⟨hk, h⟩⟩
end Go.Carom
