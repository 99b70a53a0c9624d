/-
  The plain law of chapter 27: the contacts of a world. Conditions: none; no program in sight.
-/
import Derived.Test.YtplmagdbnbijlaaGreatMF
import Derived.Test.YtplmagdbnbijlaaGreatMG
set_option linter.all false
namespace Go.Carom
open Go.RowKit Go.AL
theorem mfind_app {k x : List Value} {u : Value} : ∀ {ms : List (List Value × Value)} {i : Nat}, mfind k (ms ++ [(x, u)]) i = match mfind k ms i with | some r => some r | none => if veqs k x = true then some (i + ms.length, u) else none
  | [], i => by simp [mfind]
  | (y, v) :: r, i => by
    show (if veqs k y = true then some (i, v) else mfind k (r ++ [(x, u)]) (i + 1)) = match (if veqs k y = true then some (i, v) else mfind k r (i + 1)) with | some r => some r | none => if veqs k x = true then some (i + (r.length + 1), u) else none
    by_cases h : veqs k y = true
    · rw [if_pos h, if_pos h]
    · rw [if_neg h, if_neg h, mfind_app, show i + 1 + r.length = i + (r.length + 1) by omega]
theorem veqs_kK (k x : K4) : veqs (kK k) (kK x) = true ↔ k = x := by
  constructor
  · intro h
    exact kK_inj.1 (kinds_eq (kK_kinds k) (kK_kinds x) h)
  · rintro rfl; exact veqs_refl _ (kinds_all (kK_kinds k))
theorem ixT_find (l : List Ct) (k : K4) : ∀ n, n ≤ l.length → (∃ i p, i < n ∧ (l.getD i Ct.o).key = k ∧ (∀ j, j < i → (l.getD j Ct.o).key ≠ k) ∧ mfind (kK k) (ixT l n) 0 = some (p, .int .i64 i)) ∨ ((∀ j, j < n → (l.getD j Ct.o).key ≠ k) ∧ mfind (kK k) (ixT l n) 0 = none)
  | 0, _ => .inr ⟨fun j hj => by omega, rfl⟩
  | n + 1, hn => by
    have ih := ixT_find l k n (by omega)
    have ih2 := ixT_find l (l.getD n Ct.o).key n (by omega)
    have hkL : keyL (l.getD n Ct.o) = kK (l.getD n Ct.o).key := rfl
    have hst : ixT l (n + 1) = if mhas (kK (l.getD n Ct.o).key) (ixT l n) = true then ixT l n else mset (kK (l.getD n Ct.o).key) (.int .i64 n) (ixT l n) := rfl
    rcases ih2 with ⟨i, p, hi, hk, _, hf⟩ | ⟨hno, hf⟩
    · have hm : mhas (kK (l.getD n Ct.o).key) (ixT l n) = true := by unfold mhas; rw [hf]; rfl
      rw [hst, if_pos hm]
      rcases ih with ⟨i', p', hi', h⟩ | ⟨hno', hf'⟩
      · exact .inl ⟨i', p', by omega, h⟩
      · refine .inr ⟨fun j hj => ?_, hf'⟩
        by_cases hjn : j = n
        · subst hjn
          intro e
          exact hno' i hi (hk.trans e)
        · exact hno' j (by omega)
    · have hm : ¬ mhas (kK (l.getD n Ct.o).key) (ixT l n) = true := by unfold mhas; rw [hf]; decide
      rw [hst, if_neg hm, mset_none hf, mfind_app]
      rcases ih with ⟨i', p', hi', hk', hb', hf'⟩ | ⟨hno', hf'⟩
      · rw [hf']
        exact .inl ⟨i', p', by omega, hk', hb', rfl⟩
      · rw [hf']
        by_cases e : k = (l.getD n Ct.o).key
        · refine .inl ⟨n, 0 + (ixT l n).length, by omega, e.symm, hno', ?_⟩
          show (if veqs (kK k) (kK (l.getD n Ct.o).key) = true then _ else _) = _
          rw [if_pos ((veqs_kK _ _).2 e)]
        · refine .inr ⟨fun j hj => ?_, ?_⟩
          · by_cases hjn : j = n
            · subst hjn; exact fun h => e h.symm
            · exact hno' j (by omega)
          · show (if veqs (kK k) (kK (l.getD n Ct.o).key) = true then _ else _) = _
            rw [if_neg (fun h => e ((veqs_kK _ _).1 h))]
theorem ixT_get (l : List Ct) (k : K4) : (mhas (kK k) (ixT l l.length) = decide (0 ≤ findK l k)) ∧ (0 ≤ findK l k → mgetV (kK k) (ixT l l.length) (.int .i64 0) = .int .i64 (findK l k)) ∧ (¬ 0 ≤ findK l k → mgetV (kK k) (ixT l l.length) (.int .i64 0) = .int .i64 0) := by
  have hkq : ∀ j, (!(l.getD j Ct.o).keq k) = true ↔ (l.getD j Ct.o).key ≠ k := fun j => by
    rw [Bool.not_eq_true', ← Bool.not_eq_true, keq_iff]
  rcases ixT_find l k l.length (Nat.le_refl _) with ⟨i, p, hi, hk, hb, hf⟩ | ⟨hno, hf⟩
  · have h : findK l k = i := fidx_hit hi (fun j hj => (hkq j).2 (hb j hj)) (by rw [← Bool.not_eq_true]; exact fun h => (hkq i).1 h hk)
    rw [h]
    refine ⟨?_, fun _ => ?_, fun h => absurd (Int.natCast_nonneg i) h⟩
    · unfold mhas; rw [hf, decide_eq_true (Int.natCast_nonneg i)]; rfl
    · unfold mgetV; rw [hf]
  · have h : findK l k = -1 := fidx_none (i := l.length) (by omega) (Nat.le_refl _) (fun j hj => (hkq j).2 (hno j hj))
    rw [h]
    refine ⟨?_, fun h => by omega, fun _ => ?_⟩
    · unfold mhas; rw [hf]; rfl
    · unfold mgetV; rw [hf]
theorem findK_at {l : List Ct} {k : K4} (h : 0 ≤ findK l k) : findK l k < l.length ∧ (l.getD (findK l k).toNat Ct.o).key = k := by
  have hkq : ∀ j, (!(l.getD j Ct.o).keq k) = true ↔ (l.getD j Ct.o).key ≠ k := fun j => by
    rw [Bool.not_eq_true', ← Bool.not_eq_true, keq_iff]
  rcases fidx_cases l.length (fun i => !(l.getD i Ct.o).keq k) with ⟨h1, _⟩ | ⟨i, hi, h1, h2, _⟩
  · have : findK l k = -1 := h1
    omega
  · have h1 : findK l k = i := h1
    rw [h1]
    refine ⟨by omega, ?_⟩
    rw [Int.toNat_natCast]
    rw [← Bool.not_eq_true, hkq] at h2
    exact Classical.not_not.1 h2
/-! ### contacts -/
def mnZ (A : Bd) (f : Fx) (B : Bd) (g : Fx) : Mf := collS f.k f.r f.vs A.px A.py A.an g.k g.r g.vs B.px B.py B.an
def mnK (bs : List Bd) (k : K4) : Mf := mnZ (bdZ bs k.a) (fxZ bs k.a k.fa) (bdZ bs k.b) (fxZ bs k.b k.fb)
def oldC (cs : List Ct) (k : K4) : Ct := if 0 ≤ findK cs k then cs.getD (findK cs k).toNat Ct.o else Ct.o
def acC (bs : List Bd) (k : K4) : Bool := !senK bs k && (mnK bs k).ok
def wsC (o : Ct) (m : Mf) : List P6 := (m.ps.map CPt.p6).map (wsP o.ps (wsA o.x o.y m.x m.y))
def newC (bs : List Bd) (cs : List Ct) (k : K4) : Ct := ⟨k.a, k.fa, k.b, k.fb, (mnK bs k).x, (mnK bs k).y, wsC (oldC cs k) (mnK bs k)⟩
theorem newC_key (bs : List Bd) (cs : List Ct) (k : K4) : (newC bs cs k).key = k := by cases k; rfl
def updI (bs : List Bd) (cs : List Ct) (l : List K4) (i : Nat) : List Ct := (fl l (acC bs) i).map (newC bs cs)
def updL (bs : List Bd) (cs : List Ct) (l : List K4) : List Ct := (l.filter (acC bs)).map (newC bs cs)
theorem updI_all (bs : List Bd) (cs : List Ct) (l : List K4) : updI bs cs l l.length = updL bs cs l := by unfold updI updL; rw [fl_all]
theorem updI_in {bs : List Bd} {cs : List Ct} {l : List K4} {i : Nat} (h : i < l.length) (ha : acC bs (l.getD i K4.o) = true) : updI bs cs l (i + 1) = updI bs cs l i ++ [newC bs cs (l.getD i K4.o)] := by
  unfold updI; rw [fl_in (p := acC bs) K4.o h ha, List.map_append]; rfl
theorem updI_out {bs : List Bd} {cs : List Ct} {l : List K4} {i : Nat} (h : i < l.length) (ha : acC bs (l.getD i K4.o) = false) : updI bs cs l (i + 1) = updI bs cs l i := by
  unfold updI; rw [fl_out (p := acC bs) K4.o h ha]
theorem updI_len (bs : List Bd) (cs : List Ct) (l : List K4) (i : Nat) : (updI bs cs l i).length ≤ l.length := by unfold updI; rw [List.length_map]; exact fl_len _ _ _
def upd (w : Wd) : List Ct := if wval w = 0 then updL w.bs w.cs (fpR w.bs w.js) else []
theorem mn_n2 (bs : List Bd) (k : K4) : (mnK bs k).ps.length ≤ 2 := (collS_ok _ _ _ _ _ _ _ _ _ _ _ _).n2
theorem upd_no {w : Wd} {c : Ct} (h : c ∈ upd w) : hasK (ovs w) c.key = false := by
  refine hasK_false fun hm => ?_
  by_cases hv : wval w = 0
  · unfold upd at h
    rw [if_pos hv] at h
    obtain ⟨k, hk, rfl⟩ := List.mem_map.1 h
    rw [newC_key] at hm
    have h1 := (List.mem_filter.1 hk).2
    unfold ovs at hm
    rw [if_pos hv] at hm
    have h2 := (List.mem_filter.1 hm).2
    unfold acC at h1
    unfold ovS at h2
    simp only [Bool.and_eq_true, Bool.not_eq_true'] at h1 h2
    rw [h1.1] at h2
    cases h2.1
  · unfold upd at h
    rw [if_neg hv] at h
    cases h
end Go.Carom
