/-
  What the pairs of the sweep are, and how often each is met. Conditions: none.
-/
import Derived.Test.YtfhpalfchhinlaaM60
set_option linter.all false
namespace Go.Carom
open Go.RowKit Go.AL

theorem mem_prK {a : En} {r : List En} {k : Nat} {p : P2} (h : p ∈ prK a r k) : ∃ j, j < r.length ∧ ovE a (r.getD j En.o) = true ∧ p = mkP a (r.getD j En.o) := by
  obtain ⟨b, hb, rfl⟩ := List.mem_map.1 h
  obtain ⟨hb1, hb2⟩ := List.mem_filter.1 hb
  have hr : b ∈ r := (List.takeWhile_sublist _).subset (List.mem_of_mem_take hb1)
  obtain ⟨j, hj, rfl⟩ := mem_getD.1 hr
  exact ⟨j, hj, hb2, rfl⟩
theorem mem_prI {l : List En} {p : P2} : ∀ i, i ≤ l.length → p ∈ prI l i → ∃ a b, a < i ∧ a < b ∧ b < l.length ∧ ovE (l.getD a En.o) (l.getD b En.o) = true ∧ p = mkP (l.getD a En.o) (l.getD b En.o)
  | 0, _, h => by cases h
  | i + 1, hi, h => by
    rw [prI_next] at h
    rcases List.mem_append.1 h with h | h
    · obtain ⟨a, b, h1, h2⟩ := mem_prI i (by omega) h
      exact ⟨a, b, by omega, h2⟩
    · obtain ⟨j, hj, h1, h2⟩ := mem_prK h
      have hg : (l.drop (i + 1)).getD j En.o = l.getD (i + 1 + j) En.o := by
        rw [List.getD_eq_getElem?_getD, List.getElem?_drop, List.getD_eq_getElem?_getD]
      rw [hg] at h1 h2
      rw [List.length_drop] at hj
      exact ⟨i, i + 1 + j, by omega, by omega, by omega, h1, h2⟩
theorem mkP_ids {a b c d : En} (h : mkP a b = mkP c d) : (a.id = c.id ∧ b.id = d.id) ∨ (a.id = d.id ∧ b.id = c.id) := by
  unfold mkP at h
  injection h with h1 h2
  repeat' (split at h1)
  all_goals (repeat' (split at h2))
  all_goals omega
theorem mkP_at {l : List En} (hd : DistE l) {a b c d : Nat} (hab : a < b) (hb : b < l.length) (hcd : c < d) (hd' : d < l.length) (h : mkP (l.getD a En.o) (l.getD b En.o) = mkP (l.getD c En.o) (l.getD d En.o)) : a = c ∧ b = d := by
  rcases mkP_ids h with ⟨h1, h2⟩ | ⟨h1, h2⟩
  · exact ⟨hd.at (by omega) (by omega) h1, hd.at hb hd' h2⟩
  · have := hd.at (by omega) hd' h1
    have := hd.at hb (by omega) h2
    omega
theorem prK_nodup {a : En} {r : List En} {k : Nat} (hd : DistE r) : (prK a r k).Nodup := by
  unfold prK
  refine List.pairwise_map.2 ?_
  have hs : ((runE a r).take k).filter (ovE a) |>.Sublist r := (List.filter_sublist).trans ((List.take_sublist _ _).trans (List.takeWhile_sublist _))
  refine (List.Pairwise.sublist hs hd).imp ?_
  intro b c hne he
  rcases mkP_ids he with ⟨_, h2⟩ | ⟨h1, h2⟩
  · exact hne h2
  · exact hne (by omega)
theorem prI_nodup {l : List En} (hd : DistE l) : ∀ i, i ≤ l.length → (prI l i).Nodup
  | 0, _ => List.nodup_nil
  | i + 1, hi => by
    rw [prI_next]
    refine List.nodup_append.2 ⟨prI_nodup hd i (by omega), prK_nodup (List.Pairwise.sublist (List.drop_sublist _ _) hd), ?_⟩
    intro p hp q hq he
    subst he
    obtain ⟨a, b, h1, h2, h3, _, h4⟩ := mem_prI i (by omega) hp
    obtain ⟨j, hj, _, h5⟩ := mem_prK hq
    have hg : (l.drop (i + 1)).getD j En.o = l.getD (i + 1 + j) En.o := by
      rw [List.getD_eq_getElem?_getD, List.getElem?_drop, List.getD_eq_getElem?_getD]
    rw [hg] at h5
    rw [List.length_drop] at hj
    have := mkP_at hd h2 h3 (c := i) (d := i + 1 + j) (by omega) (by omega) (h4.symm.trans h5)
    omega
theorem sortE_dist (l : List En) : DistE (sortE l) := by
  refine List.Pairwise.imp_of_mem ?_ (sortE_SS l).1
  intro a b ha hb h he
  have := (flt_dist l).inj a ((sortE_SS l).2 a |>.1 ha) b ((sortE_SS l).2 b |>.1 hb) he
  subst this
  rw [enl_SO.irr] at h; cases h
theorem pairsE_SS (l : List En) : SS p2l (pairsE l) ∧ ∀ x, x ∈ pairsE l ↔ x ∈ pairsR (sortE l) := ss_mergeSort p2l_STO (prI_nodup (sortE_dist l) _ (Nat.le_refl _))
theorem ovE_sym (a b : En) : ovE a b = ovE b a := by
  unfold ovE ovl
  rw [Bool.and_comm (vE a)]
  congr 1
  rw [Bool.eq_iff_iff]
  simp only [Bool.and_eq_true, decide_eq_true_eq]
  constructor <;> (rintro ⟨⟨⟨h1, h2⟩, h3⟩, h4⟩; exact ⟨⟨⟨h2, h1⟩, h4⟩, h3⟩)
theorem sortE_sub {l : List En} {e : En} (h : e ∈ sortE l) : e ∈ l := by
  rw [(sortE_SS l).2] at h
  have key : ∀ (l acc : List En), ∀ x ∈ l.foldl addE acc, x ∈ acc ∨ x ∈ l := by
    intro l
    induction l with
    | nil => intro acc x hx; exact .inl hx
    | cons a r ih =>
      intro acc x hx
      rcases ih _ x hx with h | h
      · unfold addE at h
        split at h
        · rcases List.mem_append.1 h with h | h
          · exact .inl h
          · rw [List.mem_singleton] at h; exact .inr (by rw [h]; exact List.mem_cons_self)
        · exact .inl h
      · exact .inr (List.mem_cons_of_mem _ h)
  rcases key l [] e h with h | h
  · cases h
  · exact h
theorem pair_ends {l : List En} {p : P2} (h : p ∈ pairsE l) : p.a < p.b ∧ ∃ a ∈ l, ∃ b ∈ l, a.id = p.a ∧ b.id = p.b ∧ ovE a b = true := by
  rw [(pairsE_SS l).2] at h
  obtain ⟨a, b, h1, h2, h3, h4, h5⟩ := mem_prI _ (Nat.le_refl _) h
  have hne : ((sortE l).getD a En.o).id ≠ ((sortE l).getD b En.o).id := fun he => by
    have := (sortE_dist l).at (by omega) h3 he
    omega
  have ha := sortE_sub (getD_mem (d := En.o) (show a < (sortE l).length by omega))
  have hb := sortE_sub (getD_mem (d := En.o) h3)
  generalize (sortE l).getD a En.o = x at *
  generalize (sortE l).getD b En.o = y at *
  subst h5
  unfold mkP
  by_cases hlt : y.id < x.id
  · simp only [if_pos hlt, if_neg (show ¬ x.id < y.id by omega)]
    exact ⟨hlt, y, hb, x, ha, rfl, rfl, by rw [ovE_sym]; exact h4⟩
  · simp only [if_neg hlt, if_pos (show x.id < y.id by omega)]
    exact ⟨by omega, x, ha, y, hb, rfl, rfl, h4⟩
theorem pair_next {l : List En} {i : Nat} (h : i + 1 < (pairsE l).length) : (pairsE l).getD i P2.o ≠ (pairsE l).getD (i + 1) P2.o := by
  have hg : ∀ k (hk : k < (pairsE l).length), (pairsE l).getD k P2.o = (pairsE l)[k] := fun k hk => by rw [List.getD_eq_getElem?_getD, List.getElem?_eq_getElem hk]; rfl
  have := List.pairwise_iff_getElem.1 (pairsE_SS l).1 i (i + 1) (by omega) h (by omega)
  rw [hg i (by omega), hg (i + 1) h]
  intro he
  rw [he, p2l_iff] at this
  omega
def hitE (p : P2) (a b : En) : Bool := (decide (a.id = p.a) && decide (b.id = p.b)) && ovE a b
def cK (l : List En) (p : P2) (a : En) : Nat → Int
  | 0 => 0
  | k + 1 => if hitE p a (l.getD k En.o) = true then cK l p a k + 1 else cK l p a k
def cJ (l : List En) (p : P2) : Nat → Int
  | 0 => 0
  | j + 1 => cJ l p j + cK l p (l.getD j En.o) l.length
theorem cK_in {l : List En} {p : P2} {a : En} {k : Nat} (h : hitE p a (l.getD k En.o) = true) : cK l p a (k + 1) = cK l p a k + 1 := if_pos h
theorem cK_out {l : List En} {p : P2} {a : En} {k : Nat} (h : hitE p a (l.getD k En.o) = false) : cK l p a (k + 1) = cK l p a k := if_neg (by rw [h]; decide)
theorem cJ_next (l : List En) (p : P2) (j : Nat) : cJ l p (j + 1) = cJ l p j + cK l p (l.getD j En.o) l.length := rfl
theorem cK_bd (l : List En) (p : P2) (a : En) : ∀ k : Nat, 0 ≤ cK l p a k ∧ cK l p a k ≤ k
  | 0 => by simp [cK]
  | k + 1 => by
    have := cK_bd l p a k
    cases h : hitE p a (l.getD k En.o) with
    | true => rw [cK_in h]; omega
    | false => rw [cK_out h]; omega
theorem cJ_bd (l : List En) (p : P2) : ∀ j : Nat, 0 ≤ cJ l p j ∧ cJ l p j ≤ (j * l.length : Nat)
  | 0 => by simp [cJ]
  | j + 1 => by
    have h1 := cJ_bd l p j
    have h2 := cK_bd l p (l.getD j En.o) l.length
    rw [cJ_next, Nat.succ_mul]
    omega
theorem cK_zero {l : List En} {p : P2} {a : En} (h : a.id ≠ p.a) : ∀ k, cK l p a k = 0
  | 0 => rfl
  | k + 1 => by
    have hf : hitE p a (l.getD k En.o) = false := by unfold hitE; rw [decide_eq_false h]; rfl
    rw [cK_out hf, cK_zero h k]
theorem cK_one {l : List En} (hd : DistE l) {p : P2} {a : En} {k0 : Nat} (hk0 : k0 < l.length) (h : hitE p a (l.getD k0 En.o) = true) : ∀ k, k ≤ l.length → cK l p a k = if k0 < k then 1 else 0
  | 0, _ => by simp [cK]
  | k + 1, hk => by
    have ih := cK_one hd hk0 h k (by omega)
    by_cases hkk : k = k0
    · subst hkk
      rw [cK_in h, ih, if_neg (by omega), if_pos (by omega)]; rfl
    · have hf : hitE p a (l.getD k En.o) = false := by
        cases hh : hitE p a (l.getD k En.o) with
        | false => rfl
        | true =>
          unfold hitE at h hh
          simp only [Bool.and_eq_true, decide_eq_true_eq] at h hh
          exact absurd (hd.at (by omega) hk0 (hh.1.2.trans h.1.2.symm)) hkk
      rw [cK_out hf, ih]
      by_cases hlt : k0 < k
      · rw [if_pos hlt, if_pos (by omega)]
      · rw [if_neg hlt, if_neg (by omega)]
theorem cJ_one {l : List En} (hd : DistE l) {p : P2} (hp : p ∈ pairsE l) : cJ l p l.length = 1 := by
  obtain ⟨_, a, ha, b, hb, h1, h2, h3⟩ := pair_ends hp
  obtain ⟨j0, hj0, rfl⟩ := mem_getD.1 ha
  obtain ⟨k0, hk0, rfl⟩ := mem_getD.1 hb
  have hh : hitE p (l.getD j0 En.o) (l.getD k0 En.o) = true := by unfold hitE; rw [decide_eq_true h1, decide_eq_true h2, h3]; rfl
  have key : ∀ j, j ≤ l.length → cJ l p j = if j0 < j then 1 else 0 := by
    intro j
    induction j with
    | zero => intro _; simp [cJ]
    | succ j ih =>
      intro hj
      rw [cJ_next, ih (by omega)]
      by_cases hjj : j = j0
      · subst hjj
        rw [if_neg (by omega), if_pos (by omega), cK_one hd hk0 hh _ (Nat.le_refl _), if_pos hk0]; rfl
      · have hne : (l.getD j En.o).id ≠ p.a := fun he => hjj (hd.at (by omega) hj0 (he.trans h1.symm))
        rw [cK_zero hne]
        by_cases hlt : j0 < j
        · rw [if_pos hlt, if_pos (by omega)]; rfl
        · rw [if_neg hlt, if_neg (by omega)]; rfl
  rw [key _ (Nat.le_refl _), if_pos hj0]
/-- the first of the first i that has the ID of number i. -/
def eqK (l : List En) (i : Nat) : Nat := ((l.take i).takeWhile fun o => !decide (o.id = (l.getD i En.o).id)).length
/-- the first that has the ID of one before it. -/
def dupI (l : List En) : Nat := ((List.range l.length).takeWhile fun i => decide (eqK l i = i)).length
theorem take_at {l : List En} {i k : Nat} (h : k < i) : (l.take i).getD k En.o = l.getD k En.o := by
  rw [List.getD_eq_getElem?_getD, List.getElem?_take, if_pos h, List.getD_eq_getElem?_getD]
theorem eqK_le (l : List En) (i : Nat) : eqK l i ≤ i := by
  have := tw_len (fun o : En => !decide (o.id = (l.getD i En.o).id)) (l.take i)
  rw [List.length_take] at this
  unfold eqK; omega
theorem eqK_lt {l : List En} {i k : Nat} (h : k < eqK l i) : ((l.getD k En.o).id = (l.getD i En.o).id) = False := by
  have hk : k < i := Nat.lt_of_lt_of_le h (eqK_le l i)
  have := (tw_getD (fun o : En => !decide (o.id = (l.getD i En.o).id)) En.o (l.take i) k h).2
  rw [take_at hk] at this
  simpa using this
theorem eqK_end {l : List En} {i : Nat} (hi : i ≤ l.length) (h : eqK l i < i) : ((l.getD (eqK l i) En.o).id = (l.getD i En.o).id) = True := by
  have := tw_end (fun o : En => !decide (o.id = (l.getD i En.o).id)) En.o (l.take i) (by rw [List.length_take]; unfold eqK at h; omega)
  have h2 : (l.take i).getD (eqK l i) En.o = l.getD (eqK l i) En.o := take_at h
  unfold eqK at h2 ⊢
  rw [h2] at this
  simpa using this
theorem dupI_le (l : List En) : dupI l ≤ l.length := by
  have := tw_len (fun i => decide (eqK l i = i)) (List.range l.length)
  rw [List.length_range] at this
  exact this
theorem range_at {n j : Nat} (h : j < n) : (List.range n).getD j 0 = j := by
  rw [List.getD_eq_getElem?_getD, List.getElem?_range h]; rfl
theorem dupI_lt {l : List En} {i : Nat} (h : i < dupI l) : eqK l i = i := by
  have hi : i < l.length := Nat.lt_of_lt_of_le h (dupI_le l)
  have := (tw_getD (fun i => decide (eqK l i = i)) 0 (List.range l.length) i h).2
  rw [range_at hi] at this
  simpa using this
theorem dupI_end {l : List En} (h : dupI l < l.length) : eqK l (dupI l) < dupI l := by
  have := tw_end (fun i => decide (eqK l i = i)) 0 (List.range l.length) (by rw [List.length_range]; exact h)
  have h2 : (List.range l.length).getD (dupI l) 0 = dupI l := range_at h
  unfold dupI at h2
  rw [h2] at this
  have h3 := eqK_le l (dupI l)
  have h4 : ¬ eqK l (dupI l) = dupI l := of_decide_eq_false this
  omega
theorem dupI_all {l : List En} (h : dupI l = l.length) : DistE l := by
  refine distE_of fun i j hij hj he => ?_
  have h1 := dupI_lt (l := l) (i := j) (by omega)
  have h2 := eqK_lt (l := l) (i := j) (k := i) (by omega)
  rw [h2] at he
  exact he
end Go.Carom
