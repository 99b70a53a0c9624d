/-
  The plain law of chapter 21: entries that count, sorted. Conditions: none; no program in sight.
-/
import Derived.Test.YtfhpalfchhinlaaM44
set_option linter.all false
namespace Go.Carom
open Go Go.AL

section
variable {α : Type} {lt : α → α → Bool}
structure SO {α : Type} (lt : α → α → Bool) : Prop where
  irr : ∀ a, lt a a = false
  tr : ∀ a b c, lt a b = true → lt b c = true → lt a c = true
  ntr : ∀ a b c, lt a b = false → lt b c = false → lt a c = false
theorem SO.asym (h : SO lt) {a b : α} (h1 : lt a b = true) (h2 : lt b a = true) : False := by
  have := h.tr a b a h1 h2; rw [h.irr] at this; cases this
theorem SS.ext' (h : SO lt) : ∀ {l m : List α}, SS lt l → SS lt m → (∀ x, x ∈ l ↔ x ∈ m) → l = m
  | [], [], _, _, _ => rfl
  | [], b :: m, _, _, hm => by have := (hm b).2 (List.mem_cons_self ..); cases this
  | a :: l, [], _, _, hm => by have := (hm a).1 (List.mem_cons_self ..); cases this
  | a :: l, b :: m, h1, h2, hm => by
    obtain ⟨p1, q1⟩ := List.pairwise_cons.1 h1
    obtain ⟨p2, q2⟩ := List.pairwise_cons.1 h2
    have hab : a = b := by
      rcases List.mem_cons.1 ((hm a).1 (List.mem_cons_self ..)) with e | e
      · exact e
      · rcases List.mem_cons.1 ((hm b).2 (List.mem_cons_self ..)) with e' | e'
        · exact e'.symm
        · exact (h.asym (p1 b e') (p2 a e)).elim
    subst hab
    have : l = m := SS.ext' h q1 q2 fun x => by
      constructor
      · intro hx
        rcases List.mem_cons.1 ((hm x).1 (List.mem_cons_of_mem _ hx)) with e | e
        · subst e; have := p1 x hx; rw [h.irr] at this; cases this
        · exact e
      · intro hx
        rcases List.mem_cons.1 ((hm x).2 (List.mem_cons_of_mem _ hx)) with e | e
        · subst e; have := p2 x hx; rw [h.irr] at this; cases this
        · exact e
    rw [this]
theorem SS.insS' (h : SO lt) {x : α} : ∀ {l : List α}, SS lt l → (∀ a ∈ l, lt a x = true ∨ lt x a = true) → SS lt (Carom.insS lt x l)
  | [], _, _ => by simp [Carom.insS, SS]
  | a :: l, h1, hx => by
    obtain ⟨p1, q1⟩ := List.pairwise_cons.1 h1
    by_cases ha : lt a x = true
    · have e : Carom.insS lt x (a :: l) = a :: Carom.insS lt x l := by unfold Carom.insS; simp [ha]
      rw [e]
      refine List.pairwise_cons.2 ⟨fun y hy => ?_, SS.insS' h q1 (fun b hb => hx b (List.mem_cons_of_mem _ hb))⟩
      rcases mem_insS.1 hy with rfl | hy
      · exact ha
      · exact p1 y hy
    · have e : Carom.insS lt x (a :: l) = x :: a :: l := by unfold Carom.insS; simp [ha]
      rw [e]
      have hxa : lt x a = true := by
        rcases hx a (List.mem_cons_self ..) with h2 | h2
        · exact (ha h2).elim
        · exact h2
      refine List.pairwise_cons.2 ⟨fun y hy => ?_, h1⟩
      rcases List.mem_cons.1 hy with rfl | hy
      · exact hxa
      · exact h.tr _ _ _ hxa (p1 y hy)
theorem ss_mergeSort' (h : SO lt) {l : List α} (hn : l.Nodup) (hd : ∀ a ∈ l, ∀ b ∈ l, lt a b = false → lt b a = false → a = b) : SS lt (l.mergeSort fun x y => !lt y x) ∧ ∀ x, x ∈ (l.mergeSort fun x y => !lt y x) ↔ x ∈ l := by
  have hm : ∀ x, x ∈ (l.mergeSort fun x y => !lt y x) ↔ x ∈ l := fun x => (List.mergeSort_perm l _).mem_iff
  refine ⟨?_, hm⟩
  have h1 : (l.mergeSort fun x y => !lt y x).Pairwise fun a b => (!lt b a) = true := by
    refine List.pairwise_mergeSort ?_ ?_ l
    · intro a b c hab hbc
      simp only [Bool.not_eq_true'] at hab hbc ⊢
      exact h.ntr c b a hbc hab
    · intro a b
      cases hab : lt a b with
      | false => simp
      | true =>
        cases hba : lt b a with
        | false => simp
        | true => exact (h.asym hab hba).elim
  have h2 : (l.mergeSort fun x y => !lt y x).Nodup := (List.mergeSort_perm l _).nodup_iff.2 hn
  have h3 := (h1.and h2).imp_of_mem (S := fun a b => lt a b = true) (fun {a b} ha hb hab => ?_)
  · exact h3
  · obtain ⟨p, q⟩ := hab
    simp only [Bool.not_eq_true'] at p
    cases hlt : lt a b with
    | true => rfl
    | false => exact (q (hd a ((hm a).1 ha) b ((hm b).1 hb) hlt p)).elim
end
/-- an entry whose box counts. -/
def vE (e : En) : Bool := bvalid e.x e.y e.u e.w
def newE (acc : List En) (e : En) : Bool := vE e && acc.all fun o => !decide (o.id = e.id)
def addE (acc : List En) (e : En) : List En := if newE acc e then acc ++ [e] else acc
/-- the entries that count. -/
def flt (l : List En) : List En := l.foldl addE []
def fltI (l : List En) (i : Nat) : List En := (l.take i).foldl addE []
theorem foldl_take' {α β : Type} (f : β → α → β) (d : α) (l : List α) (a : β) (i : Nat) (h : i < l.length) : (l.take (i + 1)).foldl f a = f ((l.take i).foldl f a) (l.getD i d) := by
  rw [List.take_succ_eq_append_getElem h, List.foldl_append, List.getD_eq_getElem?_getD, List.getElem?_eq_getElem h]; rfl
theorem fltI_next (l : List En) (i : Nat) (h : i < l.length) : fltI l (i + 1) = addE (fltI l i) (l.getD i En.o) := foldl_take' _ _ _ _ _ h
theorem fltI_all (l : List En) : fltI l l.length = flt l := by unfold fltI flt; rw [List.take_length]
theorem fltI_len (l : List En) (i : Nat) : (fltI l i).length ≤ i := by
  by_cases hi : i ≤ l.length
  · induction i with
    | zero => simp [fltI]
    | succ i ih =>
      rw [fltI_next l i (by omega)]
      have := ih (by omega)
      unfold addE; split
      · simp; omega
      · omega
  · unfold fltI
    have : ∀ (m acc : List En), (m.foldl addE acc).length ≤ acc.length + m.length := by
      intro m
      induction m with
      | nil => intro acc; simp
      | cons x m ih =>
        intro acc
        refine Nat.le_trans (ih _) ?_
        unfold addE; split
        · simp; omega
        · simp
    have h2 := this (l.take i) []
    rw [List.length_take] at h2
    simp at h2 ⊢
    omega
def DistE (l : List En) : Prop := l.Pairwise fun a b => a.id ≠ b.id
theorem addE_dist {acc : List En} {e : En} (h : DistE acc) : DistE (addE acc e) := by
  unfold addE; split
  · rename_i hn
    refine List.pairwise_append.2 ⟨h, List.pairwise_singleton _ _, fun a ha b hb => ?_⟩
    rw [List.mem_singleton.1 hb]
    unfold newE at hn
    simp only [Bool.and_eq_true, List.all_eq_true, Bool.not_eq_true', decide_eq_false_iff_not] at hn
    exact hn.2 a ha
  · exact h
theorem flt_dist (l : List En) : DistE (flt l) := by
  unfold flt
  have : ∀ (m acc : List En), DistE acc → DistE (m.foldl addE acc) := by
    intro m
    induction m with
    | nil => intro acc h; exact h
    | cons x m ih => intro acc h; exact ih _ (addE_dist h)
  exact this l [] List.Pairwise.nil
theorem DistE.inj {l : List En} (h : DistE l) : ∀ a ∈ l, ∀ b ∈ l, a.id = b.id → a = b := by
  induction l with
  | nil => intro a ha; cases ha
  | cons x l ih =>
    obtain ⟨p, q⟩ := List.pairwise_cons.1 h
    intro a ha b hb hab
    rcases List.mem_cons.1 ha with e1 | ha' <;> rcases List.mem_cons.1 hb with e2 | hb'
    · rw [e1, e2]
    · subst e1; exact (p b hb' hab).elim
    · subst e2; exact (p a ha' hab.symm).elim
    · exact ih q a ha' b hb' hab
theorem DistE.nodup {l : List En} (h : DistE l) : l.Nodup := h.imp (fun hne he => hne (by rw [he]))
/-- by the left side, then by the ID. -/
def enl (a b : En) : Bool := decide (a.x < b.x) || (decide (a.x = b.x) && decide (a.id < b.id))
theorem enl_iff (a b : En) : enl a b = true ↔ a.x < b.x ∨ a.x = b.x ∧ a.id < b.id := by simp [enl]
theorem enl_neg (a b : En) : enl a b = false ↔ ¬ (a.x < b.x ∨ a.x = b.x ∧ a.id < b.id) := by rw [← enl_iff, Bool.not_eq_true]
theorem enl_SO : SO enl := by
  refine ⟨fun a => ?_, fun a b c h1 h2 => ?_, fun a b c h1 h2 => ?_⟩
  · rw [enl_neg]; omega
  · rw [enl_iff] at *; omega
  · rw [enl_neg] at *; omega
theorem enl_tri {l : List En} (h : DistE l) : ∀ a ∈ l, ∀ b ∈ l, enl a b = false → enl b a = false → a = b := by
  intro a ha b hb h1 h2
  rw [enl_neg] at h1 h2
  exact h.inj a ha b hb (by omega)
/-- the entries that count, in order. -/
def sortE (l : List En) : List En := (flt l).mergeSort fun x y => !enl y x
theorem sortE_SS (l : List En) : SS enl (sortE l) ∧ ∀ x, x ∈ sortE l ↔ x ∈ flt l := ss_mergeSort' enl_SO (flt_dist l).nodup (enl_tri (flt_dist l))
/-- the reference's sorting: one after the other. -/
def insE (l : List En) : List En := l.foldl (fun acc e => insS enl e acc) []
theorem insE_SS {l : List En} (h : DistE l) : SS enl (insE l) ∧ ∀ x, x ∈ insE l ↔ x ∈ l := by
  have key : ∀ (m acc : List En), DistE (acc ++ m) → ∀ s : List En, SS enl s → (∀ x, x ∈ s ↔ x ∈ acc) → SS enl (m.foldl (fun acc e => insS enl e acc) s) ∧ ∀ x, x ∈ m.foldl (fun acc e => insS enl e acc) s ↔ x ∈ acc ++ m := by
    intro m
    induction m with
    | nil => intro acc _ s hs hm; simpa using ⟨hs, hm⟩
    | cons e m ih =>
      intro acc hd s hs hm
      have hd' : DistE (acc ++ [e] ++ m) := by simpa using hd
      obtain ⟨h1, h2⟩ := ih (acc ++ [e]) hd' (insS enl e s) (SS.insS' enl_SO hs (fun a ha => by
        have ha' := (hm a).1 ha
        have hne : a.id ≠ e.id := by
          have := (List.pairwise_append.1 hd).2.2 a ha' e (List.mem_cons_self ..)
          exact this
        rw [enl_iff, enl_iff]; omega)) (fun x => by rw [mem_insS, hm]; simp [or_comm])
      refine ⟨h1, fun x => ?_⟩
      rw [List.foldl_cons, h2]; simp
  have := key l [] (by simpa using h) [] List.Pairwise.nil (fun x => Iff.rfl)
  simpa [insE] using this
/-- both sort alike. -/
theorem sort_same (l : List En) : insE (flt l) = sortE l := by
  obtain ⟨h1, h2⟩ := insE_SS (flt_dist l)
  obtain ⟨h3, h4⟩ := sortE_SS l
  exact SS.ext' enl_SO h1 h3 (fun x => by rw [h2, h4])
end Go.Carom
