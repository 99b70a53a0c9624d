/-
  The plain law of strictly sorted lists: they are one where their members are. Conditions: none; no program in sight.
-/
import Derived.Test.YtfhpalfchhinlaaM24
import Derived.Test.YtfhpalfchhinlaaAl24
set_option linter.all false
namespace Go.Carom
open Go Go.AL

structure STO {α : Type} (lt : α → α → Bool) : Prop where
  irr : ∀ a, lt a a = false
  tr : ∀ a b c, lt a b = true → lt b c = true → lt a c = true
  tri : ∀ a b, lt a b = false → lt b a = false → a = b
section
variable {α : Type} {lt : α → α → Bool}
def SS (lt : α → α → Bool) (l : List α) : Prop := l.Pairwise fun a b => lt a b = true
theorem STO.asym (h : STO lt) {a b : α} (h1 : lt a b = true) (h2 : lt b a = true) : False := by
  have := h.tr a b a h1 h2; rw [h.irr] at this; cases this
theorem SS.ext (h : STO lt) : ∀ {l m : List α}, SS lt l → SS lt m → (∀ x, x ∈ l ↔ x ∈ m) → l = m
  | [], [], _, _, _ => rfl
  | [], b :: m, _, _, hm => by have := (hm b).2 (List.mem_cons_self ..); cases this
  | a :: l, [], _, _, hm => by have := (hm a).1 (List.mem_cons_self ..); cases this
  | a :: l, b :: m, h1, h2, hm => by
    obtain ⟨p1, q1⟩ := List.pairwise_cons.1 h1
    obtain ⟨p2, q2⟩ := List.pairwise_cons.1 h2
    have hab : a = b := by
      rcases List.mem_cons.1 ((hm a).1 (List.mem_cons_self ..)) with e | e
      · exact e
      · rcases List.mem_cons.1 ((hm b).2 (List.mem_cons_self ..)) with e' | e'
        · exact e'.symm
        · exact (h.asym (p1 b e') (p2 a e)).elim
    subst hab
    have : l = m := SS.ext h q1 q2 fun x => by
      constructor
      · intro hx
        rcases List.mem_cons.1 ((hm x).1 (List.mem_cons_of_mem _ hx)) with e | e
        · subst e; have := p1 x hx; rw [h.irr] at this; cases this
        · exact e
      · intro hx
        rcases List.mem_cons.1 ((hm x).2 (List.mem_cons_of_mem _ hx)) with e | e
        · subst e; have := p2 x hx; rw [h.irr] at this; cases this
        · exact e
    rw [this]
/-- x set in its place. -/
def insS (lt : α → α → Bool) (x : α) (l : List α) : List α := l.takeWhile (fun y => lt y x) ++ x :: l.dropWhile (fun y => lt y x)
theorem mem_insS {x y : α} {l : List α} : y ∈ insS lt x l ↔ y = x ∨ y ∈ l := by
  unfold insS
  have h := List.takeWhile_append_dropWhile (p := fun y => lt y x) (l := l)
  constructor
  · intro hy
    rcases List.mem_append.1 hy with hy | hy
    · exact .inr (by rw [← h]; exact List.mem_append_left _ hy)
    · rcases List.mem_cons.1 hy with hy | hy
      · exact .inl hy
      · exact .inr (by rw [← h]; exact List.mem_append_right _ hy)
  · rintro (rfl | hy)
    · exact List.mem_append_right _ (List.mem_cons_self ..)
    · rw [← h] at hy
      rcases List.mem_append.1 hy with hy | hy
      · exact List.mem_append_left _ hy
      · exact List.mem_append_right _ (List.mem_cons_of_mem _ hy)
theorem SS.insS (h : STO lt) {x : α} : ∀ {l : List α}, SS lt l → x ∉ l → SS lt (insS lt x l)
  | [], _, _ => by simp [Carom.insS, SS]
  | a :: l, h1, hx => by
    obtain ⟨p1, q1⟩ := List.pairwise_cons.1 h1
    by_cases ha : lt a x = true
    · have e : Carom.insS lt x (a :: l) = a :: Carom.insS lt x l := by unfold Carom.insS; simp [ha]
      rw [e]
      refine List.pairwise_cons.2 ⟨fun y hy => ?_, SS.insS h q1 (fun hm => hx (List.mem_cons_of_mem _ hm))⟩
      rcases mem_insS.1 hy with rfl | hy
      · exact ha
      · exact p1 y hy
    · have e : Carom.insS lt x (a :: l) = x :: a :: l := by unfold Carom.insS; simp [ha]
      rw [e]
      have hxa : lt x a = true := by
        cases hh : lt x a with
        | true => rfl
        | false => exact (hx (by rw [h.tri x a hh (by simpa using ha)]; exact List.mem_cons_self ..)).elim
      refine List.pairwise_cons.2 ⟨fun y hy => ?_, h1⟩
      rcases List.mem_cons.1 hy with rfl | hy
      · exact hxa
      · exact h.tr _ _ _ hxa (p1 y hy)
/-- .. unless it is there. -/
def insD [DecidableEq α] (lt : α → α → Bool) (x : α) (l : List α) : List α := if (l.dropWhile (fun y => lt y x)).head? = some x then l else insS lt x l
theorem insD_in [DecidableEq α] (h : STO lt) {x : α} {l : List α} (hl : SS lt l) : (l.dropWhile (fun y => lt y x)).head? = some x ↔ x ∈ l := by
  constructor
  · intro hh
    have := List.mem_of_mem_head? (by rw [hh]; exact rfl)
    exact (List.dropWhile_sublist _).subset this
  · induction l with
    | nil => intro hx; cases hx
    | cons a l ih =>
      intro hx
      obtain ⟨p1, q1⟩ := List.pairwise_cons.1 hl
      rcases List.mem_cons.1 hx with rfl | hx
      · rw [List.dropWhile_cons_of_neg (by rw [h.irr]; decide)]; rfl
      · rw [List.dropWhile_cons_of_pos (by exact p1 x hx)]
        exact ih q1 hx
theorem mem_insD [DecidableEq α] (h : STO lt) {x y : α} {l : List α} (hl : SS lt l) : y ∈ insD lt x l ↔ y = x ∨ y ∈ l := by
  unfold insD
  by_cases hx : x ∈ l
  · rw [if_pos ((insD_in h hl).2 hx)]
    constructor
    · exact .inr
    · rintro (rfl | hy)
      · exact hx
      · exact hy
  · rw [if_neg (fun hh => hx ((insD_in h hl).1 hh))]; exact mem_insS
theorem SS.insD [DecidableEq α] (h : STO lt) {x : α} {l : List α} (hl : SS lt l) : SS lt (insD lt x l) := by
  unfold Carom.insD
  by_cases hx : x ∈ l
  · rw [if_pos ((insD_in h hl).2 hx)]; exact hl
  · rw [if_neg (fun hh => hx ((insD_in h hl).1 hh))]; exact hl.insS h hx
/-- sorted, as the library does it. -/
theorem ss_mergeSort (h : STO lt) {l : List α} (hn : l.Nodup) : SS lt (l.mergeSort fun x y => !lt y x) ∧ ∀ x, x ∈ (l.mergeSort fun x y => !lt y x) ↔ x ∈ l := by
  refine ⟨?_, fun x => (List.mergeSort_perm l _).mem_iff⟩
  have h1 : (l.mergeSort fun x y => !lt y x).Pairwise fun a b => (!lt b a) = true := by
    refine List.pairwise_mergeSort ?_ ?_ l
    · intro a b c hab hbc
      simp only [Bool.not_eq_true'] at hab hbc ⊢
      cases hca : lt c a with
      | false => rfl
      | true =>
        cases hac : lt a b with
        | true => rw [h.tr c a b hca hac] at hbc; cases hbc
        | false => rw [h.tri a b hac hab] at hca; rw [hca] at hbc; cases hbc
    · intro a b
      cases hab : lt a b with
      | false => simp
      | true =>
        cases hba : lt b a with
        | false => simp
        | true => exact (h.asym hab hba).elim
  have h2 : (l.mergeSort fun x y => !lt y x).Nodup := (List.mergeSort_perm l _).nodup_iff.2 hn
  refine (h1.and h2).imp ?_
  rintro a b ⟨p, q⟩
  simp only [Bool.not_eq_true'] at p
  cases hab : lt a b with
  | true => rfl
  | false => exact (q (h.tri a b hab p)).elim
/-- neighbours that are one are told once. -/
def comp [DecidableEq α] : List α → List α
  | [] => []
  | [a] => [a]
  | a :: b :: l => if a = b then comp (b :: l) else a :: comp (b :: l)
theorem mem_comp [DecidableEq α] (x : α) : ∀ l : List α, x ∈ comp l ↔ x ∈ l
  | [] => by simp [comp]
  | [a] => by simp [comp]
  | a :: b :: l => by
    unfold comp
    split
    · rename_i hab; subst hab; rw [mem_comp x (a :: l)]; simp
    · rw [List.mem_cons, mem_comp x (b :: l), List.mem_cons (a := x) (b := a)]
theorem ss_comp [DecidableEq α] (h : STO lt) : ∀ {l : List α}, (l.Pairwise fun a b => lt b a = false) → SS lt (comp l)
  | [], _ => by simp [comp, SS]
  | [a], _ => by simp [comp, SS]
  | a :: b :: l, hl => by
    obtain ⟨p1, q1⟩ := List.pairwise_cons.1 hl
    have ih := ss_comp h q1
    unfold comp
    split
    · exact ih
    · rename_i hab
      refine List.pairwise_cons.2 ⟨fun y hy => ?_, ih⟩
      have hy' := (mem_comp y (b :: l)).1 hy
      cases hlt : lt a y with
      | true => rfl
      | false =>
        have e := h.tri a y hlt (p1 y hy')
        subst e
        have hab2 : lt b a = false := p1 b (List.mem_cons_self ..)
        have hba : lt a b = false := by
          rcases List.mem_cons.1 hy' with e | e
          · exact (hab e).elim
          · exact (List.pairwise_cons.1 q1).1 a e
        exact (hab (h.tri a b hba hab2)).elim
end
end Go.Carom
/-
  The plain law of chapter 21: entries that count, sorted. Conditions: none; no program in sight.
-/
namespace Go.Carom
open Go Go.AL

section
variable {α : Type} {lt : α → α → Bool}
structure SO {α : Type} (lt : α → α → Bool) : Prop where
  irr : ∀ a, lt a a = false
  tr : ∀ a b c, lt a b = true → lt b c = true → lt a c = true
  ntr : ∀ a b c, lt a b = false → lt b c = false → lt a c = false
theorem SO.asym (h : SO lt) {a b : α} (h1 : lt a b = true) (h2 : lt b a = true) : False := by
  have := h.tr a b a h1 h2; rw [h.irr] at this; cases this
theorem SS.ext' (h : SO lt) : ∀ {l m : List α}, SS lt l → SS lt m → (∀ x, x ∈ l ↔ x ∈ m) → l = m
  | [], [], _, _, _ => rfl
  | [], b :: m, _, _, hm => by have := (hm b).2 (List.mem_cons_self ..); cases this
  | a :: l, [], _, _, hm => by have := (hm a).1 (List.mem_cons_self ..); cases this
  | a :: l, b :: m, h1, h2, hm => by
    obtain ⟨p1, q1⟩ := List.pairwise_cons.1 h1
    obtain ⟨p2, q2⟩ := List.pairwise_cons.1 h2
    have hab : a = b := by
      rcases List.mem_cons.1 ((hm a).1 (List.mem_cons_self ..)) with e | e
      · exact e
      · rcases List.mem_cons.1 ((hm b).2 (List.mem_cons_self ..)) with e' | e'
        · exact e'.symm
        · exact (h.asym (p1 b e') (p2 a e)).elim
    subst hab
    have : l = m := SS.ext' h q1 q2 fun x => by
      constructor
      · intro hx
        rcases List.mem_cons.1 ((hm x).1 (List.mem_cons_of_mem _ hx)) with e | e
        · subst e; have := p1 x hx; rw [h.irr] at this; cases this
        · exact e
      · intro hx
        rcases List.mem_cons.1 ((hm x).2 (List.mem_cons_of_mem _ hx)) with e | e
        · subst e; have := p2 x hx; rw [h.irr] at this; cases this
        · exact e
    rw [this]
theorem SS.insS' (h : SO lt) {x : α} : ∀ {l : List α}, SS lt l → (∀ a ∈ l, lt a x = true ∨ lt x a = true) → SS lt (Carom.insS lt x l)
  | [], _, _ => by simp [Carom.insS, SS]
  | a :: l, h1, hx => by
    obtain ⟨p1, q1⟩ := List.pairwise_cons.1 h1
    by_cases ha : lt a x = true
    · have e : Carom.insS lt x (a :: l) = a :: Carom.insS lt x l := by unfold Carom.insS; simp [ha]
      rw [e]
      refine List.pairwise_cons.2 ⟨fun y hy => ?_, SS.insS' h q1 (fun b hb => hx b (List.mem_cons_of_mem _ hb))⟩
      rcases mem_insS.1 hy with rfl | hy
      · exact ha
      · exact p1 y hy
    · have e : Carom.insS lt x (a :: l) = x :: a :: l := by unfold Carom.insS; simp [ha]
      rw [e]
      have hxa : lt x a = true := by
        rcases hx a (List.mem_cons_self ..) with h2 | h2
        · exact (ha h2).elim
        · exact h2
      refine List.pairwise_cons.2 ⟨fun y hy => ?_, h1⟩
      rcases List.mem_cons.1 hy with rfl | hy
      · exact hxa
      · exact h.tr _ _ _ hxa (p1 y hy)
theorem ss_mergeSort' (h : SO lt) {l : List α} (hn : l.Nodup) (hd : ∀ a ∈ l, ∀ b ∈ l, lt a b = false → lt b a = false → a = b) : SS lt (l.mergeSort fun x y => !lt y x) ∧ ∀ x, x ∈ (l.mergeSort fun x y => !lt y x) ↔ x ∈ l := by
  have hm : ∀ x, x ∈ (l.mergeSort fun x y => !lt y x) ↔ x ∈ l := fun x => (List.mergeSort_perm l _).mem_iff
  refine ⟨?_, hm⟩
  have h1 : (l.mergeSort fun x y => !lt y x).Pairwise fun a b => (!lt b a) = true := by
    refine List.pairwise_mergeSort ?_ ?_ l
    · intro a b c hab hbc
      simp only [Bool.not_eq_true'] at hab hbc ⊢
      exact h.ntr c b a hbc hab
    · intro a b
      cases hab : lt a b with
      | false => simp
      | true =>
        cases hba : lt b a with
        | false => simp
        | true => exact (h.asym hab hba).elim
  have h2 : (l.mergeSort fun x y => !lt y x).Nodup := (List.mergeSort_perm l _).nodup_iff.2 hn
  have h3 := (h1.and h2).imp_of_mem (S := fun a b => lt a b = true) (fun {a b} ha hb hab => ?_)
  · exact h3
  · obtain ⟨p, q⟩ := hab
    simp only [Bool.not_eq_true'] at p
    cases hlt : lt a b with
    | true => rfl
    | false => exact (q (hd a ((hm a).1 ha) b ((hm b).1 hb) hlt p)).elim
end
/-- an entry whose box counts. -/
def vE (e : En) : Bool := bvalid e.x e.y e.u e.w
def newE (acc : List En) (e : En) : Bool := vE e && acc.all fun o => !decide (o.id = e.id)
def addE (acc : List En) (e : En) : List En := if newE acc e then acc ++ [e] else acc
/-- the entries that count. -/
def flt (l : List En) : List En := l.foldl addE []
def fltI (l : List En) (i : Nat) : List En := (l.take i).foldl addE []
theorem foldl_take' {α β : Type} (f : β → α → β) (d : α) (l : List α) (a : β) (i : Nat) (h : i < l.length) : (l.take (i + 1)).foldl f a = f ((l.take i).foldl f a) (l.getD i d) := by
  rw [List.take_succ_eq_append_getElem h, List.foldl_append, List.getD_eq_getElem?_getD, List.getElem?_eq_getElem h]; rfl
theorem fltI_next (l : List En) (i : Nat) (h : i < l.length) : fltI l (i + 1) = addE (fltI l i) (l.getD i En.o) := foldl_take' _ _ _ _ _ h
theorem fltI_all (l : List En) : fltI l l.length = flt l := by unfold fltI flt; rw [List.take_length]
theorem fltI_len (l : List En) (i : Nat) : (fltI l i).length ≤ i := by
  by_cases hi : i ≤ l.length
  · induction i with
    | zero => simp [fltI]
    | succ i ih =>
      rw [fltI_next l i (by omega)]
      have := ih (by omega)
      unfold addE; split
      · simp; omega
      · omega
  · unfold fltI
    have : ∀ (m acc : List En), (m.foldl addE acc).length ≤ acc.length + m.length := by
      intro m
      induction m with
      | nil => intro acc; simp
      | cons x m ih =>
        intro acc
        refine Nat.le_trans (ih _) ?_
        unfold addE; split
        · simp; omega
        · simp
    have h2 := this (l.take i) []
    rw [List.length_take] at h2
    simp at h2 ⊢
    omega
def DistE (l : List En) : Prop := l.Pairwise fun a b => a.id ≠ b.id
theorem addE_dist {acc : List En} {e : En} (h : DistE acc) : DistE (addE acc e) := by
  unfold addE; split
  · rename_i hn
    refine List.pairwise_append.2 ⟨h, List.pairwise_singleton _ _, fun a ha b hb => ?_⟩
    rw [List.mem_singleton.1 hb]
    unfold newE at hn
    simp only [Bool.and_eq_true, List.all_eq_true, Bool.not_eq_true', decide_eq_false_iff_not] at hn
    exact hn.2 a ha
  · exact h
theorem flt_dist (l : List En) : DistE (flt l) := by
  unfold flt
  have : ∀ (m acc : List En), DistE acc → DistE (m.foldl addE acc) := by
    intro m
    induction m with
    | nil => intro acc h; exact h
    | cons x m ih => intro acc h; exact ih _ (addE_dist h)
  exact this l [] List.Pairwise.nil
theorem DistE.inj {l : List En} (h : DistE l) : ∀ a ∈ l, ∀ b ∈ l, a.id = b.id → a = b := by
  induction l with
  | nil => intro a ha; cases ha
  | cons x l ih =>
    obtain ⟨p, q⟩ := List.pairwise_cons.1 h
    intro a ha b hb hab
    rcases List.mem_cons.1 ha with e1 | ha' <;> rcases List.mem_cons.1 hb with e2 | hb'
    · rw [e1, e2]
    · subst e1; exact (p b hb' hab).elim
    · subst e2; exact (p a ha' hab.symm).elim
    · exact ih q a ha' b hb' hab
theorem DistE.nodup {l : List En} (h : DistE l) : l.Nodup := h.imp (fun hne he => hne (by rw [he]))
/-- by the left side, then by the ID. -/
def enl (a b : En) : Bool := decide (a.x < b.x) || (decide (a.x = b.x) && decide (a.id < b.id))
theorem enl_iff (a b : En) : enl a b = true ↔ a.x < b.x ∨ a.x = b.x ∧ a.id < b.id := by simp [enl]
theorem enl_neg (a b : En) : enl a b = false ↔ ¬ (a.x < b.x ∨ a.x = b.x ∧ a.id < b.id) := by rw [← enl_iff, Bool.not_eq_true]
theorem enl_SO : SO enl := by
  refine ⟨fun a => ?_, fun a b c h1 h2 => ?_, fun a b c h1 h2 => ?_⟩
  · rw [enl_neg]; omega
  · rw [enl_iff] at *; omega
  · rw [enl_neg] at *; omega
theorem enl_tri {l : List En} (h : DistE l) : ∀ a ∈ l, ∀ b ∈ l, enl a b = false → enl b a = false → a = b := by
  intro a ha b hb h1 h2
  rw [enl_neg] at h1 h2
  exact h.inj a ha b hb (by omega)
/-- the entries that count, in order. -/
def sortE (l : List En) : List En := (flt l).mergeSort fun x y => !enl y x
theorem sortE_SS (l : List En) : SS enl (sortE l) ∧ ∀ x, x ∈ sortE l ↔ x ∈ flt l := ss_mergeSort' enl_SO (flt_dist l).nodup (enl_tri (flt_dist l))
/-- the reference's sorting: one after the other. -/
def insE (l : List En) : List En := l.foldl (fun acc e => insS enl e acc) []
theorem insE_SS {l : List En} (h : DistE l) : SS enl (insE l) ∧ ∀ x, x ∈ insE l ↔ x ∈ l := by
  have key : ∀ (m acc : List En), DistE (acc ++ m) → ∀ s : List En, SS enl s → (∀ x, x ∈ s ↔ x ∈ acc) → SS enl (m.foldl (fun acc e => insS enl e acc) s) ∧ ∀ x, x ∈ m.foldl (fun acc e => insS enl e acc) s ↔ x ∈ acc ++ m := by
    intro m
    induction m with
    | nil => intro acc _ s hs hm; simpa using ⟨hs, hm⟩
    | cons e m ih =>
      intro acc hd s hs hm
      have hd' : DistE (acc ++ [e] ++ m) := by simpa using hd
      obtain ⟨h1, h2⟩ := ih (acc ++ [e]) hd' (insS enl e s) (SS.insS' enl_SO hs (fun a ha => by
        have ha' := (hm a).1 ha
        have hne : a.id ≠ e.id := by
          have := (List.pairwise_append.1 hd).2.2 a ha' e (List.mem_cons_self ..)
          exact this
        rw [enl_iff, enl_iff]; omega)) (fun x => by rw [mem_insS, hm]; simp [or_comm])
      refine ⟨h1, fun x => ?_⟩
      rw [List.foldl_cons, h2]; simp
  have := key l [] (by simpa using h) [] List.Pairwise.nil (fun x => Iff.rfl)
  simpa [insE] using this
/-- both sort alike. -/
theorem sort_same (l : List En) : insE (flt l) = sortE l := by
  obtain ⟨h1, h2⟩ := insE_SS (flt_dist l)
  obtain ⟨h3, h4⟩ := sortE_SS l
  exact SS.ext' enl_SO h1 h3 (fun x => by rw [h2, h4])
end Go.Carom

/-
  Numbers compared as the library does. Conditions: none; no program in sight.
-/
namespace Go.Carom
open Go Go.AL

def cmpI (a b : Int) : Int := if a < b then -1 else if b < a then 1 else 0
def orI (a b : Int) : Int := if a = 0 then b else a
def cmpE (a b : En) : Int := orI (cmpI a.x b.x) (cmpI a.id b.id)
theorem cmpE_lt (a b : En) : decide (cmpE a b < 0) = enl a b := by
  rw [Bool.eq_iff_iff, enl_iff, decide_eq_true_eq]
  unfold cmpE orI cmpI
  split <;> split <;> (try split) <;> (try split) <;> omega
def p2l (a b : P2) : Bool := decide (a.a < b.a) || (decide (a.a = b.a) && decide (a.b < b.b))
theorem p2l_iff (a b : P2) : p2l a b = true ↔ a.a < b.a ∨ a.a = b.a ∧ a.b < b.b := by simp [p2l]
def cmpP (a b : P2) : Int := orI (cmpI a.a b.a) (cmpI a.b b.b)
theorem cmpP_lt (a b : P2) : decide (cmpP a b < 0) = p2l a b := by
  rw [Bool.eq_iff_iff, p2l_iff, decide_eq_true_eq]
  unfold cmpP orI cmpI
  split <;> split <;> (try split) <;> (try split) <;> omega
theorem p2l_STO : STO p2l := by
  refine ⟨fun a => ?_, fun a b c h1 h2 => ?_, fun a b h1 h2 => ?_⟩
  · rw [← Bool.not_eq_true, p2l_iff]; omega
  · rw [p2l_iff] at *; omega
  · rw [← Bool.not_eq_true, p2l_iff] at h1 h2
    exact P2.ext' (by omega)
end Go.Carom

/-
  The map of the IDs that were met. Conditions: none; no program in sight.
-/
namespace Go.Carom
open Go Go.AL

def idK (n : Int) : List Value := [.int .i64 n]
def idM (l : List Int) : List (List Value × Value) := l.map fun n => (idK n, .bool true)
theorem idK_eq (a b : Int) : veqs (idK a) (idK b) = decide (a = b) := by simp [idK, veqs, veq]
theorem mfind_idM (n : Int) : ∀ (l : List Int) (i : Nat), (l.any (fun m => decide (n = m)) = false → mfind (idK n) (idM l) i = none) ∧ (l.any (fun m => decide (n = m)) = true → ∃ j, mfind (idK n) (idM l) i = some (j, .bool true))
  | [], i => ⟨fun _ => rfl, fun h => by cases h⟩
  | a :: l, i => by
    obtain ⟨h1, h2⟩ := mfind_idM n l (i + 1)
    show ((a :: l).any _ = false → (if veqs (idK n) (idK a) = true then some (i, Value.bool true) else mfind (idK n) (idM l) (i + 1)) = none) ∧ ((a :: l).any _ = true → ∃ j, (if veqs (idK n) (idK a) = true then some (i, Value.bool true) else mfind (idK n) (idM l) (i + 1)) = some (j, .bool true))
    rw [idK_eq, List.any_cons]
    by_cases hna : n = a
    · rw [decide_eq_true hna]; exact ⟨fun h => by simp at h, fun _ => ⟨i, rfl⟩⟩
    · rw [decide_eq_false hna]
      simp only [Bool.false_or, Bool.false_eq_true, if_false]
      exact ⟨h1, h2⟩
theorem mget_idM (n : Int) (l : List Int) : mgetV (idK n) (idM l) (.bool false) = .bool (l.any fun m => decide (n = m)) := by
  unfold mgetV
  cases h : l.any (fun m => decide (n = m)) with
  | false => rw [(mfind_idM n l 0).1 h]
  | true => obtain ⟨j, hj⟩ := (mfind_idM n l 0).2 h; rw [hj]
theorem mset_idM (n : Int) (l : List Int) (h : l.any (fun m => decide (n = m)) = false) : mset (idK n) (.bool true) (idM l) = idM (l ++ [n]) := by
  rw [mset_none ((mfind_idM n l 0).1 h)]; simp [idM]
theorem idM_keys (l : List Int) : MKeys [some .i64] (idM l) := fun m hm => by
  obtain ⟨n, _, rfl⟩ := List.mem_map.1 hm; rfl
/-- the IDs of the entries that are kept. -/
def idsE (l : List En) : List Int := l.map En.id
theorem newE_any (acc : List En) (e : En) : newE acc e = (vE e && !((idsE acc).any fun m => decide (e.id = m))) := by
  unfold newE idsE
  congr 1
  rw [List.any_map, Bool.eq_iff_iff]
  simp only [List.all_eq_true, Bool.not_eq_true', decide_eq_false_iff_not, List.any_eq_false, Function.comp]
  constructor
  · intro h x hx; have := h x hx; simpa using fun e => this e.symm
  · intro h x hx e; have := h x hx; simp [e] at this
theorem fltI_in (l : List En) (i : Nat) (h : i < l.length) (hn : (vE (l.getD i En.o) && !((idsE (fltI l i)).any fun m => decide ((l.getD i En.o).id = m))) = true) :
    fltI l (i + 1) = fltI l i ++ [l.getD i En.o] ∧ idsE (fltI l (i + 1)) = idsE (fltI l i) ++ [(l.getD i En.o).id] := by
  have h1 : fltI l (i + 1) = fltI l i ++ [l.getD i En.o] := by rw [fltI_next l i h]; unfold addE; rw [newE_any, hn, if_pos rfl]
  exact ⟨h1, by rw [h1]; simp [idsE]⟩
theorem fltI_out (l : List En) (i : Nat) (h : i < l.length) (hn : (vE (l.getD i En.o) && !((idsE (fltI l i)).any fun m => decide ((l.getD i En.o).id = m))) = false) : fltI l (i + 1) = fltI l i := by
  rw [fltI_next l i h]; unfold addE; rw [newE_any, hn, if_neg (by decide)]
end Go.Carom

/-
  The sweep over sorted entries: the pairs it meets. Conditions: none.
-/
namespace Go.Carom
open Go.RowKit Go.AL

def ovl (a b : En) : Bool := ((decide (a.x ≤ b.u) && decide (b.x ≤ a.u)) && decide (a.y ≤ b.w)) && decide (b.y ≤ a.w)
def ovE (a b : En) : Bool := (vE a && vE b) && ovl a b
def mkP (a b : En) : P2 := ⟨if b.id < a.id then b.id else a.id, if a.id < b.id then b.id else a.id⟩
/-- the entries behind a that begin before a ends. -/
def runE (a : En) (r : List En) : List En := r.takeWhile fun b => !decide (a.u < b.x)
def prK (a : En) (r : List En) (k : Nat) : List P2 := (((runE a r).take k).filter (ovE a)).map (mkP a)
def prI (l : List En) : Nat → List P2
  | 0 => []
  | i + 1 => prI l i ++ prK (l.getD i En.o) (l.drop (i + 1)) (runE (l.getD i En.o) (l.drop (i + 1))).length
def pairsR (l : List En) : List P2 := prI l l.length
def pairsE (l : List En) : List P2 := (pairsR (sortE l)).mergeSort fun x y => !p2l y x
theorem tw_len {α : Type} (p : α → Bool) : ∀ l : List α, (l.takeWhile p).length ≤ l.length
  | [] => Nat.le_refl _
  | a :: r => by
    rw [List.takeWhile_cons]
    split
    · have := tw_len p r; simp; omega
    · simp
theorem tw_getD {α : Type} (p : α → Bool) (d : α) : ∀ (l : List α) (j : Nat), j < (l.takeWhile p).length → (l.takeWhile p).getD j d = l.getD j d ∧ p (l.getD j d) = true
  | [], j, h => by simp at h
  | a :: r, j, h => by
    rw [List.takeWhile_cons] at h ⊢
    cases hp : p a with
    | false => rw [hp] at h; simp at h
    | true =>
      rw [hp] at h
      simp only [if_true] at h ⊢
      cases j with
      | zero => exact ⟨rfl, hp⟩
      | succ j =>
        have := tw_getD p d r j (by simpa using h)
        simpa using this
theorem tw_end {α : Type} (p : α → Bool) (d : α) : ∀ (l : List α), (l.takeWhile p).length < l.length → p (l.getD (l.takeWhile p).length d) = false
  | [], h => by simp at h
  | a :: r, h => by
    rw [List.takeWhile_cons] at h ⊢
    cases hp : p a with
    | false => rw [if_neg (by decide)]; exact hp
    | true =>
      rw [hp] at h
      simp only [if_true] at h ⊢
      have := tw_end p d r (by simpa using h)
      simpa using this
theorem run_le (a : En) (r : List En) : (runE a r).length ≤ r.length := tw_len _ _
theorem rn_in {a : En} {r : List En} {j : Nat} (h : j < (runE a r).length) : decide (a.u < (r.getD j En.o).x) = false := by
  have := (tw_getD (fun b : En => !decide (a.u < b.x)) En.o r j h).2
  simpa using this
theorem run_end {a : En} {r : List En} (h : (runE a r).length < r.length) : decide (a.u < (r.getD (runE a r).length En.o).x) = true := by
  have := tw_end (fun b : En => !decide (a.u < b.x)) En.o r h
  simpa [runE] using this
theorem prK_next {a : En} {r : List En} {j : Nat} (h : j < (runE a r).length) : prK a r (j + 1) = prK a r j ++ (if ovE a (r.getD j En.o) then [mkP a (r.getD j En.o)] else []) := by
  have hg := (tw_getD (fun b : En => !decide (a.u < b.x)) En.o r j h).1
  unfold prK
  rw [take_succ_getD _ En.o h, show (runE a r).getD j En.o = r.getD j En.o from hg, List.filter_append, List.map_append]
  congr 1
  generalize r.getD j En.o = c
  by_cases ho : ovE a c = true
  · rw [if_pos ho]; simp [List.filter, ho]
  · rw [if_neg ho]; simp [List.filter, ho]
theorem prK_in {a : En} {r : List En} {j : Nat} (h : j < (runE a r).length) (ho : ovE a (r.getD j En.o) = true) : prK a r (j + 1) = prK a r j ++ [mkP a (r.getD j En.o)] := by rw [prK_next h, if_pos ho]
theorem prK_out {a : En} {r : List En} {j : Nat} (h : j < (runE a r).length) (ho : ovE a (r.getD j En.o) = false) : prK a r (j + 1) = prK a r j := by rw [prK_next h, if_neg (by rw [ho]; decide), List.append_nil]
theorem prK_zero (a : En) (r : List En) : prK a r 0 = [] := rfl
theorem prK_len (a : En) (r : List En) (k : Nat) : (prK a r k).length ≤ r.length := by
  unfold prK
  rw [List.length_map]
  refine Nat.le_trans (List.length_filter_le _ _) (Nat.le_trans ?_ (run_le a r))
  rw [List.length_take]; omega
theorem prI_next (l : List En) (i : Nat) : prI l (i + 1) = prI l i ++ prK (l.getD i En.o) (l.drop (i + 1)) (runE (l.getD i En.o) (l.drop (i + 1))).length := rfl
theorem prI_len (l : List En) : ∀ i, (prI l i).length ≤ i * l.length
  | 0 => by simp [prI]
  | i + 1 => by
    have h1 := prI_len l i
    have h2 := prK_len (l.getD i En.o) (l.drop (i + 1)) (runE (l.getD i En.o) (l.drop (i + 1))).length
    rw [prI_next, List.length_append, Nat.succ_mul]
    have h3 : (l.drop (i + 1)).length ≤ l.length := by simp
    omega
theorem prIK_len (l : List En) (i k : Nat) (hi : i ≤ l.length) (hl : l.length ≤ 1000) : (prI l i ++ prK (l.getD i En.o) (l.drop (i + 1)) k).length ≤ 1001000 := by
  have h1 := prI_len l i
  have h2 := prK_len (l.getD i En.o) (l.drop (i + 1)) k
  have h3 : (l.drop (i + 1)).length ≤ l.length := by simp
  have h4 : i * l.length ≤ 1000 * 1000 := Nat.mul_le_mul (by omega) hl
  rw [List.length_append]; omega
theorem pairsR_len (l : List En) (hl : l.length ≤ 1000) : (pairsR l).length ≤ 1000000 := by
  have h1 := prI_len l l.length
  have h4 : l.length * l.length ≤ 1000 * 1000 := Nat.mul_le_mul hl hl
  unfold pairsR; omega
theorem sortE_len (l : List En) : (sortE l).length ≤ l.length := by
  unfold sortE
  rw [List.length_mergeSort, ← fltI_all]
  exact fltI_len l _
theorem p2_tri (a b : P2) (h1 : p2l a b = false) (h2 : p2l b a = false) : a = b := by
  obtain ⟨a1, a2⟩ := a
  obtain ⟨b1, b2⟩ := b
  simp [p2l] at h1 h2
  have : a1 = b1 := by omega
  subst this
  have : a2 = b2 := by omega
  subst this
  rfl
end Go.Carom

/-
  The greatest number of entries over one place. Conditions: none.
-/
namespace Go.Carom
open Go.RowKit Go.AL

def ovx (c : En) (x : Int) : Bool := decide (c.x ≤ x) && decide (x ≤ c.u)
def cntI (L : List En) (x : Int) : Nat → Int
  | 0 => 0
  | n + 1 => if ovx (L.getD n En.o) x = true then cntI L x n + 1 else cntI L x n
theorem cntI_next (L : List En) (x : Int) (n : Nat) : cntI L x (n + 1) = if ovx (L.getD n En.o) x = true then cntI L x n + 1 else cntI L x n := rfl
theorem cntI_bd (L : List En) (x : Int) : ∀ n : Nat, 0 ≤ cntI L x n ∧ cntI L x n ≤ n
  | 0 => by simp [cntI]
  | n + 1 => by
    have := cntI_bd L x n
    rw [cntI_next]
    split <;> omega
def mxP (L : List En) : Nat → Int × Int
  | 0 => (0, 0)
  | i + 1 => if (decide ((i : Int) = 0) || decide ((mxP L i).1 < cntI L (L.getD i En.o).x L.length)) = true then (cntI L (L.getD i En.o).x L.length, (L.getD i En.o).x) else mxP L i
def mxR (L : List En) : Nat → Int × Int
  | 0 => (0, 0)
  | i + 1 => if decide ((mxR L i).1 < cntI L (L.getD i En.o).x L.length) = true then (cntI L (L.getD i En.o).x L.length, (L.getD i En.o).x) else mxR L i
theorem mxP_in {L : List En} {i : Nat} (h : (decide ((i : Int) = 0) || decide ((mxP L i).1 < cntI L (L.getD i En.o).x L.length)) = true) : mxP L (i + 1) = (cntI L (L.getD i En.o).x L.length, (L.getD i En.o).x) := if_pos h
theorem mxP_out {L : List En} {i : Nat} (h : (decide ((i : Int) = 0) || decide ((mxP L i).1 < cntI L (L.getD i En.o).x L.length)) = false) : mxP L (i + 1) = mxP L i := if_neg (by rw [h]; decide)
theorem mxR_in {L : List En} {i : Nat} (h : decide ((mxR L i).1 < cntI L (L.getD i En.o).x L.length) = true) : mxR L (i + 1) = (cntI L (L.getD i En.o).x L.length, (L.getD i En.o).x) := if_pos h
theorem mxR_out {L : List En} {i : Nat} (h : decide ((mxR L i).1 < cntI L (L.getD i En.o).x L.length) = false) : mxR L (i + 1) = mxR L i := if_neg (by rw [h]; decide)
theorem cnt_in {L : List En} {x : Int} {n : Nat} (h : ovx (L.getD n En.o) x = true) : cntI L x (n + 1) = cntI L x n + 1 := if_pos h
theorem cnt_out {L : List En} {x : Int} {n : Nat} (h : ovx (L.getD n En.o) x = false) : cntI L x (n + 1) = cntI L x n := if_neg (by rw [h]; decide)
theorem cnt_mono (L : List En) (x : Int) : ∀ m n : Nat, n ≤ m → cntI L x n ≤ cntI L x m
  | 0, n, h => by have : n = 0 := by omega
                  subst this; exact Int.le_refl _
  | m + 1, n, h => by
    by_cases hn : n = m + 1
    · subst hn; exact Int.le_refl _
    · have h1 := cnt_mono L x m n (by omega)
      have h2 := cntI_next L x m
      split at h2 <;> omega
theorem sortE_valid {l : List En} {e : En} (h : e ∈ sortE l) : vE e = true := by
  rw [(sortE_SS l).2] at h
  have key : ∀ (l acc : List En), (∀ x ∈ acc, vE x = true) → ∀ x ∈ l.foldl addE acc, vE x = true := by
    intro l
    induction l with
    | nil => intro acc ha; exact ha
    | cons a r ih =>
      intro acc ha
      refine ih _ ?_
      intro x hx
      unfold addE at hx
      split at hx
      · rename_i hn
        rcases List.mem_append.1 hx with hx | hx
        · exact ha x hx
        · rw [List.mem_singleton] at hx
          subst hx
          unfold newE at hn
          rw [Bool.and_eq_true] at hn
          exact hn.1
      · exact ha x hx
  exact key l [] (by simp) e h
theorem ovx_self {e : En} (h : vE e = true) : ovx e e.x = true := by
  unfold vE bvalid at h
  simp only [Bool.and_eq_true, decide_eq_true_eq] at h
  unfold ovx
  simp only [Bool.and_eq_true, decide_eq_true_eq]
  omega
theorem mx_same {L : List En} (h : ∀ e ∈ L, vE e = true) : ∀ i, i ≤ L.length → mxP L i = mxR L i
  | 0, _ => rfl
  | i + 1, hi => by
    have ih := mx_same h i (by omega)
    have e1 : mxP L (i + 1) = if (decide ((i : Int) = 0) || decide ((mxP L i).1 < cntI L (L.getD i En.o).x L.length)) = true then (cntI L (L.getD i En.o).x L.length, (L.getD i En.o).x) else mxP L i := rfl
    have e2 : mxR L (i + 1) = if decide ((mxR L i).1 < cntI L (L.getD i En.o).x L.length) = true then (cntI L (L.getD i En.o).x L.length, (L.getD i En.o).x) else mxR L i := rfl
    rw [e1, e2, ih]
    cases i with
    | zero =>
      have h0 : ovx (L.getD 0 En.o) (L.getD 0 En.o).x = true := ovx_self (h _ (getD_mem (by omega)))
      have h1 : cntI L (L.getD 0 En.o).x (0 + 1) = cntI L (L.getD 0 En.o).x 0 + 1 := cnt_in h0
      have h2 : cntI L (L.getD 0 En.o).x 0 = 0 := rfl
      have h3 := cnt_mono L (L.getD 0 En.o).x L.length 1 (by omega)
      have h4 : (mxR L 0).1 < cntI L (L.getD 0 En.o).x L.length := by
        show (0 : Int) < _
        rw [h2] at h1
        have h1' : cntI L (L.getD 0 En.o).x 1 = 0 + 1 := h1
        omega
      rw [if_pos (by simp), if_pos (by simpa using h4)]
    | succ i =>
      have : decide (((i + 1 : Nat) : Int) = 0) = false := decide_eq_false (by omega)
      rw [this, Bool.false_or]
theorem mx_sort (l : List En) : mxP (sortE l) (sortE l).length = mxR (sortE l) (sortE l).length := mx_same (fun _ he => sortE_valid he) _ (Nat.le_refl _)
theorem mxP_bd (L : List En) : ∀ i : Nat, 0 ≤ (mxP L i).1 ∧ (mxP L i).1 ≤ L.length
  | 0 => by simp [mxP]
  | i + 1 => by
    have ih := mxP_bd L i
    have h := cntI_bd L (L.getD i En.o).x L.length
    by_cases hc : (decide ((i : Int) = 0) || decide ((mxP L i).1 < cntI L (L.getD i En.o).x L.length)) = true
    · rw [mxP_in hc]; exact h
    · rw [mxP_out (by simpa using hc)]; exact ih
end Go.Carom

/-
  The reference's filter and its insertion. Conditions: none.
-/
namespace Go.Carom
open Go.RowKit Go.AL

/-- valid, and with another ID than the first k of those that count. -/
def nd (acc : List En) (e : En) (k : Nat) : Bool := vE e && (acc.take k).all fun o => !decide (o.id = e.id)
theorem nd_zero (acc : List En) (e : En) : nd acc e 0 = vE e := by simp [nd]
theorem nd_next {acc : List En} {e : En} {k : Nat} (h : k < acc.length) : nd acc e (k + 1) = (nd acc e k && !decide ((acc.getD k En.o).id = e.id)) := by
  unfold nd
  rw [take_succ_getD _ En.o h, List.all_append]
  simp only [List.all_cons, List.all_nil, Bool.and_true]
  rw [Bool.and_assoc]
theorem nd_all (acc : List En) (e : En) : nd acc e acc.length = newE acc e := by unfold nd newE; rw [List.take_length]
theorem fltI_yes {l : List En} {i : Nat} (h : i < l.length) (hn : newE (fltI l i) (l.getD i En.o) = true) : fltI l (i + 1) = fltI l i ++ [l.getD i En.o] := by rw [fltI_next l i h]; unfold addE; rw [if_pos hn]
theorem fltI_no {l : List En} {i : Nat} (h : i < l.length) (hn : newE (fltI l i) (l.getD i En.o) = false) : fltI l (i + 1) = fltI l i := by rw [fltI_next l i h]; unfold addE; rw [if_neg (by rw [hn]; decide)]
/-- the reference's sorted list out of the first i. -/
def insI (l : List En) (i : Nat) : List En := (l.take i).foldl (fun acc e => insS enl e acc) []
theorem insI_zero (l : List En) : insI l 0 = [] := rfl
theorem insI_next {l : List En} {i : Nat} (h : i < l.length) : insI l (i + 1) = insS enl (l.getD i En.o) (insI l i) := by
  unfold insI; exact foldl_take' _ _ _ _ _ h
theorem insI_all (l : List En) : insI l l.length = insE l := by unfold insI insE; rw [List.take_length]
theorem insS_len {α : Type} (lt : α → α → Bool) (x : α) (l : List α) : (insS lt x l).length = l.length + 1 := by
  have h := congrArg List.length (List.takeWhile_append_dropWhile (p := fun y => lt y x) (l := l))
  rw [List.length_append] at h
  unfold insS
  rw [List.length_append, List.length_cons]
  omega
theorem insI_len (l : List En) : ∀ i, i ≤ l.length → (insI l i).length = i
  | 0, _ => rfl
  | i + 1, h => by rw [insI_next (by omega), insS_len, insI_len l i (by omega)]
/-- where the new one goes. -/
def posE (e : En) (l : List En) : Nat := (l.takeWhile fun y => enl y e).length
theorem posE_le (e : En) (l : List En) : posE e l ≤ l.length := tw_len _ _
theorem posE_in {e : En} {l : List En} {k : Nat} (h : k < posE e l) : enl (l.getD k En.o) e = true := (tw_getD _ En.o l k h).2
theorem posE_end {e : En} {l : List En} (h : posE e l < l.length) : enl (l.getD (posE e l) En.o) e = false := tw_end _ En.o l h
theorem tw_take {α : Type} (p : α → Bool) : ∀ l : List α, l.takeWhile p = l.take (l.takeWhile p).length
  | [] => rfl
  | a :: r => by
    rw [List.takeWhile_cons]
    cases hp : p a with
    | false => rfl
    | true =>
      simp only [if_true, List.length_cons, List.take_succ_cons]
      rw [← tw_take p r]
theorem dw_drop {α : Type} (p : α → Bool) : ∀ l : List α, l.dropWhile p = l.drop (l.takeWhile p).length
  | [] => rfl
  | a :: r => by
    rw [List.takeWhile_cons, List.dropWhile_cons]
    cases hp : p a with
    | false => rfl
    | true =>
      simp only [if_true, List.length_cons, List.drop_succ_cons]
      exact dw_drop p r
theorem insS_pos (e : En) (l : List En) : insS enl e l = l.take (posE e l) ++ e :: l.drop (posE e l) := by
  unfold insS posE
  rw [← tw_take, ← dw_drop]
theorem enl_eq (a b : En) : enl a b = (decide (a.x < b.x) || (decide (a.x = b.x) && decide (a.id < b.id))) := rfl
theorem flt_sort (l : List En) : insI (flt l) (flt l).length = sortE l := by rw [insI_all]; exact sort_same l
end Go.Carom

/-
  The reference's lists of pairs. Conditions: none.
-/
namespace Go.Carom
open Go.RowKit Go.AL

def posP (x : P2) (l : List P2) : Nat := (l.takeWhile fun y => p2l y x).length
theorem posP_le (x : P2) (l : List P2) : posP x l ≤ l.length := tw_len _ _
theorem posP_in {x : P2} {l : List P2} {k : Nat} (h : k < posP x l) : p2l (l.getD k P2.o) x = true := (tw_getD _ P2.o l k h).2
theorem posP_end {x : P2} {l : List P2} (h : posP x l < l.length) : p2l (l.getD (posP x l) P2.o) x = false := tw_end _ P2.o l h
def eqP (a b : P2) : Bool := decide (a.a = b.a) && decide (a.b = b.b)
theorem eqP_iff {a b : P2} : eqP a b = true ↔ a = b := by
  obtain ⟨a1, a2⟩ := a
  obtain ⟨b1, b2⟩ := b
  simp [eqP]
theorem insS_posP (x : P2) (l : List P2) : insS p2l x l = l.take (posP x l) ++ x :: l.drop (posP x l) := by
  unfold insS posP
  rw [← tw_take, ← dw_drop]
theorem insP_head (x : P2) (l : List P2) : (l.dropWhile fun y => p2l y x).head? = l[posP x l]? := by
  rw [dw_drop, List.head?_drop]; rfl
theorem insP_hit {x : P2} {l : List P2} (h : posP x l < l.length) (he : eqP (l.getD (posP x l) P2.o) x = true) : insD p2l x l = l := by
  unfold insD
  rw [insP_head, List.getElem?_eq_getElem h]
  rw [eqP_iff, List.getD_eq_getElem?_getD, List.getElem?_eq_getElem h] at he
  exact if_pos (congrArg some he)
theorem insP_miss {x : P2} {l : List P2} (h : posP x l < l.length) (he : eqP (l.getD (posP x l) P2.o) x = false) : insD p2l x l = l.take (posP x l) ++ x :: l.drop (posP x l) := by
  unfold insD
  rw [insP_head, List.getElem?_eq_getElem h, if_neg, insS_posP]
  intro hs
  have hs' : l[posP x l] = x := Option.some.inj hs
  have : eqP (l.getD (posP x l) P2.o) x = true := by rw [eqP_iff, List.getD_eq_getElem?_getD, List.getElem?_eq_getElem h]; exact hs'
  rw [this] at he; cases he
theorem insP_out {x : P2} {l : List P2} (h : ¬ posP x l < l.length) : insD p2l x l = l.take (posP x l) ++ x :: l.drop (posP x l) := by
  unfold insD
  rw [insP_head, List.getElem?_eq_none (by omega), if_neg (by simp), insS_posP]
theorem insP_len (x : P2) (l : List P2) : (insD p2l x l).length ≤ l.length + 1 := by
  unfold insD
  split
  · omega
  · rw [insS_len]; exact Nat.le_refl _
/-- the pairs of l put into acc. -/
def insPs (acc l : List P2) (i : Nat) : List P2 := (l.take i).foldl (fun a x => insD p2l x a) acc
theorem insPs_zero (acc l : List P2) : insPs acc l 0 = acc := rfl
theorem insPs_next {acc l : List P2} {i : Nat} (h : i < l.length) : insPs acc l (i + 1) = insD p2l (l.getD i P2.o) (insPs acc l i) := by
  unfold insPs; exact foldl_take' _ _ _ _ _ h
theorem insPs_len (acc l : List P2) : ∀ i, i ≤ l.length → (insPs acc l i).length ≤ acc.length + i
  | 0, _ => Nat.le_refl _
  | i + 1, h => by
    rw [insPs_next (by omega)]
    have h1 := insP_len (l.getD i P2.o) (insPs acc l i)
    have h2 := insPs_len acc l i (by omega)
    omega
def merP (a b : List P2) : List P2 := insPs (insPs [] a a.length) b b.length
def hasP (l : List P2) (x : P2) : Bool := l.any fun y => eqP y x
def posH (l : List P2) (x : P2) : Nat := (l.takeWhile fun y => !eqP y x).length
theorem posH_le (l : List P2) (x : P2) : posH l x ≤ l.length := tw_len _ _
theorem posH_in {l : List P2} {x : P2} {k : Nat} (h : k < posH l x) : eqP (l.getD k P2.o) x = false := by
  have := (tw_getD (fun y => !eqP y x) P2.o l k h).2
  simpa using this
theorem posH_end {l : List P2} {x : P2} (h : posH l x < l.length) : eqP (l.getD (posH l x) P2.o) x = true := by
  have := tw_end (fun y => !eqP y x) P2.o l h
  simpa [posH] using this
theorem hasP_yes {l : List P2} {x : P2} (h : posH l x < l.length) : hasP l x = true := by
  unfold hasP
  rw [List.any_eq_true]
  exact ⟨_, getD_mem h, posH_end h⟩
theorem hasP_no {l : List P2} {x : P2} (h : ¬ posH l x < l.length) : hasP l x = false := by
  cases hh : hasP l x with
  | false => rfl
  | true =>
    unfold hasP at hh
    rw [List.any_eq_true] at hh
    obtain ⟨y, hy, he⟩ := hh
    obtain ⟨j, hj, rfl⟩ := List.mem_iff_getElem.1 hy
    have hj' : j < posH l x := by have := posH_le l x; omega
    have h2 := posH_in hj'
    rw [List.getD_eq_getElem?_getD, List.getElem?_eq_getElem hj] at h2
    have h2' : eqP l[j] x = false := h2
    rw [h2'] at he; cases he
def subI (a b : List P2) (i : Nat) : List P2 := (a.take i).foldl (fun acc x => if hasP b x then acc else insD p2l x acc) []
theorem subI_next {a b : List P2} {i : Nat} (h : i < a.length) : subI a b (i + 1) = if hasP b (a.getD i P2.o) then subI a b i else insD p2l (a.getD i P2.o) (subI a b i) := by
  unfold subI; exact foldl_take' _ _ _ _ _ h
theorem subI_in {a b : List P2} {i : Nat} (h : i < a.length) (hh : hasP b (a.getD i P2.o) = false) : subI a b (i + 1) = insD p2l (a.getD i P2.o) (subI a b i) := by rw [subI_next h, hh]; rfl
theorem subI_out {a b : List P2} {i : Nat} (h : i < a.length) (hh : hasP b (a.getD i P2.o) = true) : subI a b (i + 1) = subI a b i := by rw [subI_next h, hh]; rfl
theorem subI_len (a b : List P2) : ∀ i, i ≤ a.length → (subI a b i).length ≤ i
  | 0, _ => Nat.le_refl _
  | i + 1, h => by
    have h2 := subI_len a b i (by omega)
    cases hh : hasP b (a.getD i P2.o) with
    | true => rw [subI_out (by omega) hh]; omega
    | false =>
      rw [subI_in (by omega) hh]
      have h1 := insP_len (a.getD i P2.o) (subI a b i)
      omega
end Go.Carom

/-
  A list in which neighbours that are alike are told once, made in its own place. Conditions: none.
-/
namespace Go.Carom
open Go.RowKit Go.AL

/-- number p is the first, or differs from the one before it. -/
def newP (l : List P2) (p : Nat) : Bool := decide (p = 0) || !eqP (l.getD p P2.o) (l.getD (p - 1) P2.o)
def cpI (l : List P2) : Nat → List P2
  | 0 => []
  | p + 1 => if newP l p = true then cpI l p ++ [l.getD p P2.o] else cpI l p
theorem cpI_in {l : List P2} {p : Nat} (h : newP l p = true) : cpI l (p + 1) = cpI l p ++ [l.getD p P2.o] := if_pos h
theorem cpI_out {l : List P2} {p : Nat} (h : newP l p = false) : cpI l (p + 1) = cpI l p := if_neg (by rw [h]; decide)
theorem cpI_len (l : List P2) : ∀ p, (cpI l p).length ≤ p
  | 0 => Nat.le_refl _
  | p + 1 => by
    have := cpI_len l p
    cases h : newP l p with
    | true => rw [cpI_in h, List.length_append]; simp; omega
    | false => rw [cpI_out h]; omega
theorem cpI_lt {l : List P2} {k : Nat} (hk : newP l k = false) : ∀ p, k < p → (cpI l p).length < p
  | p + 1, hp => by
    by_cases hkp : k = p
    · subst hkp
      have := cpI_len l k
      rw [cpI_out hk]; omega
    · have ih := cpI_lt hk p (by omega)
      cases h : newP l p with
      | true => rw [cpI_in h, List.length_append]; simp; omega
      | false => rw [cpI_out h]; omega
def rowK (l : List P2) (p : Nat) : List P2 := cpI l p ++ l.drop (cpI l p).length
theorem rowK_len {l : List P2} {p : Nat} (hp : p ≤ l.length) : (rowK l p).length = l.length := by
  have := cpI_len l p
  unfold rowK
  rw [List.length_append, List.length_drop]; omega
theorem rowK_get {l : List P2} {p j : Nat} (h : (cpI l p).length ≤ j) : (rowK l p).getD j P2.o = l.getD j P2.o := by
  unfold rowK
  rw [List.getD_eq_getElem?_getD, List.getElem?_append_right h, List.getElem?_drop, List.getD_eq_getElem?_getD]
  congr 2; omega
theorem rowK_in {l : List P2} {p : Nat} (hp : p < l.length) (h : newP l p = true) : (rowK l p).set (cpI l p).length (l.getD p P2.o) = rowK l (p + 1) := by
  have hl := cpI_len l p
  unfold rowK
  rw [cpI_in h, List.set_append_right (h := Nat.le_refl _), Nat.sub_self, List.length_append]
  have hd : l.drop (cpI l p).length = l[(cpI l p).length]'(by omega) :: l.drop ((cpI l p).length + 1) := List.drop_eq_getElem_cons (by omega)
  rw [hd, List.set_cons_zero, List.append_assoc]; rfl
theorem rowK_out {l : List P2} {p : Nat} (h : newP l p = false) : rowK l (p + 1) = rowK l p := by unfold rowK; rw [cpI_out h]
theorem cpI_take {l : List P2} : ∀ i, i ≤ l.length → (∀ j, j < i → newP l j = true) → cpI l i = l.take i
  | 0, _, _ => rfl
  | i + 1, hi, h => by
    rw [cpI_in (h i (by omega)), cpI_take i (by omega) (fun j hj => h j (by omega)), take_succ_getD _ P2.o (by omega)]
theorem rowK_start {l : List P2} {k : Nat} (hk : k < l.length) (h : ∀ j, j < k → newP l j = true) (hn : newP l k = false) : rowK l (k + 1) = l ∧ (cpI l (k + 1)).length = k := by
  have h1 : cpI l (k + 1) = l.take k := by rw [cpI_out hn, cpI_take k (by omega) h]
  have h2 : (l.take k).length = k := by rw [List.length_take]; omega
  unfold rowK
  rw [h1, h2]
  exact ⟨List.take_append_drop k l, rfl⟩
theorem rowK_fin (F : P2 → AV) (l : List P2) (m : Nat) (v : AV) : (((rowK l l.length).map F).take (cpI l l.length).length ++ List.replicate m v).take (cpI l l.length).length = (cpI l l.length).map F := by
  have h : ((rowK l l.length).map F).take (cpI l l.length).length = (cpI l l.length).map F := by
    unfold rowK
    rw [List.map_append]
    exact List.take_left' (by rw [List.length_map])
  rw [h]
  exact List.take_left' (by rw [List.length_map])
/-- the first that is like the one before it. -/
def dupP (l : List P2) : Nat := ((List.range l.length).takeWhile (newP l)).length
theorem dupP_le (l : List P2) : dupP l ≤ l.length := by
  have := tw_len (newP l) (List.range l.length)
  rw [List.length_range] at this
  exact this
theorem range_atP {n j : Nat} (h : j < n) : (List.range n).getD j 0 = j := by
  rw [List.getD_eq_getElem?_getD, List.getElem?_range h]; rfl
theorem dupP_lt {l : List P2} {i : Nat} (h : i < dupP l) : newP l i = true := by
  have hi : i < l.length := Nat.lt_of_lt_of_le h (dupP_le l)
  have := (tw_getD (newP l) 0 (List.range l.length) i h).2
  rwa [range_atP hi] at this
theorem dupP_end {l : List P2} (h : dupP l < l.length) : newP l (dupP l) = false := by
  have := tw_end (newP l) 0 (List.range l.length) (by rw [List.length_range]; exact h)
  have h2 : (List.range l.length).getD (dupP l) 0 = dupP l := range_atP h
  unfold dupP at h2 ⊢
  rwa [h2] at this
theorem dupP_pos {l : List P2} (h : 0 < l.length) : 0 < dupP l := by
  rcases Nat.eq_zero_or_pos (dupP l) with h0 | h0
  · have := dupP_end (l := l) (by omega)
    rw [h0] at this; cases this
  · exact h0
theorem cpI_all {l : List P2} (h : dupP l = l.length) : cpI l l.length = l := by
  rw [cpI_take l.length (Nat.le_refl _) (fun j hj => dupP_lt (by omega)), List.take_length]
end Go.Carom

/-
  The program's lists of pairs are the reference's. Conditions: none.
-/
namespace Go.Carom
open Go.RowKit Go.AL

def srtP (l : List P2) : List P2 := l.mergeSort fun x y => !p2l y x
def mgP (a b : List P2) : List P2 := cpI (srtP (a ++ b)) (srtP (a ++ b)).length
def SD (l : List P2) : Prop := l.Pairwise fun a b => p2l b a = false
theorem srt_SD (l : List P2) : SD (srtP l) := by
  have h := List.pairwise_mergeSort (le := fun x y => !p2l y x) (fun a b c h1 h2 => by
    have n1 : ¬ p2l b a = true := by simpa using h1
    have n2 : ¬ p2l c b = true := by simpa using h2
    have : ¬ p2l c a = true := by rw [p2l_iff] at n1 n2 ⊢; omega
    simpa using this) (fun a b => by
    cases h1 : p2l b a with
    | false => rfl
    | true =>
      have : ¬ p2l a b = true := by rw [p2l_iff] at h1 ⊢; omega
      simpa using this) l
  exact h.imp fun h => by simpa using h
theorem mem_srt (l : List P2) (x : P2) : x ∈ srtP l ↔ x ∈ l := List.mem_mergeSort
theorem SD.at {l : List P2} (h : SD l) {i j : Nat} (hij : i < j) (hj : j < l.length) : p2l (l.getD j P2.o) (l.getD i P2.o) = false := by
  have hg : ∀ k (hk : k < l.length), l.getD k P2.o = l[k] := fun k hk => by rw [List.getD_eq_getElem?_getD, List.getElem?_eq_getElem hk]; rfl
  rw [hg j hj, hg i (by omega)]
  exact List.pairwise_iff_getElem.1 h i j (by omega) hj hij
theorem mem_takeP {l : List P2} {x : P2} {i : Nat} (hi : i ≤ l.length) : x ∈ l.take i ↔ ∃ j, j < i ∧ l.getD j P2.o = x := by
  constructor
  · intro h
    obtain ⟨j, hj, he⟩ := List.mem_iff_getElem.1 h
    rw [List.length_take] at hj
    refine ⟨j, by omega, ?_⟩
    rw [List.getElem_take] at he
    rw [List.getD_eq_getElem?_getD, List.getElem?_eq_getElem (by omega)]; exact he
  · rintro ⟨j, hj, rfl⟩
    rw [List.getD_eq_getElem?_getD, List.getElem?_eq_getElem (by omega)]
    exact List.mem_iff_getElem.2 ⟨j, by rw [List.length_take]; omega, by rw [List.getElem_take]; rfl⟩
theorem cpI_ss {l : List P2} (h : SD l) : ∀ i, i ≤ l.length → SS p2l (cpI l i) ∧ ∀ x, x ∈ cpI l i ↔ x ∈ l.take i
  | 0, _ => ⟨List.Pairwise.nil, fun x => by simp [cpI]⟩
  | i + 1, hi => by
    obtain ⟨ih1, ih2⟩ := cpI_ss h i (by omega)
    have htk := take_succ_getD l P2.o (show i < l.length by omega)
    cases hn : newP l i with
    | true =>
      rw [cpI_in hn, htk]
      refine ⟨List.pairwise_append.2 ⟨ih1, List.pairwise_singleton _ _, ?_⟩, fun x => by rw [List.mem_append, List.mem_append, ih2]⟩
      intro x hx y hy
      rw [List.mem_singleton] at hy
      subst hy
      rw [ih2, mem_takeP (by omega)] at hx
      obtain ⟨j, hj, rfl⟩ := hx
      have h1 := h.at hj (show i < l.length by omega)
      cases hc : p2l (l.getD j P2.o) (l.getD i P2.o) with
      | true => rfl
      | false =>
        exfalso
        have he := p2_tri _ _ h1 hc
        unfold newP at hn
        rw [decide_eq_false (by omega), Bool.false_or] at hn
        have hne : ¬ l.getD i P2.o = l.getD (i - 1) P2.o := fun hq => by rw [eqP_iff.2 hq] at hn; cases hn
        have h2 := h.at (show i - 1 < i by omega) (show i < l.length by omega)
        by_cases hji : j = i - 1
        · rw [← hji] at hne; exact hne he
        · have h3 := h.at (show j < i - 1 by omega) (show i - 1 < l.length by omega)
          rw [← he] at h3
          exact hne (p2_tri _ _ h2 h3)
    | false =>
      rw [cpI_out hn, htk]
      refine ⟨ih1, fun x => ?_⟩
      rw [List.mem_append, ih2, List.mem_singleton]
      constructor
      · exact .inl
      · rintro (hx | rfl)
        · exact hx
        · unfold newP at hn
          rw [Bool.or_eq_false_iff] at hn
          have hi0 : ¬ i = 0 := of_decide_eq_false hn.1
          have he : l.getD i P2.o = l.getD (i - 1) P2.o := eqP_iff.1 (by simpa using hn.2)
          rw [he, mem_takeP (by omega)]
          exact ⟨i - 1, by omega, rfl⟩
theorem mgP_ss (a b : List P2) : SS p2l (mgP a b) ∧ ∀ x, x ∈ mgP a b ↔ x ∈ a ∨ x ∈ b := by
  obtain ⟨h1, h2⟩ := cpI_ss (srt_SD (a ++ b)) _ (Nat.le_refl _)
  refine ⟨h1, fun x => ?_⟩
  show x ∈ cpI _ _ ↔ _
  rw [h2, List.take_length, mem_srt, List.mem_append]
theorem insPs_ss {acc : List P2} (h : SS p2l acc) (l : List P2) : ∀ i, i ≤ l.length → SS p2l (insPs acc l i) ∧ ∀ x, x ∈ insPs acc l i ↔ x ∈ acc ∨ x ∈ l.take i
  | 0, _ => ⟨h, fun x => by simp [insPs_zero]⟩
  | i + 1, hi => by
    obtain ⟨h1, h2⟩ := insPs_ss h l i (by omega)
    rw [insPs_next (by omega), take_succ_getD l P2.o (show i < l.length by omega)]
    refine ⟨h1.insD p2l_STO, fun x => ?_⟩
    rw [mem_insD p2l_STO h1, h2, List.mem_append, List.mem_singleton]
    constructor
    · rintro (h | h | h)
      · exact .inr (.inr h)
      · exact .inl h
      · exact .inr (.inl h)
    · rintro (h | h | h)
      · exact .inr (.inl h)
      · exact .inr (.inr h)
      · exact .inl h
theorem merP_ss (a b : List P2) : SS p2l (merP a b) ∧ ∀ x, x ∈ merP a b ↔ x ∈ a ∨ x ∈ b := by
  obtain ⟨h1, h2⟩ := insPs_ss (acc := []) List.Pairwise.nil a _ (Nat.le_refl _)
  obtain ⟨h3, h4⟩ := insPs_ss h1 b _ (Nat.le_refl _)
  refine ⟨h3, fun x => ?_⟩
  show x ∈ insPs _ _ _ ↔ _
  rw [h4, h2, List.take_length, List.take_length]
  simp
theorem mg_mer (a b : List P2) : mgP a b = merP a b := SS.ext p2l_STO (mgP_ss a b).1 (merP_ss a b).1 fun x => by rw [(mgP_ss a b).2, (merP_ss a b).2]
def sbP (a b : List P2) : List P2 := (mgP a []).filter fun x => !hasP b x
theorem sbP_ss (a b : List P2) : SS p2l (sbP a b) ∧ ∀ x, x ∈ sbP a b ↔ x ∈ a ∧ hasP b x = false := by
  refine ⟨List.Pairwise.sublist List.filter_sublist (mgP_ss a []).1, fun x => ?_⟩
  unfold sbP
  rw [List.mem_filter, (mgP_ss a []).2]
  simp
theorem subI_ss (a b : List P2) : ∀ i, i ≤ a.length → SS p2l (subI a b i) ∧ ∀ x, x ∈ subI a b i ↔ x ∈ a.take i ∧ hasP b x = false
  | 0, _ => ⟨List.Pairwise.nil, fun x => by simp [subI]⟩
  | i + 1, hi => by
    obtain ⟨h1, h2⟩ := subI_ss a b i (by omega)
    rw [take_succ_getD a P2.o (show i < a.length by omega)]
    cases hh : hasP b (a.getD i P2.o) with
    | true =>
      rw [subI_out (by omega) hh]
      refine ⟨h1, fun x => ?_⟩
      rw [h2, List.mem_append, List.mem_singleton]
      constructor
      · rintro ⟨h, h'⟩; exact ⟨.inl h, h'⟩
      · rintro ⟨h | rfl, h'⟩
        · exact ⟨h, h'⟩
        · rw [hh] at h'; cases h'
    | false =>
      rw [subI_in (by omega) hh]
      refine ⟨h1.insD p2l_STO, fun x => ?_⟩
      rw [mem_insD p2l_STO h1, h2, List.mem_append, List.mem_singleton]
      constructor
      · rintro (rfl | ⟨h, h'⟩)
        · exact ⟨.inr rfl, hh⟩
        · exact ⟨.inl h, h'⟩
      · rintro ⟨h | rfl, h'⟩
        · exact .inr ⟨h, h'⟩
        · exact .inl rfl
theorem sb_sub (a b : List P2) : sbP a b = subI a b a.length := SS.ext p2l_STO (sbP_ss a b).1 (subI_ss a b _ (Nat.le_refl _)).1 fun x => by rw [(sbP_ss a b).2, (subI_ss a b _ (Nat.le_refl _)).2, List.take_length]
theorem hasP_mem {l : List P2} {x : P2} : hasP l x = true ↔ x ∈ l := by
  unfold hasP
  rw [List.any_eq_true]
  constructor
  · rintro ⟨y, hy, he⟩; rw [eqP_iff] at he; rw [← he]; exact hy
  · intro h; exact ⟨x, h, eqP_iff.2 rfl⟩
theorem mg_sb (a b : List P2) : mgP (sbP a b) b = mgP a b := SS.ext p2l_STO (mgP_ss _ _).1 (mgP_ss _ _).1 fun x => by
  rw [(mgP_ss _ _).2, (mgP_ss _ _).2, (sbP_ss a b).2]
  constructor
  · rintro (⟨h, _⟩ | h)
    · exact .inl h
    · exact .inr h
  · rintro (h | h)
    · cases hh : hasP b x with
      | true => exact .inr (hasP_mem.1 hh)
      | false => exact .inl ⟨h, rfl⟩
    · exact .inr h
end Go.Carom
