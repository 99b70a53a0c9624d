/-
  The plain law of strictly sorted lists: they are one where their members are. Conditions: none; no program in sight.
-/
import Derived.Test.YtfhpalfchhinlaaM24
set_option linter.all false
namespace Go.Carom
open Go Go.AL

structure STO {α : Type} (lt : α → α → Bool) : Prop where
  irr : ∀ a, lt a a = false
  tr : ∀ a b c, lt a b = true → lt b c = true → lt a c = true
  tri : ∀ a b, lt a b = false → lt b a = false → a = b
section
variable {α : Type} {lt : α → α → Bool}
def SS (lt : α → α → Bool) (l : List α) : Prop := l.Pairwise fun a b => lt a b = true
theorem STO.asym (h : STO lt) {a b : α} (h1 : lt a b = true) (h2 : lt b a = true) : False := by
  have := h.tr a b a h1 h2; rw [h.irr] at this; cases this
theorem SS.ext (h : STO lt) : ∀ {l m : List α}, SS lt l → SS lt m → (∀ x, x ∈ l ↔ x ∈ m) → l = m
  | [], [], _, _, _ => rfl
  | [], b :: m, _, _, hm => by have := (hm b).2 (List.mem_cons_self ..); cases this
  | a :: l, [], _, _, hm => by have := (hm a).1 (List.mem_cons_self ..); cases this
  | a :: l, b :: m, h1, h2, hm => by
    obtain ⟨p1, q1⟩ := List.pairwise_cons.1 h1
    obtain ⟨p2, q2⟩ := List.pairwise_cons.1 h2
    have hab : a = b := by
      rcases List.mem_cons.1 ((hm a).1 (List.mem_cons_self ..)) with e | e
      · exact e
      · rcases List.mem_cons.1 ((hm b).2 (List.mem_cons_self ..)) with e' | e'
        · exact e'.symm
        · exact (h.asym (p1 b e') (p2 a e)).elim
    subst hab
    have : l = m := SS.ext h q1 q2 fun x => by
      constructor
      · intro hx
        rcases List.mem_cons.1 ((hm x).1 (List.mem_cons_of_mem _ hx)) with e | e
        · subst e; have := p1 x hx; rw [h.irr] at this; cases this
        · exact e
      · intro hx
        rcases List.mem_cons.1 ((hm x).2 (List.mem_cons_of_mem _ hx)) with e | e
        · subst e; have := p2 x hx; rw [h.irr] at this; cases this
        · exact e
    rw [this]
/-- x set in its place. -/
def insS (lt : α → α → Bool) (x : α) (l : List α) : List α := l.takeWhile (fun y => lt y x) ++ x :: l.dropWhile (fun y => lt y x)
theorem mem_insS {x y : α} {l : List α} : y ∈ insS lt x l ↔ y = x ∨ y ∈ l := by
  unfold insS
  have h := List.takeWhile_append_dropWhile (p := fun y => lt y x) (l := l)
  constructor
  · intro hy
    rcases List.mem_append.1 hy with hy | hy
    · exact .inr (by rw [← h]; exact List.mem_append_left _ hy)
    · rcases List.mem_cons.1 hy with hy | hy
      · exact .inl hy
      · exact .inr (by rw [← h]; exact List.mem_append_right _ hy)
  · rintro (rfl | hy)
    · exact List.mem_append_right _ (List.mem_cons_self ..)
    · rw [← h] at hy
      rcases List.mem_append.1 hy with hy | hy
      · exact List.mem_append_left _ hy
      · exact List.mem_append_right _ (List.mem_cons_of_mem _ hy)
theorem SS.insS (h : STO lt) {x : α} : ∀ {l : List α}, SS lt l → x ∉ l → SS lt (insS lt x l)
  | [], _, _ => by simp [Carom.insS, SS]
  | a :: l, h1, hx => by
    obtain ⟨p1, q1⟩ := List.pairwise_cons.1 h1
    by_cases ha : lt a x = true
    · have e : Carom.insS lt x (a :: l) = a :: Carom.insS lt x l := by unfold Carom.insS; simp [ha]
      rw [e]
      refine List.pairwise_cons.2 ⟨fun y hy => ?_, SS.insS h q1 (fun hm => hx (List.mem_cons_of_mem _ hm))⟩
      rcases mem_insS.1 hy with rfl | hy
      · exact ha
      · exact p1 y hy
    · have e : Carom.insS lt x (a :: l) = x :: a :: l := by unfold Carom.insS; simp [ha]
      rw [e]
      have hxa : lt x a = true := by
        cases hh : lt x a with
        | true => rfl
        | false => exact (hx (by rw [h.tri x a hh (by simpa using ha)]; exact List.mem_cons_self ..)).elim
      refine List.pairwise_cons.2 ⟨fun y hy => ?_, h1⟩
      rcases List.mem_cons.1 hy with rfl | hy
      · exact hxa
      · exact h.tr _ _ _ hxa (p1 y hy)
/-- .. unless it is there. -/
def insD [DecidableEq α] (lt : α → α → Bool) (x : α) (l : List α) : List α := if (l.dropWhile (fun y => lt y x)).head? = some x then l else insS lt x l
theorem insD_in [DecidableEq α] (h : STO lt) {x : α} {l : List α} (hl : SS lt l) : (l.dropWhile (fun y => lt y x)).head? = some x ↔ x ∈ l := by
  constructor
  · intro hh
    have := List.mem_of_mem_head? (by rw [hh]; exact rfl)
    exact (List.dropWhile_sublist _).subset this
  · induction l with
    | nil => intro hx; cases hx
    | cons a l ih =>
      intro hx
      obtain ⟨p1, q1⟩ := List.pairwise_cons.1 hl
      rcases List.mem_cons.1 hx with rfl | hx
      · rw [List.dropWhile_cons_of_neg (by rw [h.irr]; decide)]; rfl
      · rw [List.dropWhile_cons_of_pos (by exact p1 x hx)]
        exact ih q1 hx
theorem mem_insD [DecidableEq α] (h : STO lt) {x y : α} {l : List α} (hl : SS lt l) : y ∈ insD lt x l ↔ y = x ∨ y ∈ l := by
  unfold insD
  by_cases hx : x ∈ l
  · rw [if_pos ((insD_in h hl).2 hx)]
    constructor
    · exact .inr
    · rintro (rfl | hy)
      · exact hx
      · exact hy
  · rw [if_neg (fun hh => hx ((insD_in h hl).1 hh))]; exact mem_insS
theorem SS.insD [DecidableEq α] (h : STO lt) {x : α} {l : List α} (hl : SS lt l) : SS lt (insD lt x l) := by
  unfold Carom.insD
  by_cases hx : x ∈ l
  · rw [if_pos ((insD_in h hl).2 hx)]; exact hl
  · rw [if_neg (fun hh => hx ((insD_in h hl).1 hh))]; exact hl.insS h hx
/-- sorted, as the library does it. -/
theorem ss_mergeSort (h : STO lt) {l : List α} (hn : l.Nodup) : SS lt (l.mergeSort fun x y => !lt y x) ∧ ∀ x, x ∈ (l.mergeSort fun x y => !lt y x) ↔ x ∈ l := by
  refine ⟨?_, fun x => (List.mergeSort_perm l _).mem_iff⟩
  have h1 : (l.mergeSort fun x y => !lt y x).Pairwise fun a b => (!lt b a) = true := by
    refine List.pairwise_mergeSort ?_ ?_ l
    · intro a b c hab hbc
      simp only [Bool.not_eq_true'] at hab hbc ⊢
      cases hca : lt c a with
      | false => rfl
      | true =>
        cases hac : lt a b with
        | true => rw [h.tr c a b hca hac] at hbc; cases hbc
        | false => rw [h.tri a b hac hab] at hca; rw [hca] at hbc; cases hbc
    · intro a b
      cases hab : lt a b with
      | false => simp
      | true =>
        cases hba : lt b a with
        | false => simp
        | true => exact (h.asym hab hba).elim
  have h2 : (l.mergeSort fun x y => !lt y x).Nodup := (List.mergeSort_perm l _).nodup_iff.2 hn
  refine (h1.and h2).imp ?_
  rintro a b ⟨p, q⟩
  simp only [Bool.not_eq_true'] at p
  cases hab : lt a b with
  | true => rfl
  | false => exact (q (h.tri a b hab p)).elim
/-- neighbours that are one are told once. -/
def comp [DecidableEq α] : List α → List α
  | [] => []
  | [a] => [a]
  | a :: b :: l => if a = b then comp (b :: l) else a :: comp (b :: l)
theorem mem_comp [DecidableEq α] (x : α) : ∀ l : List α, x ∈ comp l ↔ x ∈ l
  | [] => by simp [comp]
  | [a] => by simp [comp]
  | a :: b :: l => by
    unfold comp
    split
    · rename_i hab; subst hab; rw [mem_comp x (a :: l)]; simp
    · rw [List.mem_cons, mem_comp x (b :: l), List.mem_cons (a := x) (b := a)]
theorem ss_comp [DecidableEq α] (h : STO lt) : ∀ {l : List α}, (l.Pairwise fun a b => lt b a = false) → SS lt (comp l)
  | [], _ => by simp [comp, SS]
  | [a], _ => by simp [comp, SS]
  | a :: b :: l, hl => by
    obtain ⟨p1, q1⟩ := List.pairwise_cons.1 hl
    have ih := ss_comp h q1
    unfold comp
    split
    · exact ih
    · rename_i hab
      refine List.pairwise_cons.2 ⟨fun y hy => ?_, ih⟩
      have hy' := (mem_comp y (b :: l)).1 hy
      cases hlt : lt a y with
      | true => rfl
      | false =>
        have e := h.tri a y hlt (p1 y hy')
        subst e
        have hab2 : lt b a = false := p1 b (List.mem_cons_self ..)
        have hba : lt a b = false := by
          rcases List.mem_cons.1 hy' with e | e
          · exact (hab e).elim
          · exact (List.pairwise_cons.1 q1).1 a e
        exact (hab (h.tri a b hba hab2)).elim
end
end Go.Carom
