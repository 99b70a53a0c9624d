/-
  The plain law of strictly sorted lists: they are one where their members are. Conditions: none; no program in sight.
-/
import Derived.Test.YtlkngccfikeaiaaMC
import Derived.Test.YtlkngccfikeaiaaAl24
set_option linter.all false
namespace Go.Carom
open Go Go.AL
structure STO {α : Type} (lt : α → α → Bool) : Prop where
  irr : ∀ a, lt a a = false
  tr : ∀ a b c, lt a b = true → lt b c = true → lt a c = true
  tri : ∀ a b, lt a b = false → lt b a = false → a = b
section
variable {α : Type} {lt : α → α → Bool}
def SS (lt : α → α → Bool) (l : List α) : Prop := l.Pairwise fun a b => lt a b = true
theorem STO.asym (h : STO lt) {a b : α} (h1 : lt a b = true) (h2 : lt b a = true) : False := by
  have := h.tr a b a h1 h2; rw [h.irr] at this; cases this
theorem SS.ext (h : STO lt) : ∀ {l m : List α}, SS lt l → SS lt m → (∀ x, x ∈ l ↔ x ∈ m) → l = m
  | [], [], _, _, _ => rfl
  | [], b :: m, _, _, hm => by have := (hm b).2 (List.mem_cons_self ..); cases this
  | a :: l, [], _, _, hm => by have := (hm a).1 (List.mem_cons_self ..); cases this
  | a :: l, b :: m, h1, h2, hm => by
    obtain ⟨p1, q1⟩ := List.pairwise_cons.1 h1
    obtain ⟨p2, q2⟩ := List.pairwise_cons.1 h2
    have hab : a = b := by
      rcases List.mem_cons.1 ((hm a).1 (List.mem_cons_self ..)) with e | e
      · exact e
      · rcases List.mem_cons.1 ((hm b).2 (List.mem_cons_self ..)) with e' | e'
        · exact e'.symm
        · exact (h.asym (p1 b e') (p2 a e)).elim
    subst hab
    have : l = m := SS.ext h q1 q2 fun x => by
      constructor
      · intro hx
        rcases List.mem_cons.1 ((hm x).1 (List.mem_cons_of_mem _ hx)) with e | e
        · subst e; have := p1 x hx; rw [h.irr] at this; cases this
        · exact e
      · intro hx
        rcases List.mem_cons.1 ((hm x).2 (List.mem_cons_of_mem _ hx)) with e | e
        · subst e; have := p2 x hx; rw [h.irr] at this; cases this
        · exact e
    rw [this]
def insS (lt : α → α → Bool) (x : α) (l : List α) : List α := l.takeWhile (fun y => lt y x) ++ x :: l.dropWhile (fun y => lt y x)
theorem mem_insS {x y : α} {l : List α} : y ∈ insS lt x l ↔ y = x ∨ y ∈ l := by
  unfold insS
  have h := List.takeWhile_append_dropWhile (p := fun y => lt y x) (l := l)
  constructor
  · intro hy
    rcases List.mem_append.1 hy with hy | hy
    · exact .inr (by rw [← h]; exact List.mem_append_left _ hy)
    · rcases List.mem_cons.1 hy with hy | hy
      · exact .inl hy
      · exact .inr (by rw [← h]; exact List.mem_append_right _ hy)
  · rintro (rfl | hy)
    · exact List.mem_append_right _ (List.mem_cons_self ..)
    · rw [← h] at hy
      rcases List.mem_append.1 hy with hy | hy
      · exact List.mem_append_left _ hy
      · exact List.mem_append_right _ (List.mem_cons_of_mem _ hy)
theorem SS.insS (h : STO lt) {x : α} : ∀ {l : List α}, SS lt l → x ∉ l → SS lt (insS lt x l)
  | [], _, _ => by simp [Carom.insS, SS]
  | a :: l, h1, hx => by
    obtain ⟨p1, q1⟩ := List.pairwise_cons.1 h1
    by_cases ha : lt a x = true
    · have e : Carom.insS lt x (a :: l) = a :: Carom.insS lt x l := by unfold Carom.insS; simp [ha]
      rw [e]
      refine List.pairwise_cons.2 ⟨fun y hy => ?_, SS.insS h q1 (fun hm => hx (List.mem_cons_of_mem _ hm))⟩
      rcases mem_insS.1 hy with rfl | hy
      · exact ha
      · exact p1 y hy
    · have e : Carom.insS lt x (a :: l) = x :: a :: l := by unfold Carom.insS; simp [ha]
      rw [e]
      have hxa : lt x a = true := by
        cases hh : lt x a with
        | true => rfl
        | false => exact (hx (by rw [h.tri x a hh (by simpa using ha)]; exact List.mem_cons_self ..)).elim
      refine List.pairwise_cons.2 ⟨fun y hy => ?_, h1⟩
      rcases List.mem_cons.1 hy with rfl | hy
      · exact hxa
      · exact h.tr _ _ _ hxa (p1 y hy)
def insD [DecidableEq α] (lt : α → α → Bool) (x : α) (l : List α) : List α := if (l.dropWhile (fun y => lt y x)).head? = some x then l else insS lt x l
theorem insD_in [DecidableEq α] (h : STO lt) {x : α} {l : List α} (hl : SS lt l) : (l.dropWhile (fun y => lt y x)).head? = some x ↔ x ∈ l := by
  constructor
  · intro hh
    have := List.mem_of_mem_head? (by rw [hh]; exact rfl)
    exact (List.dropWhile_sublist _).subset this
  · induction l with
    | nil => intro hx; cases hx
    | cons a l ih =>
      intro hx
      obtain ⟨p1, q1⟩ := List.pairwise_cons.1 hl
      rcases List.mem_cons.1 hx with rfl | hx
      · rw [List.dropWhile_cons_of_neg (by rw [h.irr]; decide)]; rfl
      · rw [List.dropWhile_cons_of_pos (by exact p1 x hx)]
        exact ih q1 hx
theorem mem_insD [DecidableEq α] (h : STO lt) {x y : α} {l : List α} (hl : SS lt l) : y ∈ insD lt x l ↔ y = x ∨ y ∈ l := by
  unfold insD
  by_cases hx : x ∈ l
  · rw [if_pos ((insD_in h hl).2 hx)]
    constructor
    · exact .inr
    · rintro (rfl | hy)
      · exact hx
      · exact hy
  · rw [if_neg (fun hh => hx ((insD_in h hl).1 hh))]; exact mem_insS
theorem SS.insD [DecidableEq α] (h : STO lt) {x : α} {l : List α} (hl : SS lt l) : SS lt (insD lt x l) := by
  unfold Carom.insD
  by_cases hx : x ∈ l
  · rw [if_pos ((insD_in h hl).2 hx)]; exact hl
  · rw [if_neg (fun hh => hx ((insD_in h hl).1 hh))]; exact hl.insS h hx
theorem ss_mergeSort (h : STO lt) {l : List α} (hn : l.Nodup) : SS lt (l.mergeSort fun x y => !lt y x) ∧ ∀ x, x ∈ (l.mergeSort fun x y => !lt y x) ↔ x ∈ l := by
  refine ⟨?_, fun x => (List.mergeSort_perm l _).mem_iff⟩
  have h1 : (l.mergeSort fun x y => !lt y x).Pairwise fun a b => (!lt b a) = true := by
    refine List.pairwise_mergeSort ?_ ?_ l
    · intro a b c hab hbc
      simp only [Bool.not_eq_true'] at hab hbc ⊢
      cases hca : lt c a with
      | false => rfl
      | true =>
        cases hac : lt a b with
        | true => rw [h.tr c a b hca hac] at hbc; cases hbc
        | false => rw [h.tri a b hac hab] at hca; rw [hca] at hbc; cases hbc
    · intro a b
      cases hab : lt a b with
      | false => simp
      | true =>
        cases hba : lt b a with
        | false => simp
        | true => exact (h.asym hab hba).elim
  have h2 : (l.mergeSort fun x y => !lt y x).Nodup := (List.mergeSort_perm l _).nodup_iff.2 hn
  refine (h1.and h2).imp ?_
  rintro a b ⟨p, q⟩
  simp only [Bool.not_eq_true'] at p
  cases hab : lt a b with
  | true => rfl
  | false => exact (q (h.tri a b hab p)).elim
def comp [DecidableEq α] : List α → List α
  | [] => []
  | [a] => [a]
  | a :: b :: l => if a = b then comp (b :: l) else a :: comp (b :: l)
end
end Go.Carom
/-
  The plain law of chapter 21: entries that count, sorted. Conditions: none; no program in sight.
-/
namespace Go.Carom
open Go Go.AL
section
variable {α : Type} {lt : α → α → Bool}
structure SO {α : Type} (lt : α → α → Bool) : Prop where
  irr : ∀ a, lt a a = false
  tr : ∀ a b c, lt a b = true → lt b c = true → lt a c = true
  ntr : ∀ a b c, lt a b = false → lt b c = false → lt a c = false
theorem SO.asym (h : SO lt) {a b : α} (h1 : lt a b = true) (h2 : lt b a = true) : False := by
  have := h.tr a b a h1 h2; rw [h.irr] at this; cases this
theorem SS.ext' (h : SO lt) : ∀ {l m : List α}, SS lt l → SS lt m → (∀ x, x ∈ l ↔ x ∈ m) → l = m
  | [], [], _, _, _ => rfl
  | [], b :: m, _, _, hm => by have := (hm b).2 (List.mem_cons_self ..); cases this
  | a :: l, [], _, _, hm => by have := (hm a).1 (List.mem_cons_self ..); cases this
  | a :: l, b :: m, h1, h2, hm => by
    obtain ⟨p1, q1⟩ := List.pairwise_cons.1 h1
    obtain ⟨p2, q2⟩ := List.pairwise_cons.1 h2
    have hab : a = b := by
      rcases List.mem_cons.1 ((hm a).1 (List.mem_cons_self ..)) with e | e
      · exact e
      · rcases List.mem_cons.1 ((hm b).2 (List.mem_cons_self ..)) with e' | e'
        · exact e'.symm
        · exact (h.asym (p1 b e') (p2 a e)).elim
    subst hab
    have : l = m := SS.ext' h q1 q2 fun x => by
      constructor
      · intro hx
        rcases List.mem_cons.1 ((hm x).1 (List.mem_cons_of_mem _ hx)) with e | e
        · subst e; have := p1 x hx; rw [h.irr] at this; cases this
        · exact e
      · intro hx
        rcases List.mem_cons.1 ((hm x).2 (List.mem_cons_of_mem _ hx)) with e | e
        · subst e; have := p2 x hx; rw [h.irr] at this; cases this
        · exact e
    rw [this]
theorem SS.insS' (h : SO lt) {x : α} : ∀ {l : List α}, SS lt l → (∀ a ∈ l, lt a x = true ∨ lt x a = true) → SS lt (Carom.insS lt x l)
  | [], _, _ => by simp [Carom.insS, SS]
  | a :: l, h1, hx => by
    obtain ⟨p1, q1⟩ := List.pairwise_cons.1 h1
    by_cases ha : lt a x = true
    · have e : Carom.insS lt x (a :: l) = a :: Carom.insS lt x l := by unfold Carom.insS; simp [ha]
      rw [e]
      refine List.pairwise_cons.2 ⟨fun y hy => ?_, SS.insS' h q1 (fun b hb => hx b (List.mem_cons_of_mem _ hb))⟩
      rcases mem_insS.1 hy with rfl | hy
      · exact ha
      · exact p1 y hy
    · have e : Carom.insS lt x (a :: l) = x :: a :: l := by unfold Carom.insS; simp [ha]
      rw [e]
      have hxa : lt x a = true := by
        rcases hx a (List.mem_cons_self ..) with h2 | h2
        · exact (ha h2).elim
        · exact h2
      refine List.pairwise_cons.2 ⟨fun y hy => ?_, h1⟩
      rcases List.mem_cons.1 hy with rfl | hy
      · exact hxa
      · exact h.tr _ _ _ hxa (p1 y hy)
theorem ss_mergeSort' (h : SO lt) {l : List α} (hn : l.Nodup) (hd : ∀ a ∈ l, ∀ b ∈ l, lt a b = false → lt b a = false → a = b) : SS lt (l.mergeSort fun x y => !lt y x) ∧ ∀ x, x ∈ (l.mergeSort fun x y => !lt y x) ↔ x ∈ l := by
  have hm : ∀ x, x ∈ (l.mergeSort fun x y => !lt y x) ↔ x ∈ l := fun x => (List.mergeSort_perm l _).mem_iff
  refine ⟨?_, hm⟩
  have h1 : (l.mergeSort fun x y => !lt y x).Pairwise fun a b => (!lt b a) = true := by
    refine List.pairwise_mergeSort ?_ ?_ l
    · intro a b c hab hbc
      simp only [Bool.not_eq_true'] at hab hbc ⊢
      exact h.ntr c b a hbc hab
    · intro a b
      cases hab : lt a b with
      | false => simp
      | true =>
        cases hba : lt b a with
        | false => simp
        | true => exact (h.asym hab hba).elim
  have h2 : (l.mergeSort fun x y => !lt y x).Nodup := (List.mergeSort_perm l _).nodup_iff.2 hn
  have h3 := (h1.and h2).imp_of_mem (S := fun a b => lt a b = true) (fun {a b} ha hb hab => ?_)
  · exact h3
  · obtain ⟨p, q⟩ := hab
    simp only [Bool.not_eq_true'] at p
    cases hlt : lt a b with
    | true => rfl
    | false => exact (q (hd a ((hm a).1 ha) b ((hm b).1 hb) hlt p)).elim
end
def vE (e : En) : Bool := bvalid e.x e.y e.u e.w
def newE (acc : List En) (e : En) : Bool := vE e && acc.all fun o => !decide (o.id = e.id)
def addE (acc : List En) (e : En) : List En := if newE acc e then acc ++ [e] else acc
def flt (l : List En) : List En := l.foldl addE []
def fltI (l : List En) (i : Nat) : List En := (l.take i).foldl addE []
theorem foldl_take' {α β : Type} (f : β → α → β) (d : α) (l : List α) (a : β) (i : Nat) (h : i < l.length) : (l.take (i + 1)).foldl f a = f ((l.take i).foldl f a) (l.getD i d) := by
  rw [List.take_succ_eq_append_getElem h, List.foldl_append, List.getD_eq_getElem?_getD, List.getElem?_eq_getElem h]; rfl
theorem fltI_next (l : List En) (i : Nat) (h : i < l.length) : fltI l (i + 1) = addE (fltI l i) (l.getD i En.o) := foldl_take' _ _ _ _ _ h
theorem fltI_all (l : List En) : fltI l l.length = flt l := by unfold fltI flt; rw [List.take_length]
theorem fltI_len (l : List En) (i : Nat) : (fltI l i).length ≤ i := by
  by_cases hi : i ≤ l.length
  · induction i with
    | zero => simp [fltI]
    | succ i ih =>
      rw [fltI_next l i (by omega)]
      have := ih (by omega)
      unfold addE; split
      · simp; omega
      · omega
  · unfold fltI
    have : ∀ (m acc : List En), (m.foldl addE acc).length ≤ acc.length + m.length := by
      intro m
      induction m with
      | nil => intro acc; simp
      | cons x m ih =>
        intro acc
        refine Nat.le_trans (ih _) ?_
        unfold addE; split
        · simp; omega
        · simp
    have h2 := this (l.take i) []
    rw [List.length_take] at h2
    simp at h2 ⊢
    omega
def DistE (l : List En) : Prop := l.Pairwise fun a b => a.id ≠ b.id
theorem addE_dist {acc : List En} {e : En} (h : DistE acc) : DistE (addE acc e) := by
  unfold addE; split
  · rename_i hn
    refine List.pairwise_append.2 ⟨h, List.pairwise_singleton _ _, fun a ha b hb => ?_⟩
    rw [List.mem_singleton.1 hb]
    unfold newE at hn
    simp only [Bool.and_eq_true, List.all_eq_true, Bool.not_eq_true', decide_eq_false_iff_not] at hn
    exact hn.2 a ha
  · exact h
theorem flt_dist (l : List En) : DistE (flt l) := by
  unfold flt
  have : ∀ (m acc : List En), DistE acc → DistE (m.foldl addE acc) := by
    intro m
    induction m with
    | nil => intro acc h; exact h
    | cons x m ih => intro acc h; exact ih _ (addE_dist h)
  exact this l [] List.Pairwise.nil
theorem DistE.inj {l : List En} (h : DistE l) : ∀ a ∈ l, ∀ b ∈ l, a.id = b.id → a = b := by
  induction l with
  | nil => intro a ha; cases ha
  | cons x l ih =>
    obtain ⟨p, q⟩ := List.pairwise_cons.1 h
    intro a ha b hb hab
    rcases List.mem_cons.1 ha with e1 | ha' <;> rcases List.mem_cons.1 hb with e2 | hb'
    · rw [e1, e2]
    · subst e1; exact (p b hb' hab).elim
    · subst e2; exact (p a ha' hab.symm).elim
    · exact ih q a ha' b hb' hab
theorem DistE.nodup {l : List En} (h : DistE l) : l.Nodup := h.imp (fun hne he => hne (by rw [he]))
def enl (a b : En) : Bool := decide (a.x < b.x) || (decide (a.x = b.x) && decide (a.id < b.id))
theorem enl_iff (a b : En) : enl a b = true ↔ a.x < b.x ∨ a.x = b.x ∧ a.id < b.id := by simp [enl]
theorem enl_neg (a b : En) : enl a b = false ↔ ¬ (a.x < b.x ∨ a.x = b.x ∧ a.id < b.id) := by rw [← enl_iff, Bool.not_eq_true]
theorem enl_SO : SO enl := by
  refine ⟨fun a => ?_, fun a b c h1 h2 => ?_, fun a b c h1 h2 => ?_⟩
  · rw [enl_neg]; omega
  · rw [enl_iff] at *; omega
  · rw [enl_neg] at *; omega
theorem enl_tri {l : List En} (h : DistE l) : ∀ a ∈ l, ∀ b ∈ l, enl a b = false → enl b a = false → a = b := by
  intro a ha b hb h1 h2
  rw [enl_neg] at h1 h2
  exact h.inj a ha b hb (by omega)
def sortE (l : List En) : List En := (flt l).mergeSort fun x y => !enl y x
theorem sortE_SS (l : List En) : SS enl (sortE l) ∧ ∀ x, x ∈ sortE l ↔ x ∈ flt l := ss_mergeSort' enl_SO (flt_dist l).nodup (enl_tri (flt_dist l))
def insE (l : List En) : List En := l.foldl (fun acc e => insS enl e acc) []
theorem insE_SS {l : List En} (h : DistE l) : SS enl (insE l) ∧ ∀ x, x ∈ insE l ↔ x ∈ l := by
  have key : ∀ (m acc : List En), DistE (acc ++ m) → ∀ s : List En, SS enl s → (∀ x, x ∈ s ↔ x ∈ acc) → SS enl (m.foldl (fun acc e => insS enl e acc) s) ∧ ∀ x, x ∈ m.foldl (fun acc e => insS enl e acc) s ↔ x ∈ acc ++ m := by
    intro m
    induction m with
    | nil => intro acc _ s hs hm; simpa using ⟨hs, hm⟩
    | cons e m ih =>
      intro acc hd s hs hm
      have hd' : DistE (acc ++ [e] ++ m) := by simpa using hd
      obtain ⟨h1, h2⟩ := ih (acc ++ [e]) hd' (insS enl e s) (SS.insS' enl_SO hs (fun a ha => by
        have ha' := (hm a).1 ha
        have hne : a.id ≠ e.id := by
          have := (List.pairwise_append.1 hd).2.2 a ha' e (List.mem_cons_self ..)
          exact this
        rw [enl_iff, enl_iff]; omega)) (fun x => by rw [mem_insS, hm]; simp [or_comm])
      refine ⟨h1, fun x => ?_⟩
      rw [List.foldl_cons, h2]; simp
  have := key l [] (by simpa using h) [] List.Pairwise.nil (fun x => Iff.rfl)
  simpa [insE] using this
theorem sort_same (l : List En) : insE (flt l) = sortE l := by
  obtain ⟨h1, h2⟩ := insE_SS (flt_dist l)
  obtain ⟨h3, h4⟩ := sortE_SS l
  exact SS.ext' enl_SO h1 h3 (fun x => by rw [h2, h4])
end Go.Carom
/-
  Numbers compared as the library does. Conditions: none; no program in sight.
-/
namespace Go.Carom
open Go Go.AL
def cmpI (a b : Int) : Int := if a < b then -1 else if b < a then 1 else 0
def orI (a b : Int) : Int := if a = 0 then b else a
def cmpE (a b : En) : Int := orI (cmpI a.x b.x) (cmpI a.id b.id)
theorem cmpE_lt (a b : En) : decide (cmpE a b < 0) = enl a b := by
  rw [Bool.eq_iff_iff, enl_iff, decide_eq_true_eq]
  unfold cmpE orI cmpI
  split <;> split <;> (try split) <;> (try split) <;> omega
def p2l (a b : P2) : Bool := decide (a.a < b.a) || (decide (a.a = b.a) && decide (a.b < b.b))
theorem p2l_iff (a b : P2) : p2l a b = true ↔ a.a < b.a ∨ a.a = b.a ∧ a.b < b.b := by simp [p2l]
def cmpP (a b : P2) : Int := orI (cmpI a.a b.a) (cmpI a.b b.b)
theorem cmpP_lt (a b : P2) : decide (cmpP a b < 0) = p2l a b := by
  rw [Bool.eq_iff_iff, p2l_iff, decide_eq_true_eq]
  unfold cmpP orI cmpI
  split <;> split <;> (try split) <;> (try split) <;> omega
theorem p2l_STO : STO p2l := by
  refine ⟨fun a => ?_, fun a b c h1 h2 => ?_, fun a b h1 h2 => ?_⟩
  · rw [← Bool.not_eq_true, p2l_iff]; omega
  · rw [p2l_iff] at *; omega
  · rw [← Bool.not_eq_true, p2l_iff] at h1 h2
    exact P2.ext' (by omega)
end Go.Carom
/-
  The map of the IDs that were met. Conditions: none; no program in sight.
-/
namespace Go.Carom
open Go Go.AL
def idK (n : Int) : List Value := [.int .i64 n]
def idM (l : List Int) : List (List Value × Value) := l.map fun n => (idK n, .bool true)
theorem idK_eq (a b : Int) : veqs (idK a) (idK b) = decide (a = b) := by simp [idK, veqs, veq]
theorem mfind_idM (n : Int) : ∀ (l : List Int) (i : Nat), (l.any (fun m => decide (n = m)) = false → mfind (idK n) (idM l) i = none) ∧ (l.any (fun m => decide (n = m)) = true → ∃ j, mfind (idK n) (idM l) i = some (j, .bool true))
  | [], i => ⟨fun _ => rfl, fun h => by cases h⟩
  | a :: l, i => by
    obtain ⟨h1, h2⟩ := mfind_idM n l (i + 1)
    show ((a :: l).any _ = false → (if veqs (idK n) (idK a) = true then some (i, Value.bool true) else mfind (idK n) (idM l) (i + 1)) = none) ∧ ((a :: l).any _ = true → ∃ j, (if veqs (idK n) (idK a) = true then some (i, Value.bool true) else mfind (idK n) (idM l) (i + 1)) = some (j, .bool true))
    rw [idK_eq, List.any_cons]
    by_cases hna : n = a
    · rw [decide_eq_true hna]; exact ⟨fun h => by simp at h, fun _ => ⟨i, rfl⟩⟩
    · rw [decide_eq_false hna]
      simp only [Bool.false_or, Bool.false_eq_true, if_false]
      exact ⟨h1, h2⟩
theorem mget_idM (n : Int) (l : List Int) : mgetV (idK n) (idM l) (.bool false) = .bool (l.any fun m => decide (n = m)) := by
  unfold mgetV
  cases h : l.any (fun m => decide (n = m)) with
  | false => rw [(mfind_idM n l 0).1 h]
  | true => obtain ⟨j, hj⟩ := (mfind_idM n l 0).2 h; rw [hj]
theorem mset_idM (n : Int) (l : List Int) (h : l.any (fun m => decide (n = m)) = false) : mset (idK n) (.bool true) (idM l) = idM (l ++ [n]) := by
  rw [mset_none ((mfind_idM n l 0).1 h)]; simp [idM]
theorem idM_keys (l : List Int) : MKeys [some .i64] (idM l) := fun m hm => by
  obtain ⟨n, _, rfl⟩ := List.mem_map.1 hm; rfl
def idsE (l : List En) : List Int := l.map En.id
theorem newE_any (acc : List En) (e : En) : newE acc e = (vE e && !((idsE acc).any fun m => decide (e.id = m))) := by
  unfold newE idsE
  congr 1
  rw [List.any_map, Bool.eq_iff_iff]
  simp only [List.all_eq_true, Bool.not_eq_true', decide_eq_false_iff_not, List.any_eq_false, Function.comp]
  constructor
  · intro h x hx; have := h x hx; simpa using fun e => this e.symm
  · intro h x hx e; have := h x hx; simp [e] at this
theorem fltI_in (l : List En) (i : Nat) (h : i < l.length) (hn : (vE (l.getD i En.o) && !((idsE (fltI l i)).any fun m => decide ((l.getD i En.o).id = m))) = true) :
    fltI l (i + 1) = fltI l i ++ [l.getD i En.o] ∧ idsE (fltI l (i + 1)) = idsE (fltI l i) ++ [(l.getD i En.o).id] := by
  have h1 : fltI l (i + 1) = fltI l i ++ [l.getD i En.o] := by rw [fltI_next l i h]; unfold addE; rw [newE_any, hn, if_pos rfl]
  exact ⟨h1, by rw [h1]; simp [idsE]⟩
theorem fltI_out (l : List En) (i : Nat) (h : i < l.length) (hn : (vE (l.getD i En.o) && !((idsE (fltI l i)).any fun m => decide ((l.getD i En.o).id = m))) = false) : fltI l (i + 1) = fltI l i := by
  rw [fltI_next l i h]; unfold addE; rw [newE_any, hn, if_neg (by decide)]
end Go.Carom
/-
  The sweep over sorted entries: the pairs it meets. Conditions: none.
-/
namespace Go.Carom
open Go.RowKit Go.AL
def ovl (a b : En) : Bool := ((decide (a.x ≤ b.u) && decide (b.x ≤ a.u)) && decide (a.y ≤ b.w)) && decide (b.y ≤ a.w)
def ovE (a b : En) : Bool := (vE a && vE b) && ovl a b
def mkP (a b : En) : P2 := ⟨if b.id < a.id then b.id else a.id, if a.id < b.id then b.id else a.id⟩
def runE (a : En) (r : List En) : List En := r.takeWhile fun b => !decide (a.u < b.x)
def prK (a : En) (r : List En) (k : Nat) : List P2 := (((runE a r).take k).filter (ovE a)).map (mkP a)
def prI (l : List En) : Nat → List P2
  | 0 => []
  | i + 1 => prI l i ++ prK (l.getD i En.o) (l.drop (i + 1)) (runE (l.getD i En.o) (l.drop (i + 1))).length
def pairsR (l : List En) : List P2 := prI l l.length
def pairsE (l : List En) : List P2 := (pairsR (sortE l)).mergeSort fun x y => !p2l y x
theorem tw_len {α : Type} (p : α → Bool) : ∀ l : List α, (l.takeWhile p).length ≤ l.length
  | [] => Nat.le_refl _
  | a :: r => by
    rw [List.takeWhile_cons]
    split
    · have := tw_len p r; simp; omega
    · simp
theorem tw_getD {α : Type} (p : α → Bool) (d : α) : ∀ (l : List α) (j : Nat), j < (l.takeWhile p).length → (l.takeWhile p).getD j d = l.getD j d ∧ p (l.getD j d) = true
  | [], j, h => by simp at h
  | a :: r, j, h => by
    rw [List.takeWhile_cons] at h ⊢
    cases hp : p a with
    | false => rw [hp] at h; simp at h
    | true =>
      rw [hp] at h
      simp only [if_true] at h ⊢
      cases j with
      | zero => exact ⟨rfl, hp⟩
      | succ j =>
        have := tw_getD p d r j (by simpa using h)
        simpa using this
theorem tw_end {α : Type} (p : α → Bool) (d : α) : ∀ (l : List α), (l.takeWhile p).length < l.length → p (l.getD (l.takeWhile p).length d) = false
  | [], h => by simp at h
  | a :: r, h => by
    rw [List.takeWhile_cons] at h ⊢
    cases hp : p a with
    | false => rw [if_neg (by decide)]; exact hp
    | true =>
      rw [hp] at h
      simp only [if_true] at h ⊢
      have := tw_end p d r (by simpa using h)
      simpa using this
theorem run_le (a : En) (r : List En) : (runE a r).length ≤ r.length := tw_len _ _
theorem rn_in {a : En} {r : List En} {j : Nat} (h : j < (runE a r).length) : decide (a.u < (r.getD j En.o).x) = false := by
  have := (tw_getD (fun b : En => !decide (a.u < b.x)) En.o r j h).2
  simpa using this
theorem run_end {a : En} {r : List En} (h : (runE a r).length < r.length) : decide (a.u < (r.getD (runE a r).length En.o).x) = true := by
  have := tw_end (fun b : En => !decide (a.u < b.x)) En.o r h
  simpa [runE] using this
theorem prK_next {a : En} {r : List En} {j : Nat} (h : j < (runE a r).length) : prK a r (j + 1) = prK a r j ++ (if ovE a (r.getD j En.o) then [mkP a (r.getD j En.o)] else []) := by
  have hg := (tw_getD (fun b : En => !decide (a.u < b.x)) En.o r j h).1
  unfold prK
  rw [take_succ_getD _ En.o h, show (runE a r).getD j En.o = r.getD j En.o from hg, List.filter_append, List.map_append]
  congr 1
  generalize r.getD j En.o = c
  by_cases ho : ovE a c = true
  · rw [if_pos ho]; simp [List.filter, ho]
  · rw [if_neg ho]; simp [List.filter, ho]
theorem prK_in {a : En} {r : List En} {j : Nat} (h : j < (runE a r).length) (ho : ovE a (r.getD j En.o) = true) : prK a r (j + 1) = prK a r j ++ [mkP a (r.getD j En.o)] := by rw [prK_next h, if_pos ho]
theorem prK_out {a : En} {r : List En} {j : Nat} (h : j < (runE a r).length) (ho : ovE a (r.getD j En.o) = false) : prK a r (j + 1) = prK a r j := by rw [prK_next h, if_neg (by rw [ho]; decide), List.append_nil]
theorem prK_len (a : En) (r : List En) (k : Nat) : (prK a r k).length ≤ r.length := by
  unfold prK
  rw [List.length_map]
  refine Nat.le_trans (List.length_filter_le _ _) (Nat.le_trans ?_ (run_le a r))
  rw [List.length_take]; omega
theorem prI_next (l : List En) (i : Nat) : prI l (i + 1) = prI l i ++ prK (l.getD i En.o) (l.drop (i + 1)) (runE (l.getD i En.o) (l.drop (i + 1))).length := rfl
theorem prI_len (l : List En) : ∀ i, (prI l i).length ≤ i * l.length
  | 0 => by simp [prI]
  | i + 1 => by
    have h1 := prI_len l i
    have h2 := prK_len (l.getD i En.o) (l.drop (i + 1)) (runE (l.getD i En.o) (l.drop (i + 1))).length
    rw [prI_next, List.length_append, Nat.succ_mul]
    have h3 : (l.drop (i + 1)).length ≤ l.length := by simp
    omega
theorem prIK_len (l : List En) (i k : Nat) (hi : i ≤ l.length) (hl : l.length ≤ 1000) : (prI l i ++ prK (l.getD i En.o) (l.drop (i + 1)) k).length ≤ 1001000 := by
  have h1 := prI_len l i
  have h2 := prK_len (l.getD i En.o) (l.drop (i + 1)) k
  have h3 : (l.drop (i + 1)).length ≤ l.length := by simp
  have h4 : i * l.length ≤ 1000 * 1000 := Nat.mul_le_mul (by omega) hl
  rw [List.length_append]; omega
theorem pairsR_len (l : List En) (hl : l.length ≤ 1000) : (pairsR l).length ≤ 1000000 := by
  have h1 := prI_len l l.length
  have h4 : l.length * l.length ≤ 1000 * 1000 := Nat.mul_le_mul hl hl
  unfold pairsR; omega
theorem sortE_len (l : List En) : (sortE l).length ≤ l.length := by
  unfold sortE
  rw [List.length_mergeSort, ← fltI_all]
  exact fltI_len l _
theorem p2_tri (a b : P2) (h1 : p2l a b = false) (h2 : p2l b a = false) : a = b := by
  obtain ⟨a1, a2⟩ := a
  obtain ⟨b1, b2⟩ := b
  simp [p2l] at h1 h2
  have : a1 = b1 := by omega
  subst this
  have : a2 = b2 := by omega
  subst this
  rfl
end Go.Carom
/-
  The greatest number of entries over one place. Conditions: none.
-/
namespace Go.Carom
open Go.RowKit Go.AL
def ovx (c : En) (x : Int) : Bool := decide (c.x ≤ x) && decide (x ≤ c.u)
def cntI (L : List En) (x : Int) : Nat → Int
  | 0 => 0
  | n + 1 => if ovx (L.getD n En.o) x = true then cntI L x n + 1 else cntI L x n
theorem cntI_next (L : List En) (x : Int) (n : Nat) : cntI L x (n + 1) = if ovx (L.getD n En.o) x = true then cntI L x n + 1 else cntI L x n := rfl
theorem cntI_bd (L : List En) (x : Int) : ∀ n : Nat, 0 ≤ cntI L x n ∧ cntI L x n ≤ n
  | 0 => by simp [cntI]
  | n + 1 => by
    have := cntI_bd L x n
    rw [cntI_next]
    split <;> omega
def mxP (L : List En) : Nat → Int × Int
  | 0 => (0, 0)
  | i + 1 => if (decide ((i : Int) = 0) || decide ((mxP L i).1 < cntI L (L.getD i En.o).x L.length)) = true then (cntI L (L.getD i En.o).x L.length, (L.getD i En.o).x) else mxP L i
theorem mxP_in {L : List En} {i : Nat} (h : (decide ((i : Int) = 0) || decide ((mxP L i).1 < cntI L (L.getD i En.o).x L.length)) = true) : mxP L (i + 1) = (cntI L (L.getD i En.o).x L.length, (L.getD i En.o).x) := if_pos h
theorem mxP_out {L : List En} {i : Nat} (h : (decide ((i : Int) = 0) || decide ((mxP L i).1 < cntI L (L.getD i En.o).x L.length)) = false) : mxP L (i + 1) = mxP L i := if_neg (by rw [h]; decide)
theorem cnt_in {L : List En} {x : Int} {n : Nat} (h : ovx (L.getD n En.o) x = true) : cntI L x (n + 1) = cntI L x n + 1 := if_pos h
theorem cnt_out {L : List En} {x : Int} {n : Nat} (h : ovx (L.getD n En.o) x = false) : cntI L x (n + 1) = cntI L x n := if_neg (by rw [h]; decide)
end Go.Carom
/-
  The reference's filter and its insertion. Conditions: none.
-/
namespace Go.Carom
open Go.RowKit Go.AL
def nd (acc : List En) (e : En) (k : Nat) : Bool := vE e && (acc.take k).all fun o => !decide (o.id = e.id)
theorem nd_zero (acc : List En) (e : En) : nd acc e 0 = vE e := by simp [nd]
theorem nd_next {acc : List En} {e : En} {k : Nat} (h : k < acc.length) : nd acc e (k + 1) = (nd acc e k && !decide ((acc.getD k En.o).id = e.id)) := by
  unfold nd
  rw [take_succ_getD _ En.o h, List.all_append]
  simp only [List.all_cons, List.all_nil, Bool.and_true]
  rw [Bool.and_assoc]
theorem nd_all (acc : List En) (e : En) : nd acc e acc.length = newE acc e := by unfold nd newE; rw [List.take_length]
theorem fltI_yes {l : List En} {i : Nat} (h : i < l.length) (hn : newE (fltI l i) (l.getD i En.o) = true) : fltI l (i + 1) = fltI l i ++ [l.getD i En.o] := by rw [fltI_next l i h]; unfold addE; rw [if_pos hn]
theorem fltI_no {l : List En} {i : Nat} (h : i < l.length) (hn : newE (fltI l i) (l.getD i En.o) = false) : fltI l (i + 1) = fltI l i := by rw [fltI_next l i h]; unfold addE; rw [if_neg (by rw [hn]; decide)]
theorem insS_len {α : Type} (lt : α → α → Bool) (x : α) (l : List α) : (insS lt x l).length = l.length + 1 := by
  have h := congrArg List.length (List.takeWhile_append_dropWhile (p := fun y => lt y x) (l := l))
  rw [List.length_append] at h
  unfold insS
  rw [List.length_append, List.length_cons]
  omega
theorem tw_take {α : Type} (p : α → Bool) : ∀ l : List α, l.takeWhile p = l.take (l.takeWhile p).length
  | [] => rfl
  | a :: r => by
    rw [List.takeWhile_cons]
    cases hp : p a with
    | false => rfl
    | true =>
      simp only [if_true, List.length_cons, List.take_succ_cons]
      rw [← tw_take p r]
theorem dw_drop {α : Type} (p : α → Bool) : ∀ l : List α, l.dropWhile p = l.drop (l.takeWhile p).length
  | [] => rfl
  | a :: r => by
    rw [List.takeWhile_cons, List.dropWhile_cons]
    cases hp : p a with
    | false => rfl
    | true =>
      simp only [if_true, List.length_cons, List.drop_succ_cons]
      exact dw_drop p r
end Go.Carom
/-
  The same entries in another order; the pairs of the sweep are told apart. Conditions: none.
-/
namespace Go.Carom
open Go.RowKit Go.AL
theorem mem_getD {l : List En} {x : En} : x ∈ l ↔ ∃ j, j < l.length ∧ l.getD j En.o = x := by
  constructor
  · intro h
    obtain ⟨j, hj, he⟩ := List.mem_iff_getElem.1 h
    exact ⟨j, hj, by rw [List.getD_eq_getElem?_getD, List.getElem?_eq_getElem hj]; exact he⟩
  · rintro ⟨j, hj, rfl⟩
    exact getD_mem hj
theorem DistE.at {l : List En} (h : DistE l) {i j : Nat} (hi : i < l.length) (hj : j < l.length) (he : (l.getD i En.o).id = (l.getD j En.o).id) : i = j := by
  have hg : ∀ k (hk : k < l.length), l.getD k En.o = l[k] := fun k hk => by rw [List.getD_eq_getElem?_getD, List.getElem?_eq_getElem hk]; rfl
  rw [hg i hi, hg j hj] at he
  have hp := List.pairwise_iff_getElem.1 h
  rcases Nat.lt_trichotomy i j with hlt | rfl | hlt
  · exact absurd he (hp i j hi hj hlt)
  · rfl
  · exact absurd he.symm (hp j i hj hi hlt)
end Go.Carom
/-
  What the pairs of the sweep are, and how often each is met. Conditions: none.
-/
namespace Go.Carom
open Go.RowKit Go.AL
theorem mem_prK {a : En} {r : List En} {k : Nat} {p : P2} (h : p ∈ prK a r k) : ∃ j, j < r.length ∧ ovE a (r.getD j En.o) = true ∧ p = mkP a (r.getD j En.o) := by
  obtain ⟨b, hb, rfl⟩ := List.mem_map.1 h
  obtain ⟨hb1, hb2⟩ := List.mem_filter.1 hb
  have hr : b ∈ r := (List.takeWhile_sublist _).subset (List.mem_of_mem_take hb1)
  obtain ⟨j, hj, rfl⟩ := mem_getD.1 hr
  exact ⟨j, hj, hb2, rfl⟩
theorem mem_prI {l : List En} {p : P2} : ∀ i, i ≤ l.length → p ∈ prI l i → ∃ a b, a < i ∧ a < b ∧ b < l.length ∧ ovE (l.getD a En.o) (l.getD b En.o) = true ∧ p = mkP (l.getD a En.o) (l.getD b En.o)
  | 0, _, h => by cases h
  | i + 1, hi, h => by
    rw [prI_next] at h
    rcases List.mem_append.1 h with h | h
    · obtain ⟨a, b, h1, h2⟩ := mem_prI i (by omega) h
      exact ⟨a, b, by omega, h2⟩
    · obtain ⟨j, hj, h1, h2⟩ := mem_prK h
      have hg : (l.drop (i + 1)).getD j En.o = l.getD (i + 1 + j) En.o := by
        rw [List.getD_eq_getElem?_getD, List.getElem?_drop, List.getD_eq_getElem?_getD]
      rw [hg] at h1 h2
      rw [List.length_drop] at hj
      exact ⟨i, i + 1 + j, by omega, by omega, by omega, h1, h2⟩
theorem mkP_ids {a b c d : En} (h : mkP a b = mkP c d) : (a.id = c.id ∧ b.id = d.id) ∨ (a.id = d.id ∧ b.id = c.id) := by
  unfold mkP at h
  injection h with h1 h2
  repeat' (split at h1)
  all_goals (repeat' (split at h2))
  all_goals omega
theorem mkP_at {l : List En} (hd : DistE l) {a b c d : Nat} (hab : a < b) (hb : b < l.length) (hcd : c < d) (hd' : d < l.length) (h : mkP (l.getD a En.o) (l.getD b En.o) = mkP (l.getD c En.o) (l.getD d En.o)) : a = c ∧ b = d := by
  rcases mkP_ids h with ⟨h1, h2⟩ | ⟨h1, h2⟩
  · exact ⟨hd.at (by omega) (by omega) h1, hd.at hb hd' h2⟩
  · have := hd.at (by omega) hd' h1
    have := hd.at hb (by omega) h2
    omega
theorem prK_nodup {a : En} {r : List En} {k : Nat} (hd : DistE r) : (prK a r k).Nodup := by
  unfold prK
  refine List.pairwise_map.2 ?_
  have hs : ((runE a r).take k).filter (ovE a) |>.Sublist r := (List.filter_sublist).trans ((List.take_sublist _ _).trans (List.takeWhile_sublist _))
  refine (List.Pairwise.sublist hs hd).imp ?_
  intro b c hne he
  rcases mkP_ids he with ⟨_, h2⟩ | ⟨h1, h2⟩
  · exact hne h2
  · exact hne (by omega)
theorem prI_nodup {l : List En} (hd : DistE l) : ∀ i, i ≤ l.length → (prI l i).Nodup
  | 0, _ => List.nodup_nil
  | i + 1, hi => by
    rw [prI_next]
    refine List.nodup_append.2 ⟨prI_nodup hd i (by omega), prK_nodup (List.Pairwise.sublist (List.drop_sublist _ _) hd), ?_⟩
    intro p hp q hq he
    subst he
    obtain ⟨a, b, h1, h2, h3, _, h4⟩ := mem_prI i (by omega) hp
    obtain ⟨j, hj, _, h5⟩ := mem_prK hq
    have hg : (l.drop (i + 1)).getD j En.o = l.getD (i + 1 + j) En.o := by
      rw [List.getD_eq_getElem?_getD, List.getElem?_drop, List.getD_eq_getElem?_getD]
    rw [hg] at h5
    rw [List.length_drop] at hj
    have := mkP_at hd h2 h3 (c := i) (d := i + 1 + j) (by omega) (by omega) (h4.symm.trans h5)
    omega
theorem sortE_dist (l : List En) : DistE (sortE l) := by
  refine List.Pairwise.imp_of_mem ?_ (sortE_SS l).1
  intro a b ha hb h he
  have := (flt_dist l).inj a ((sortE_SS l).2 a |>.1 ha) b ((sortE_SS l).2 b |>.1 hb) he
  subst this
  rw [enl_SO.irr] at h; cases h
theorem pairsE_SS (l : List En) : SS p2l (pairsE l) ∧ ∀ x, x ∈ pairsE l ↔ x ∈ pairsR (sortE l) := ss_mergeSort p2l_STO (prI_nodup (sortE_dist l) _ (Nat.le_refl _))
theorem ovE_sym (a b : En) : ovE a b = ovE b a := by
  unfold ovE ovl
  rw [Bool.and_comm (vE a)]
  congr 1
  rw [Bool.eq_iff_iff]
  simp only [Bool.and_eq_true, decide_eq_true_eq]
  constructor <;> (rintro ⟨⟨⟨h1, h2⟩, h3⟩, h4⟩; exact ⟨⟨⟨h2, h1⟩, h4⟩, h3⟩)
theorem sortE_sub {l : List En} {e : En} (h : e ∈ sortE l) : e ∈ l := by
  rw [(sortE_SS l).2] at h
  have key : ∀ (l acc : List En), ∀ x ∈ l.foldl addE acc, x ∈ acc ∨ x ∈ l := by
    intro l
    induction l with
    | nil => intro acc x hx; exact .inl hx
    | cons a r ih =>
      intro acc x hx
      rcases ih _ x hx with h | h
      · unfold addE at h
        split at h
        · rcases List.mem_append.1 h with h | h
          · exact .inl h
          · rw [List.mem_singleton] at h; exact .inr (by rw [h]; exact List.mem_cons_self)
        · exact .inl h
      · exact .inr (List.mem_cons_of_mem _ h)
  rcases key l [] e h with h | h
  · cases h
  · exact h
theorem pair_ends {l : List En} {p : P2} (h : p ∈ pairsE l) : p.a < p.b ∧ ∃ a ∈ l, ∃ b ∈ l, a.id = p.a ∧ b.id = p.b ∧ ovE a b = true := by
  rw [(pairsE_SS l).2] at h
  obtain ⟨a, b, h1, h2, h3, h4, h5⟩ := mem_prI _ (Nat.le_refl _) h
  have hne : ((sortE l).getD a En.o).id ≠ ((sortE l).getD b En.o).id := fun he => by
    have := (sortE_dist l).at (by omega) h3 he
    omega
  have ha := sortE_sub (getD_mem (d := En.o) (show a < (sortE l).length by omega))
  have hb := sortE_sub (getD_mem (d := En.o) h3)
  generalize (sortE l).getD a En.o = x at *
  generalize (sortE l).getD b En.o = y at *
  subst h5
  unfold mkP
  by_cases hlt : y.id < x.id
  · simp only [if_pos hlt, if_neg (show ¬ x.id < y.id by omega)]
    exact ⟨hlt, y, hb, x, ha, rfl, rfl, by rw [ovE_sym]; exact h4⟩
  · simp only [if_neg hlt, if_pos (show x.id < y.id by omega)]
    exact ⟨by omega, x, ha, y, hb, rfl, rfl, h4⟩
def eqK (l : List En) (i : Nat) : Nat := ((l.take i).takeWhile fun o => !decide (o.id = (l.getD i En.o).id)).length
end Go.Carom
/-
  The reference's lists of pairs. Conditions: none.
-/
namespace Go.Carom
open Go.RowKit Go.AL
def posP (x : P2) (l : List P2) : Nat := (l.takeWhile fun y => p2l y x).length
theorem posP_le (x : P2) (l : List P2) : posP x l ≤ l.length := tw_len _ _
theorem posP_in {x : P2} {l : List P2} {k : Nat} (h : k < posP x l) : p2l (l.getD k P2.o) x = true := (tw_getD _ P2.o l k h).2
theorem posP_end {x : P2} {l : List P2} (h : posP x l < l.length) : p2l (l.getD (posP x l) P2.o) x = false := tw_end _ P2.o l h
def eqP (a b : P2) : Bool := decide (a.a = b.a) && decide (a.b = b.b)
theorem eqP_iff {a b : P2} : eqP a b = true ↔ a = b := by
  obtain ⟨a1, a2⟩ := a
  obtain ⟨b1, b2⟩ := b
  simp [eqP]
theorem insS_posP (x : P2) (l : List P2) : insS p2l x l = l.take (posP x l) ++ x :: l.drop (posP x l) := by
  unfold insS posP
  rw [← tw_take, ← dw_drop]
theorem insP_head (x : P2) (l : List P2) : (l.dropWhile fun y => p2l y x).head? = l[posP x l]? := by
  rw [dw_drop, List.head?_drop]; rfl
theorem insP_hit {x : P2} {l : List P2} (h : posP x l < l.length) (he : eqP (l.getD (posP x l) P2.o) x = true) : insD p2l x l = l := by
  unfold insD
  rw [insP_head, List.getElem?_eq_getElem h]
  rw [eqP_iff, List.getD_eq_getElem?_getD, List.getElem?_eq_getElem h] at he
  exact if_pos (congrArg some he)
theorem insP_miss {x : P2} {l : List P2} (h : posP x l < l.length) (he : eqP (l.getD (posP x l) P2.o) x = false) : insD p2l x l = l.take (posP x l) ++ x :: l.drop (posP x l) := by
  unfold insD
  rw [insP_head, List.getElem?_eq_getElem h, if_neg, insS_posP]
  intro hs
  have hs' : l[posP x l] = x := Option.some.inj hs
  have : eqP (l.getD (posP x l) P2.o) x = true := by rw [eqP_iff, List.getD_eq_getElem?_getD, List.getElem?_eq_getElem h]; exact hs'
  rw [this] at he; cases he
theorem insP_out {x : P2} {l : List P2} (h : ¬ posP x l < l.length) : insD p2l x l = l.take (posP x l) ++ x :: l.drop (posP x l) := by
  unfold insD
  rw [insP_head, List.getElem?_eq_none (by omega), if_neg (by simp), insS_posP]
end Go.Carom
/-
  The pairs of the sweep are all pairs of entries whose boxes overlap. Conditions: none; no program in sight.
-/
namespace Go.Carom
open Go.RowKit Go.AL
theorem flt_all {l : List En} (hd : DistE l) : ∀ x, x ∈ flt l ↔ x ∈ l ∧ vE x = true := by
  have key : ∀ (m acc : List En), DistE (acc ++ m) → (∀ x, x ∈ m.foldl addE (acc.filter vE) ↔ (x ∈ acc ∨ x ∈ m) ∧ vE x = true) := by
    intro m
    induction m with
    | nil => intro acc _ x; simp
    | cons e m ih =>
      intro acc hd x
      have hd' : DistE (acc ++ [e] ++ m) := by simpa using hd
      have hn : newE (acc.filter vE) e = vE e := by
        unfold newE
        have : (acc.filter vE).all (fun o => !decide (o.id = e.id)) = true := by
          refine List.all_eq_true.2 fun o ho => ?_
          have := (List.pairwise_append.1 hd).2.2 o (List.mem_filter.1 ho).1 e (List.mem_cons_self ..)
          simpa using this
        rw [this, Bool.and_true]
      have ha : addE (acc.filter vE) e = (acc ++ [e]).filter vE := by
        unfold addE
        rw [hn, List.filter_append]
        cases h : vE e with
        | true => simp [List.filter, h]
        | false => simp [List.filter, h]
      rw [List.foldl_cons, ha, ih (acc ++ [e]) hd' x]
      simp [or_assoc]
  intro x
  have := key l [] (by simpa using hd) x
  simpa [flt] using this
theorem mem_sortE {l : List En} (hd : DistE l) (x : En) : x ∈ sortE l ↔ x ∈ l ∧ vE x = true := by rw [(sortE_SS l).2, flt_all hd]
theorem tw_mem {α : Type} {p : α → Bool} {d : α} : ∀ {l : List α} {j : Nat}, j < l.length → (∀ i, i ≤ j → p (l.getD i d) = true) → l.getD j d ∈ l.takeWhile p
  | [], j, h, _ => by simp at h
  | a :: r, j, h, hp => by
    have h0 : p a = true := hp 0 (Nat.zero_le _)
    rw [List.takeWhile_cons, if_pos h0]
    cases j with
    | zero => exact List.mem_cons_self ..
    | succ j =>
      refine List.mem_cons_of_mem _ ?_
      exact tw_mem (l := r) (j := j) (by simpa using h) (fun i hi => hp (i + 1) (by omega))
theorem prI_mono {l : List En} {p : P2} {i : Nat} : ∀ {k : Nat}, i ≤ k → p ∈ prI l i → p ∈ prI l k
  | 0, h, hp => by have : i = 0 := by omega
                   subst this; exact hp
  | k + 1, h, hp => by
    by_cases e : i = k + 1
    · subst e; exact hp
    · rw [prI_next]; exact List.mem_append_left _ (prI_mono (by omega) hp)
theorem SS.at {l : List En} (h : SS enl l) {i j : Nat} (hij : i < j) (hj : j < l.length) : enl (l.getD i En.o) (l.getD j En.o) = true := by
  have hg : ∀ k (hk : k < l.length), l.getD k En.o = l[k] := fun k hk => by rw [List.getD_eq_getElem?_getD, List.getElem?_eq_getElem hk]; rfl
  rw [hg i (by omega), hg j hj]
  exact List.pairwise_iff_getElem.1 h i j (by omega) hj hij
theorem prI_all {l : List En} (hs : SS enl l) {a b : Nat} (hab : a < b) (hb : b < l.length) (ho : ovE (l.getD a En.o) (l.getD b En.o) = true) : mkP (l.getD a En.o) (l.getD b En.o) ∈ prI l l.length := by
  refine prI_mono (i := a + 1) (by omega) ?_
  rw [prI_next]
  refine List.mem_append_right _ ?_
  unfold prK
  refine List.mem_map.2 ⟨l.getD b En.o, List.mem_filter.2 ⟨?_, ho⟩, rfl⟩
  rw [List.take_length]
  have hg : ∀ k, (l.drop (a + 1)).getD k En.o = l.getD (a + 1 + k) En.o := fun k => by rw [List.getD_eq_getElem?_getD, List.getElem?_drop, List.getD_eq_getElem?_getD]
  have e : l.getD b En.o = (l.drop (a + 1)).getD (b - (a + 1)) En.o := by rw [hg]; congr 1; omega
  rw [e]
  unfold runE
  refine tw_mem (by rw [List.length_drop]; omega) fun i hi => ?_
  rw [hg]
  have hx : (l.getD (a + 1 + i) En.o).x ≤ (l.getD b En.o).x := by
    by_cases hc : a + 1 + i = b
    · rw [hc]; exact Int.le_refl _
    · have := hs.at (i := a + 1 + i) (j := b) (by omega) hb
      rw [enl_iff] at this; omega
  unfold ovE ovl at ho
  simp only [Bool.and_eq_true, decide_eq_true_eq] at ho
  have h9 : (l.getD (a + 1 + i) En.o).x ≤ (l.getD a En.o).u := by have := ho.2.1.1.2; omega
  rw [decide_eq_false (by omega)]; rfl
theorem mkP_sym {a b : En} (h : a.id ≠ b.id) : mkP a b = mkP b a := by
  unfold mkP
  by_cases hlt : a.id < b.id
  · simp only [if_pos hlt, if_neg (show ¬ b.id < a.id by omega)]
  · simp only [if_neg hlt, if_pos (show b.id < a.id by omega)]
theorem mem_pairsE {l : List En} (hd : DistE l) (p : P2) : p ∈ pairsE l ↔ p.a < p.b ∧ ∃ a ∈ l, ∃ b ∈ l, a.id = p.a ∧ b.id = p.b ∧ ovE a b = true := by
  refine ⟨pair_ends, ?_⟩
  rintro ⟨hlt, a, ha, b, hb, h1, h2, ho⟩
  rw [(pairsE_SS l).2]
  have hv := ho
  unfold ovE at hv
  simp only [Bool.and_eq_true] at hv
  have hp : p = mkP a b := by
    unfold mkP
    rw [if_neg (by omega), if_pos (by omega), h1, h2]
  obtain ⟨i, hi, e1⟩ := mem_getD.1 ((mem_sortE hd a).2 ⟨ha, hv.1.1⟩)
  obtain ⟨j, hj, e2⟩ := mem_getD.1 ((mem_sortE hd b).2 ⟨hb, hv.1.2⟩)
  have hne : a.id ≠ b.id := by omega
  rcases Nat.lt_trichotomy i j with hij | hij | hij
  · rw [hp, ← e1, ← e2]
    exact prI_all (sortE_SS l).1 hij hj (by rw [e1, e2]; exact ho)
  · subst hij; rw [e1] at e2; subst e2; exact absurd rfl hne
  · rw [hp, mkP_sym hne, ← e1, ← e2]
    exact prI_all (sortE_SS l).1 hij hi (by rw [e1, e2, ovE_sym]; exact ho)
end Go.Carom
