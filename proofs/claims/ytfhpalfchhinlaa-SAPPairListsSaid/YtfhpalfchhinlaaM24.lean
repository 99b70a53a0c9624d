/-
  The plain law of chapter 27's lists: warm starting, finding, events. Conditions: none; no program in sight.
-/
import Derived.Test.YtfhpalfchhinlaaM23
import Derived.Test.YtfhpalfchhinlaaAl24
set_option linter.all false
namespace Go.Carom
open Go Go.AL

/-! ### lists, place by place -/
theorem all_range_getD {α : Type} (l : List α) (d : α) (f : α → Bool) : (List.range l.length).all (fun i => f (l.getD i d)) = l.all f := by
  rw [Bool.eq_iff_iff, List.all_eq_true, List.all_eq_true]
  constructor
  · intro h x hx
    obtain ⟨i, hi, rfl⟩ := List.getElem_of_mem hx
    have := h i (by simpa using hi)
    rwa [List.getD_eq_getElem?_getD, List.getElem?_eq_getElem hi] at this
  · intro h i hi
    have hi' : i < l.length := by simpa using hi
    exact h _ (getD_mem hi')
theorem take_succ_getD {α : Type} (l : List α) (d : α) {i : Nat} (h : i < l.length) : l.take (i + 1) = l.take i ++ [l.getD i d] := by
  rw [List.take_succ, List.getD_eq_getElem?_getD, List.getElem?_eq_getElem h]; rfl
theorem filter_take {α : Type} (l : List α) (d : α) (p : α → Bool) {i : Nat} (h : i < l.length) : (l.take (i + 1)).filter p = (l.take i).filter p ++ (if p (l.getD i d) = true then [l.getD i d] else []) := by
  rw [take_succ_getD l d h, List.filter_append]
  congr 1
  by_cases hp : p (l.getD i d) = true
  · rw [if_pos hp, List.filter_cons_of_pos hp]; rfl
  · rw [if_neg hp, List.filter_cons_of_neg hp]; rfl
theorem drop_getD {α : Type} (l : List α) (d : α) {i : Nat} (h : i < l.length) : l.drop i = l.getD i d :: l.drop (i + 1) := by
  rw [List.drop_eq_getElem_cons h, List.getD_eq_getElem?_getD, List.getElem?_eq_getElem h]; rfl
/-- a list of which the first i are changed. -/
def mapTo {α : Type} (f : α → α) (l : List α) (i : Nat) : List α := (l.take i).map f ++ l.drop i
theorem mapTo_zero {α : Type} (f : α → α) (l : List α) : mapTo f l 0 = l := by simp [mapTo]
theorem mapTo_len {α : Type} (f : α → α) (l : List α) (i : Nat) : (mapTo f l i).length = l.length := by simp [mapTo]; omega
theorem mapTo_all {α : Type} (f : α → α) (l : List α) : mapTo f l l.length = l.map f := by simp [mapTo]
theorem mapTo_get {α : Type} (f : α → α) (l : List α) (d : α) {i : Nat} (h : i < l.length) : (mapTo f l i).getD i d = l.getD i d := by
  unfold mapTo
  rw [List.getD_eq_getElem?_getD, List.getElem?_append_right (by rw [List.length_map, List.length_take]; exact Nat.min_le_left _ _), drop_getD l d h]
  simp [Nat.min_eq_left (Nat.le_of_lt h)]
theorem mapTo_set {α : Type} (f : α → α) (l : List α) (d : α) {i : Nat} (h : i < l.length) : (mapTo f l i).set i (f (l.getD i d)) = mapTo f l (i + 1) := by
  unfold mapTo
  rw [take_succ_getD l d h, List.map_append, List.set_append_right _ _ (by rw [List.length_map, List.length_take]; exact Nat.min_le_left _ _), drop_getD l d h]
  simp [Nat.min_eq_left (Nat.le_of_lt h)]
theorem set_getD {l : List AV} {i : Nat} {v : AV} (h : i < l.length) : (l.set i v).getD i .und = v := by
  rw [List.getD_eq_getElem?_getD, List.getElem?_set_self h]; rfl
theorem map_set' {α : Type} (f : α → AV) (l : List α) (i : Nat) (x : α) : (l.map f).set i (f x) = (l.set i x).map f := by rw [List.map_set]

/-! ### manifolds -/
def P6.eqb (p q : P6) : Bool := decide (p.a = q.a) && (decide (p.b = q.b) && (decide (p.c = q.c) && (decide (p.d = q.d) && (decide (p.e = q.e) && decide (p.f = q.f)))))
theorem P6.eqb_refl (p : P6) : p.eqb p = true := by simp [P6.eqb]
theorem P6.eqb_eq {p q : P6} (h : p.eqb q = true) : p = q := by cases p; cases q; simp [P6.eqb] at h; simp [h]
def p6E (l m : List P6) (i : Nat) : Bool := (l.getD i P6.o).eqb (m.getD i P6.o)
def eqP6 (l m : List P6) : Bool := decide (l.length = m.length) && (List.range l.length).all (p6E l m)
theorem eqP6_refl (l : List P6) : eqP6 l l = true := by simp [eqP6, p6E, P6.eqb_refl]
theorem eqP6_eq {l m : List P6} (h : eqP6 l m = true) : l = m := by
  simp only [eqP6, Bool.and_eq_true, decide_eq_true_eq, List.all_eq_true, List.mem_range] at h
  refine List.ext_getElem h.1 fun i h1 h2 => ?_
  have := P6.eqb_eq (h.2 i h1)
  simpa [List.getD_eq_getElem?_getD, List.getElem?_eq_getElem h1, List.getElem?_eq_getElem h2] using this
def eqMn (x y : Int) (l : List P6) (x' y' : Int) (m : List P6) : Bool := decide (x = x') && decide (y = y') && eqP6 l m
theorem eqMn_refl (x y : Int) (l : List P6) : eqMn x y l x y l = true := by simp [eqMn, eqP6_refl]

/-! ### warm starting -/
/-- the impulses of the first point with this ID. -/
def wsR (id : Int) : List P6 → Int × Int
  | [] => (0, 0)
  | o :: r => if o.d = id then (o.e, o.f) else wsR id r
def wsK (old : List P6) (id : Int) : Int := fidx old.length fun i => !decide ((old.getD i P6.o).d = id)
theorem wsR_drop {old : List P6} {id : Int} {i : Nat} (h : i < old.length) : wsR id (old.drop i) = if (old.getD i P6.o).d = id then ((old.getD i P6.o).e, (old.getD i P6.o).f) else wsR id (old.drop (i + 1)) := by
  rw [drop_getD old P6.o h, wsR]
theorem wsR_hit {old : List P6} {id : Int} {i : Nat} (hi : i < old.length) (h : ∀ j, j < i → ¬ (old.getD j P6.o).d = id) (hg : (old.getD i P6.o).d = id) : wsR id old = ((old.getD i P6.o).e, (old.getD i P6.o).f) := by
  have : ∀ k, k ≤ i → wsR id (old.drop k) = ((old.getD i P6.o).e, (old.getD i P6.o).f) := by
    intro k hk
    obtain ⟨m, rfl⟩ : ∃ m, i = k + m := ⟨i - k, by omega⟩
    clear hk
    induction m generalizing k with
    | zero => rw [wsR_drop (by omega), if_pos (by simpa using hg)]; rfl
    | succ m ih =>
      rw [wsR_drop (by omega), if_neg (h k (by omega))]
      have := ih (k + 1) (by rw [show k + 1 + m = k + (m + 1) by omega]; exact hi) (by rw [show k + 1 + m = k + (m + 1) by omega]; exact h) (by rw [show k + 1 + m = k + (m + 1) by omega]; exact hg)
      rw [this, show k + 1 + m = k + (m + 1) by omega]
  simpa using this 0 (Nat.zero_le _)
theorem wsR_none {old : List P6} {id : Int} (h : ∀ j, j < old.length → ¬ (old.getD j P6.o).d = id) : wsR id old = (0, 0) := by
  have : ∀ m k, k + m = old.length → wsR id (old.drop k) = (0, 0) := by
    intro m
    induction m with
    | zero => intro k hk; rw [List.drop_eq_nil_of_le (by omega)]; rfl
    | succ m ih => intro k hk; rw [wsR_drop (by omega), if_neg (h k (by omega))]; exact ih (k + 1) (by omega)
  simpa using this old.length 0 (by omega)
/-- what the index that is found says of the impulses. -/
theorem wsK_R (old : List P6) (id : Int) : (0 ≤ wsK old id → wsK old id < old.length ∧ ((old.getD (wsK old id).toNat P6.o).e, (old.getD (wsK old id).toNat P6.o).f) = wsR id old) ∧ (¬ 0 ≤ wsK old id → wsR id old = (0, 0)) := by
  unfold wsK
  have key : ∀ m, m ≤ old.length → (∀ j, j < m → ¬ (old.getD j P6.o).d = id) ∨ ∃ i, i < m ∧ (old.getD i P6.o).d = id ∧ ∀ j, j < i → ¬ (old.getD j P6.o).d = id := by
    intro m
    induction m with
    | zero => exact fun _ => .inl fun j hj => by omega
    | succ m ih =>
      intro hm
      rcases ih (by omega) with h1 | ⟨i, h1, h2⟩
      · by_cases hg : (old.getD m P6.o).d = id
        · exact .inr ⟨m, by omega, hg, h1⟩
        · exact .inl fun j hj => by by_cases e : j = m; (subst e; exact hg); exact h1 j (by omega)
      · exact .inr ⟨i, by omega, h2⟩
  rcases key old.length (Nat.le_refl _) with h | ⟨i, hi, hg, h⟩
  · rw [fidx_none (i := old.length) (by omega) (Nat.le_refl _) (fun j hj => by rw [decide_eq_false (h j hj)]; rfl)]
    exact ⟨fun e => by omega, fun _ => wsR_none h⟩
  · rw [fidx_hit hi (fun j hj => by rw [decide_eq_false (h j hj)]; rfl) (by rw [decide_eq_true hg]; rfl)]
    refine ⟨fun _ => ⟨by omega, ?_⟩, fun e => by omega⟩
    rw [wsR_hit hi h hg]; simp
def wsP (old : List P6) (al : Bool) (p : P6) : P6 := if al = true then ⟨p.a, p.b, p.c, p.d, (wsR p.d old).1, (wsR p.d old).2⟩ else ⟨p.a, p.b, p.c, p.d, 0, 0⟩
def wsA (ox oy nx ny : Int) : Bool := decide (32768 ≤ vdot ox oy nx ny)

/-! ### contacts -/
def Ct.keq (c : Ct) (k : K4) : Bool := decide (c.a = k.a) && (decide (c.fa = k.fa) && (decide (c.b = k.b) && decide (c.fb = k.fb)))
def Ct.key (c : Ct) : K4 := ⟨c.a, c.fa, c.b, c.fb⟩
theorem keq_iff (c : Ct) (k : K4) : c.keq k = true ↔ c.key = k := by cases c; cases k; simp [Ct.keq, Ct.key]
def findK (l : List Ct) (k : K4) : Int := fidx l.length fun i => !(l.getD i Ct.o).keq k
theorem findK_neg (l : List Ct) (k : K4) : decide (findK l k < 0) = !(l.any fun c => c.keq k) := by
  have h := fidx_neg l.length fun i => !(l.getD i Ct.o).keq k
  rw [all_range_getD l Ct.o fun c => !c.keq k] at h
  unfold findK
  have e : (l.any fun c => c.keq k) = !(l.all fun c => !c.keq k) := by rw [List.any_eq_not_all_not]
  rw [e, ← h, Bool.eq_iff_iff]; simp
def keepC (id : Int) (c : Ct) : Bool := !decide (c.a = id) && !decide (c.b = id)
def eqC (l m : List Ct) (i : Nat) : Bool := (l.getD i Ct.o).keq (m.getD i Ct.o).key && eqMn (l.getD i Ct.o).x (l.getD i Ct.o).y (l.getD i Ct.o).ps (m.getD i Ct.o).x (m.getD i Ct.o).y (m.getD i Ct.o).ps
def eqCs (l m : List Ct) : Bool := decide (l.length = m.length) && (List.range l.length).all (eqC l m)
theorem eqCs_refl (l : List Ct) : eqCs l l = true := by
  simp [eqCs, eqC, eqMn_refl]; intro i _; exact (keq_iff _ _).2 rfl
def fewI (l : List Ct) (i : Nat) : Bool := !decide (6 < (l.getD i Ct.o).ps.length)
def few27 (l : List Ct) : Bool := (List.range l.length).all (fewI l) && decide (l.length ≤ 40)

/-! ### events -/
def Ct.evt (kd : Int) (c : Ct) : Evt := ⟨kd, c.a, c.fa, c.b, c.fb⟩
def isIn (b : List Ct) (c : Ct) : Bool := b.any fun d => d.keq c.key
def evF (a b : List Ct) (kd : Int) : List Evt := (a.filter fun c => !isIn b c).map (Ct.evt kd)
theorem evF_self (a : List Ct) (kd : Int) : evF a a kd = [] := by
  unfold evF
  rw [List.filter_eq_nil_iff.2, List.map_nil]
  intro c hc
  simp only [isIn, Bool.not_eq_true', Bool.not_eq_false', List.any_eq_true, Bool.not_eq_false]
  exact ⟨c, hc, (keq_iff _ _).2 rfl⟩
def evE (l m : List Evt) (i : Nat) : Bool := decide ((l.getD i Evt.o).kd = (m.getD i Evt.o).kd) && (decide ((l.getD i Evt.o).a = (m.getD i Evt.o).a) && (decide ((l.getD i Evt.o).fa = (m.getD i Evt.o).fa) && (decide ((l.getD i Evt.o).b = (m.getD i Evt.o).b) && decide ((l.getD i Evt.o).fb = (m.getD i Evt.o).fb))))
def eqEv (l m : List Evt) : Bool := decide (l.length = m.length) && (List.range l.length).all (evE l m)
theorem eqEv_refl (l : List Evt) : eqEv l l = true := by simp [eqEv, evE]
/-- the first i of a list, those for which p holds. -/
def fl {α : Type} (l : List α) (p : α → Bool) (i : Nat) : List α := (l.take i).filter p
theorem fl_in {α : Type} {l : List α} (d : α) {p : α → Bool} {i : Nat} (h : i < l.length) (hp : p (l.getD i d) = true) : fl l p (i + 1) = fl l p i ++ [l.getD i d] := by unfold fl; rw [filter_take l d p h, if_pos hp]
theorem fl_out {α : Type} {l : List α} (d : α) {p : α → Bool} {i : Nat} (h : i < l.length) (hp : p (l.getD i d) = false) : fl l p (i + 1) = fl l p i := by unfold fl; rw [filter_take l d p h, if_neg (by rw [hp]; decide), List.append_nil]
theorem fl_all {α : Type} (l : List α) (p : α → Bool) : fl l p l.length = l.filter p := by unfold fl; rw [List.take_length]
theorem fl_len {α : Type} (l : List α) (p : α → Bool) (i : Nat) : (fl l p i).length ≤ l.length := by
  unfold fl
  exact Nat.le_trans (List.length_filter_le _ _) (by rw [List.length_take]; exact Nat.min_le_right _ _)
def keyL (c : Ct) : List Value := [.int .i64 c.a, .int .i64 c.fa, .int .i64 c.b, .int .i64 c.fb]
/-- the index of the first contact with each key. -/
def ixT (l : List Ct) : Nat → List (List Value × Value)
  | 0 => []
  | i + 1 => if mhas (keyL (l.getD i Ct.o)) (ixT l i) = true then ixT l i else mset (keyL (l.getD i Ct.o)) (.int .i64 i) (ixT l i)
abbrev K4S : List (Option IntKind) := [some .i64, some .i64, some .i64, some .i64]
theorem keyL_kinds (c : Ct) : (keyL c).map kindOf = K4S.map some := rfl
theorem ixT_keys (l : List Ct) (i : Nat) : MKeys K4S (ixT l i) := by
  induction i with
  | zero => exact MKeys.nil
  | succ i ih =>
    rw [ixT]
    split
    · exact ih
    · exact mset_keys (keyL_kinds _) ih
theorem veqs_refl : ∀ (k : List Value), (∀ v ∈ k, ∃ q, kindOf v = some q) → veqs k k = true
  | [], _ => rfl
  | v :: r, h => by
    rw [veqs, veqs_refl r fun x hx => h x (List.mem_cons_of_mem _ hx), Bool.and_true]
    obtain ⟨q, hq⟩ := h v (List.mem_cons_self ..)
    cases q with
    | some k => obtain ⟨n, rfl⟩ := kind_int hq; simp [veq]
    | none => obtain ⟨n, rfl⟩ := kind_bool hq; simp [veq]
theorem kinds_all {ks : List (Option IntKind)} {k : List Value} (h : k.map kindOf = ks.map some) : ∀ v ∈ k, ∃ q, kindOf v = some q := by
  intro v hv
  have : kindOf v ∈ k.map kindOf := List.mem_map_of_mem hv
  rw [h] at this
  obtain ⟨q, _, e⟩ := List.mem_map.1 this
  exact ⟨q, e.symm⟩
theorem mfind_some {ks : List (Option IntKind)} {k : List Value} (hk : k.map kindOf = ks.map some) : ∀ {ms : List (List Value × Value)} {i : Nat}, MKeys ks ms → ((mfind k ms i).isSome = true ↔ ∃ v, (k, v) ∈ ms)
  | [], _, _ => by simp [mfind]
  | (x, u) :: r, i, h => by
    unfold mfind
    by_cases hv : veqs k x = true
    · rw [if_pos hv]
      have := kinds_eq hk (h (x, u) (List.mem_cons_self ..)) hv
      subst this
      exact ⟨fun _ => ⟨u, List.mem_cons_self ..⟩, fun _ => rfl⟩
    · rw [if_neg hv, mfind_some hk h.tail]
      constructor
      · rintro ⟨v, hm⟩; exact ⟨v, List.mem_cons_of_mem _ hm⟩
      · rintro ⟨v, hm⟩
        rcases List.mem_cons.1 hm with e | hm
        · injection e with e1 e2
          subst e1
          exact absurd (veqs_refl k (kinds_all hk)) hv
        · exact ⟨v, hm⟩
theorem mset_mem {ks : List (Option IntKind)} {k k' : List Value} {v : Value} (hk : k.map kindOf = ks.map some) : ∀ {ms : List (List Value × Value)}, MKeys ks ms → ((∃ u, (k', u) ∈ mset k v ms) ↔ k' = k ∨ ∃ u, (k', u) ∈ ms)
  | [], _ => by simp [mset]
  | (x, u) :: r, h => by
    unfold mset
    by_cases hv : veqs k x = true
    · rw [if_pos hv]
      have := kinds_eq hk (h (x, u) (List.mem_cons_self ..)) hv
      subst this
      constructor
      · rintro ⟨w, hw⟩
        rcases List.mem_cons.1 hw with e | hw
        · injection e with e1 _; exact .inl e1
        · exact .inr ⟨w, List.mem_cons_of_mem _ hw⟩
      · rintro (rfl | ⟨w, hw⟩)
        · exact ⟨v, List.mem_cons_self ..⟩
        · rcases List.mem_cons.1 hw with e | hw
          · injection e with e1 _; subst e1; exact ⟨v, List.mem_cons_self ..⟩
          · exact ⟨w, List.mem_cons_of_mem _ hw⟩
    · rw [if_neg hv]
      have ih := mset_mem (k' := k') (v := v) hk h.tail
      constructor
      · rintro ⟨w, hw⟩
        rcases List.mem_cons.1 hw with e | hw
        · injection e with e1 e2; subst e1; exact .inr ⟨u, List.mem_cons_self ..⟩
        · rcases ih.1 ⟨w, hw⟩ with e | ⟨w, hw⟩
          · exact .inl e
          · exact .inr ⟨w, List.mem_cons_of_mem _ hw⟩
      · rintro (e | ⟨w, hw⟩)
        · obtain ⟨w, hw⟩ := ih.2 (.inl e); exact ⟨w, List.mem_cons_of_mem _ hw⟩
        · rcases List.mem_cons.1 hw with e | hw
          · injection e with e1 e2; subst e1; exact ⟨u, List.mem_cons_self ..⟩
          · obtain ⟨w, hw⟩ := ih.2 (.inr ⟨w, hw⟩); exact ⟨w, List.mem_cons_of_mem _ hw⟩
theorem keyL_inj {c d : Ct} : keyL c = keyL d ↔ c.key = d.key := by
  cases c; cases d; simp [keyL, Ct.key]
theorem mhas_ixT (l : List Ct) (c : Ct) : mhas (keyL c) (ixT l l.length) = isIn l c := by
  have key : ∀ n, n ≤ l.length → (mhas (keyL c) (ixT l n) = true ↔ ∃ i, i < n ∧ (l.getD i Ct.o).key = c.key) := by
    intro n
    induction n with
    | zero => intro _; simp [mhas, ixT, mfind]
    | succ n ih =>
      intro hn
      have ih := ih (by omega)
      have h1 : mhas (keyL c) (ixT l (n + 1)) = true ↔ keyL c = keyL (l.getD n Ct.o) ∨ mhas (keyL c) (ixT l n) = true := by
        unfold mhas at *
        rw [mfind_some (keyL_kinds c) (ixT_keys l _), mfind_some (keyL_kinds c) (ixT_keys l _), ixT]
        by_cases hh : mhas (keyL (l.getD n Ct.o)) (ixT l n) = true
        · rw [if_pos hh]
          constructor
          · exact .inr
          · rintro (e | h)
            · rw [e]; exact (mfind_some (keyL_kinds _) (ixT_keys l _)).1 hh
            · exact h
        · rw [if_neg hh]
          exact mset_mem (keyL_kinds _) (ixT_keys l n)
      rw [h1, ih, keyL_inj]
      constructor
      · rintro (e | ⟨i, hi, e⟩)
        · exact ⟨n, by omega, e.symm⟩
        · exact ⟨i, by omega, e⟩
      · rintro ⟨i, hi, e⟩
        by_cases hin : i = n
        · subst hin; exact .inl e.symm
        · exact .inr ⟨i, by omega, e⟩
  rw [Bool.eq_iff_iff, key l.length (Nat.le_refl _), isIn, List.any_eq_true]
  constructor
  · rintro ⟨i, hi, e⟩; exact ⟨_, getD_mem hi, (keq_iff _ _).2 e⟩
  · rintro ⟨d, hd, e⟩
    obtain ⟨i, hi, rfl⟩ := List.getElem_of_mem hd
    refine ⟨i, hi, ?_⟩
    rw [List.getD_eq_getElem?_getD, List.getElem?_eq_getElem hi]
    exact (keq_iff _ _).1 e
end Go.Carom
