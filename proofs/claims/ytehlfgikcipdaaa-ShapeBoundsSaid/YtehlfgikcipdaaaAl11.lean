/-
  The abstract logic: a region that draws its order: the check that no two unordered operations meet, and that then every order gives what the text's order gives. Conditions: none.
-/
import Derived.Test.YtehlfgikcipdaaaAl10
set_option linter.all false
namespace Go.AL
open Go.RowKit

/-- the transitive predecessors of each operation, as bits. -/
def cls : List Oper → List Nat → List Nat
  | [], acc => acc
  | o :: os, acc => cls os (acc ++ [o.after.toList.foldl (fun s e => if Region.binds .any e then s ||| 2 ^ e.on ||| acc.getD e.on 0 else s) 0])

def rdT (ds : List (Option Nat)) (o : Oper) : List Nat :=
  (o.op.operands.toList.filterMap fun | .tmp t => some t | _ => none) ++ (match o.guard with
    | some (j, _) => match ds[j]? with
      | some (some d) => [d]
      | _ => []
    | none => [])

def disj (a b : List Nat) : Bool := a.all fun x => !b.contains x
/-- i stands ahead of j and is not ordered with it: they do not meet. -/
def apart (ds : List (Option Nat)) (oi oj : Oper) (fi fj : FP) : Bool :=
  disj oi.dst.toList (rdT ds oj) && disj oi.dst.toList oj.dst.toList && disj (rdT ds oi) oj.dst.toList &&
  disj fi.2 fj.1 && disj fi.2 fj.2 && disj fi.1 fj.2

def regOk (ops : List Oper) (fps : List FP) : Bool :=
  let ds := ops.map (·.dst)
  let cl := cls ops []
  let l := (ops.zip fps).zipIdx
  l.all fun ((oj, fj), j) => oj.after.toList.all (fun e => !Region.binds .any e || decide (e.on < j)) &&
    l.all fun ((oi, fi), i) => !decide (i < j) || (cl.getD j 0).testBit i || apart ds oi oj fi fj

theorem arr_getD {α : Type} (a : Array α) (j : Nat) (d : α) (h : j < a.size) : a.getD j d = a[j] := by simp [Array.getD_eq_getD_getElem?, h]

theorem disj_spec {a b : List Nat} (h : disj a b = true) {x : Nat} (hx : x ∈ a) : x ∉ b := by
  have := List.all_eq_true.1 h x hx
  simpa using this

/-- the temporaries, and the boxes, behind those operations that S holds. -/
def tS (n : Nat) (S : Nat → Bool) : Nat → List (Oper × Res) → (Nat → AV) → Nat → AV
  | _, [], T => T
  | i, (o, r) :: l, T => tS n S (i + 1) l (if S i = true then updT n T o.dst r.v else T)
def hS (S : Nat → Bool) : Nat → List (Oper × Res) → (Nat → Option ABox) → Nat → Option ABox
  | _, [], H => H
  | i, (_, r) :: l, H => hS S (i + 1) l (if S i = true then updL H r.wb else H)

theorem updL_other : ∀ (wb : List (Nat × ABox)) (H : Nat → Option ABox) (b : Nat), b ∉ wb.map (·.1) → updL H wb b = H b
  | [], _, _, _ => rfl
  | (k, v) :: r, H, b, h => by
    simp only [List.map_cons, List.mem_cons, not_or] at h
    simp only [updL]
    rw [updL_other r _ b h.2, updF_other h.1]
theorem updL_key : ∀ (wb : List (Nat × ABox)) (H H' : Nat → Option ABox) (b : Nat), b ∈ wb.map (·.1) → updL H wb b = updL H' wb b
  | [], _, _, _, h => by simp at h
  | (k, v) :: r, H, H', b, h => by
    simp only [updL]
    by_cases hb : b ∈ r.map (·.1)
    · exact updL_key r _ _ b hb
    · have hk : b = k := by simp only [List.map_cons, List.mem_cons] at h; exact h.resolve_right hb
      subst hk
      rw [updL_other r _ _ hb, updL_other r _ _ hb, updF_same, updF_same]

theorem tS_congr {n : Nat} {S S' : Nat → Bool} {t : Nat} : ∀ (l : List (Oper × Res)) (i : Nat) (T T' : Nat → AV), T t = T' t →
    (∀ j x, l[j]? = some x → x.1.dst = some t → S (i + j) = S' (i + j)) → tS n S i l T t = tS n S' i l T' t
  | [], _, _, _, h, _ => h
  | (o, r) :: l, i, T, T', h, hs => by
    simp only [tS]
    refine tS_congr l (i + 1) _ _ ?_ (fun j x hx hd => by have := hs (j + 1) x hx hd; rwa [show i + (j + 1) = i + 1 + j by omega] at this)
    by_cases hd : o.dst = some t
    · have := hs 0 (o, r) rfl hd
      rw [Nat.add_zero] at this
      rw [this]
      split
      · unfold updT; rw [hd]; simp only [h]
      · exact h
    · have hu : ∀ U : Nat → AV, updT n U o.dst r.v t = U t := by
        intro U; unfold updT
        cases hdd : o.dst with
        | none => rfl
        | some d => simp only; rw [if_neg]; intro hc; exact hd (by rw [hdd, hc.1])
      split <;> split <;> simp [hu, h]

theorem hS_congr {S S' : Nat → Bool} {b : Nat} : ∀ (l : List (Oper × Res)) (i : Nat) (H H' : Nat → Option ABox), H b = H' b →
    (∀ j x, l[j]? = some x → b ∈ x.2.wb.map (·.1) → S (i + j) = S' (i + j)) → hS S i l H b = hS S' i l H' b
  | [], _, _, _, h, _ => h
  | (o, r) :: l, i, H, H', h, hs => by
    simp only [hS]
    refine hS_congr l (i + 1) _ _ ?_ (fun j x hx hd => by have := hs (j + 1) x hx hd; rwa [show i + (j + 1) = i + 1 + j by omega] at this)
    by_cases hd : b ∈ r.wb.map (·.1)
    · have := hs 0 (o, r) rfl hd
      rw [Nat.add_zero] at this
      rw [this]
      split
      · exact updL_key _ _ _ _ hd
      · exact h
    · split <;> split <;> simp [updL_other _ _ _ hd, h]

/-- the last that writes t. -/
theorem tS_last {n : Nat} {S : Nat → Bool} {t : Nat} {o : Oper} {r : Res} (ht : o.dst = some t) (hn : t < n) : ∀ (l : List (Oper × Res)) (i k : Nat) (T : Nat → AV), l[k]? = some (o, r) → S (i + k) = true →
    (∀ j x, k < j → l[j]? = some x → x.1.dst = some t → S (i + j) = false) → tS n S i l T t = r.v
  | [], _, _, _, h, _, _ => by simp at h
  | (o', r') :: l, i, 0, T, h, hs, hl => by
    simp only [List.getElem?_cons_zero, Option.some.injEq, Prod.mk.injEq] at h
    obtain ⟨rfl, rfl⟩ := h
    simp only [tS]
    rw [Nat.add_zero] at hs
    rw [if_pos hs, tS_congr (S' := fun _ => false) (T' := updT n T o'.dst r'.v) l (i + 1) _ rfl (fun j x hx hd => by have := hl (j + 1) x (by omega) hx hd; rwa [show i + (j + 1) = i + 1 + j by omega] at this)]
    have : ∀ (l : List (Oper × Res)) (i : Nat) (U : Nat → AV), tS n (fun _ => false) i l U = U := by
      intro l; induction l with
      | nil => intro i U; rfl
      | cons x l ih => intro i U; obtain ⟨o, r⟩ := x; simp only [tS]; exact ih _ _
    rw [this]
    unfold updT; rw [ht]; simp [hn]
  | (o', r') :: l, i, k + 1, T, h, hs, hl => by
    simp only [tS]
    exact tS_last ht hn l (i + 1) k _ h (by rw [show i + 1 + k = i + (k + 1) by omega]; exact hs)
      (fun j x hj hx hd => by have := hl (j + 1) x (by omega) hx hd; rwa [show i + (j + 1) = i + 1 + j by omega] at this)

theorem hS_last {S : Nat → Bool} {b : Nat} {o : Oper} {r : Res} (hb : b ∈ r.wb.map (·.1)) : ∀ (l : List (Oper × Res)) (i k : Nat) (H H' : Nat → Option ABox), l[k]? = some (o, r) → S (i + k) = true →
    (∀ j x, k < j → l[j]? = some x → b ∈ x.2.wb.map (·.1) → S (i + j) = false) → hS S i l H b = updL H' r.wb b
  | [], _, _, _, _, h, _, _ => by simp at h
  | (o', r') :: l, i, 0, H, H', h, hs, hl => by
    simp only [List.getElem?_cons_zero, Option.some.injEq, Prod.mk.injEq] at h
    obtain ⟨rfl, rfl⟩ := h
    simp only [hS]
    rw [Nat.add_zero] at hs
    rw [if_pos hs, hS_congr (S' := fun _ => false) (H' := updL H r'.wb) l (i + 1) _ rfl (fun j x hx hd => by have := hl (j + 1) x (by omega) hx hd; rwa [show i + (j + 1) = i + 1 + j by omega] at this)]
    have : ∀ (l : List (Oper × Res)) (i : Nat) (U : Nat → Option ABox), hS (fun _ => false) i l U = U := by
      intro l; induction l with
      | nil => intro i U; rfl
      | cons x l ih => intro i U; obtain ⟨o, r⟩ := x; simp only [hS]; exact ih _ _
    rw [this]
    exact updL_key _ _ _ _ hb
  | (o', r') :: l, i, k + 1, H, H', h, hs, hl => by
    simp only [hS]
    exact hS_last hb l (i + 1) k _ H' h (by rw [show i + 1 + k = i + (k + 1) by omega]; exact hs)
      (fun j x hj hx hd => by have := hl (j + 1) x (by omega) hx hd; rwa [show i + (j + 1) = i + 1 + j by omega] at this)

/-- the closure's bits are predecessors in every set that is closed under the edges. -/
theorem cls_spec {S : Nat → Bool} {ops : List Oper} (hS : ∀ j o, ops[j]? = some o → S j = true → ∀ e ∈ o.after.toList, Region.binds .any e = true → S e.on = true) :
    ∀ (os : List Oper) (acc : List Nat), ops.drop acc.length = os → (∀ j, j < acc.length → S j = true → ∀ i, (acc.getD j 0).testBit i = true → S i = true) →
      ∀ j, j < ops.length → S j = true → ∀ i, ((cls os acc).getD j 0).testBit i = true → S i = true
  | [], acc, hd, hacc, j, hj, hs, i, hi => by
    have : ops.length ≤ acc.length := by
      have := congrArg List.length hd; simp at this; omega
    exact hacc j (by omega) hs i hi
  | o :: os, acc, hd, hacc, j, hj, hs, i, hi => by
    simp only [cls] at hi
    refine cls_spec hS os _ ?_ ?_ j hj hs i hi
    · rw [List.length_append, ← List.drop_drop, hd]; rfl
    · intro j hj hs i hi
      by_cases hlt : j < acc.length
      · rw [List.getD_eq_getElem?_getD, List.getElem?_append_left hlt, ← List.getD_eq_getElem?_getD] at hi
        exact hacc j hlt hs i hi
      · have hje : j = acc.length := by simp at hj; omega
        subst hje
        rw [List.getD_eq_getElem?_getD, List.getElem?_append_right (Nat.le_refl _)] at hi
        simp only [Nat.sub_self, List.getElem?_cons_zero, Option.getD_some] at hi
        have ho : ops[acc.length]? = some o := by
          have : (ops.drop acc.length)[0]? = some o := by rw [hd]; rfl
          rwa [List.getElem?_drop, Nat.add_zero] at this
        have hcl := hS _ o ho hs
        have key : ∀ (es : List Edge) (s : Nat), (∀ e ∈ es, Region.binds .any e = true → S e.on = true) → (∀ i, s.testBit i = true → S i = true) →
            ∀ i, (es.foldl (fun s e => if Region.binds .any e then s ||| 2 ^ e.on ||| acc.getD e.on 0 else s) s).testBit i = true → S i = true := by
          intro es
          induction es with
          | nil => exact fun s _ hs i hi => hs i hi
          | cons e es ih =>
            intro s he hs i hi
            refine ih _ (fun e' h' => he e' (List.mem_cons_of_mem _ h')) ?_ i hi
            intro i hi
            simp only at hi
            split at hi
            · rename_i hb
              have hon := he e (List.mem_cons_self ..) hb
              simp only [Nat.testBit_or, Bool.or_eq_true, Nat.testBit_two_pow, decide_eq_true_eq] at hi
              rcases hi with (hi | hi) | hi
              · exact hs i hi
              · rw [← hi]; exact hon
              · by_cases hlt : e.on < acc.length
                · exact hacc e.on hlt hon i hi
                · rw [List.getD_eq_getElem?_getD, List.getElem?_eq_none (by omega)] at hi; simp at hi
            · exact hs i hi
        exact key o.after.toList 0 hcl (fun i hi => by simp at hi) i hi

section
variable {C : Cx}

theorem tS_shift {n : Nat} {S S' : Nat → Bool} : ∀ (l : List (Oper × Res)) (i i' : Nat) (T : Nat → AV), (∀ j, S (i + j) = S' (i' + j)) → tS n S i l T = tS n S' i' l T
  | [], _, _, _, _ => rfl
  | (o, r) :: l, i, i', T, h => by
    simp only [tS]
    have h0 := h 0
    simp only [Nat.add_zero] at h0
    rw [h0]
    exact tS_shift l (i + 1) (i' + 1) _ (fun j => by have := h (j + 1); rwa [show i + (j + 1) = i + 1 + j by omega, show i' + (j + 1) = i' + 1 + j by omega] at this)
theorem hS_shift {S S' : Nat → Bool} : ∀ (l : List (Oper × Res)) (i i' : Nat) (H : Nat → Option ABox), (∀ j, S (i + j) = S' (i' + j)) → hS S i l H = hS S' i' l H
  | [], _, _, _, _ => rfl
  | (o, r) :: l, i, i', H, h => by
    simp only [hS]
    have h0 := h 0
    simp only [Nat.add_zero] at h0
    rw [h0]
    exact hS_shift l (i + 1) (i' + 1) _ (fun j => by have := h (j + 1); rwa [show i + (j + 1) = i + 1 + j by omega, show i' + (j + 1) = i' + 1 + j by omega] at this)
theorem tS_none {n : Nat} {S : Nat → Bool} : ∀ (l : List (Oper × Res)) (i : Nat) (T : Nat → AV), (∀ j, S (i + j) = false) → tS n S i l T = T
  | [], _, _, _ => rfl
  | (o, r) :: l, i, T, h => by
    simp only [tS]
    have h0 := h 0
    simp only [Nat.add_zero] at h0
    rw [h0]
    exact tS_none l (i + 1) _ (fun j => by have := h (j + 1); rwa [show i + (j + 1) = i + 1 + j by omega] at this)
theorem hS_none {S : Nat → Bool} : ∀ (l : List (Oper × Res)) (i : Nat) (H : Nat → Option ABox), (∀ j, S (i + j) = false) → hS S i l H = H
  | [], _, _, _ => rfl
  | (o, r) :: l, i, H, h => by
    simp only [hS]
    have h0 := h 0
    simp only [Nat.add_zero] at h0
    rw [h0]
    exact hS_none l (i + 1) _ (fun j => by have := h (j + 1); rwa [show i + (j + 1) = i + 1 + j by omega] at this)
theorem tS_ge {n : Nat} {S : Nat → Bool} {t : Nat} (ht : n ≤ t) : ∀ (l : List (Oper × Res)) (i : Nat) (T : Nat → AV), tS n S i l T t = T t
  | [], _, _ => rfl
  | (o, r) :: l, i, T => by
    simp only [tS]
    rw [tS_ge ht l (i + 1)]
    split
    · unfold updT
      cases o.dst with
      | none => rfl
      | some d => simp only; rw [if_neg]; omega
    · rfl

def startN (rs : List Res) (nx k : Nat) : Nat := endN (rs.take k) nx
theorem endN_le : ∀ (rs : List Res) (nx : Nat), nx ≤ endN rs nx
  | [], nx => Nat.le_refl nx
  | r :: rs, nx => Nat.le_trans (Nat.le_add_right _ _) (endN_le rs (nx + r.nw))
theorem startN_succ : ∀ (rs : List Res) (nx k : Nat) (r : Res), rs[k]? = some r → startN rs nx (k + 1) = startN rs nx k + r.nw
  | [], _, _, _, h => by simp at h
  | r' :: rs, nx, 0, r, h => by
    simp only [List.getElem?_cons_zero, Option.some.injEq] at h; subst h; simp [startN, endN]
  | r' :: rs, nx, k + 1, r, h => by
    have := startN_succ rs (nx + r'.nw) k r (by simpa using h)
    simpa [startN, endN] using this
theorem startN_mono (rs : List Res) (nx : Nat) : ∀ (k j : Nat), j ≤ k → startN rs nx j ≤ startN rs nx k
  | 0, j, h => by rw [show j = 0 by omega]; exact Nat.le_refl _
  | k + 1, j, h => by
    by_cases hj : j = k + 1
    · rw [hj]; exact Nat.le_refl _
    · refine Nat.le_trans (startN_mono rs nx k j (by omega)) ?_
      cases hr : rs[k]? with
      | some r => rw [startN_succ rs nx k r hr]; omega
      | none =>
        have : rs.length ≤ k := by simpa using hr
        unfold startN; rw [List.take_of_length_le (by omega), List.take_of_length_le (by omega)]; exact Nat.le_refl _

theorem chain_get {ds : List (Option Nat)} : ∀ (os : List Oper) (rs : List Res) (T : List (Nat × AV)) (H : List (Nat × ABox)) (nx : Nat), Chain C ds os rs T H nx →
    ∀ (k : Nat) (o : Oper) (r : Res), (os.zip rs)[k]? = some (o, r) →
      GOpS C ds o (tS C.n (fun j => decide (j < k)) 0 (os.zip rs) (lk T)) (hS (fun j => decide (j < k)) 0 (os.zip rs) (hk H)) (startN rs nx k) r
  | [], _, _, _, _, _, _, _, _, hk => by simp at hk
  | _ :: _, [], _, _, _, h, _, _, _, _ => h.elim
  | o' :: os, r' :: rs, T, H, nx, h, 0, o, r, hk => by
    simp only [List.zip_cons_cons, List.getElem?_cons_zero, Option.some.injEq, Prod.mk.injEq] at hk
    obtain ⟨rfl, rfl⟩ := hk
    rw [tS_none _ _ _ (fun j => by simp), hS_none _ _ _ (fun j => by simp)]
    exact h.1
  | o' :: os, r' :: rs, T, H, nx, h, k + 1, o, r, hkk => by
    have := chain_get os rs _ _ _ h.2 k o r (by simpa using hkk)
    have e1 : tS C.n (fun j => decide (j < k + 1)) 0 ((o' :: os).zip (r' :: rs)) (lk T) = tS C.n (fun j => decide (j < k)) 0 (os.zip rs) (lk (setT C.n T o'.dst r'.v)) := by
      simp only [List.zip_cons_cons, tS, Nat.zero_lt_succ, decide_true, if_true, lk_setT]
      exact tS_shift _ _ _ _ (fun j => by simp; omega)
    have e2 : hS (fun j => decide (j < k + 1)) 0 ((o' :: os).zip (r' :: rs)) (hk H) = hS (fun j => decide (j < k)) 0 (os.zip rs) (hk (hputs H r'.wb)) := by
      simp only [List.zip_cons_cons, hS, Nat.zero_lt_succ, decide_true, if_true, hk_hputs]
      exact hS_shift _ _ _ _ (fun j => by simp; omega)
    have e3 : startN (r' :: rs) nx (k + 1) = startN rs (nx + r'.nw) k := rfl
    rw [e1, e2, e3]
    exact this

theorem chain_end {ds : List (Option Nat)} : ∀ (os : List Oper) (rs : List Res) (T : List (Nat × AV)) (H : List (Nat × ABox)) (nx : Nat), Chain C ds os rs T H nx →
    ∀ S : Nat → Bool, ∀ i, (∀ j, j < os.length → S (i + j) = true) → tS C.n S i (os.zip rs) (lk T) = lk (endT C.n os rs T) ∧ hS S i (os.zip rs) (hk H) = hk (endH rs H) ∧ rs.length = os.length
  | [], [], _, _, _, _, _, _, _ => ⟨rfl, rfl, rfl⟩
  | [], _ :: _, _, _, _, h, _, _, _ => h.elim
  | _ :: _, [], _, _, _, h, _, _, _ => h.elim
  | o :: os, r :: rs, T, H, nx, h, S, i, hS' => by
    have h0 := hS' 0 (by simp)
    rw [Nat.add_zero] at h0
    obtain ⟨h1, h2, h3⟩ := chain_end os rs _ _ _ h.2 S (i + 1) (fun j hj => by have := hS' (j + 1) (by simpa using hj); rwa [show i + (j + 1) = i + 1 + j by omega] at this)
    simp only [List.zip_cons_cons, tS, hS, h0, if_true, endT, endH, ← lk_setT, ← hk_hputs]
    exact ⟨h1, h2, by simp [h3]⟩

def DS (rs : List Res) (nx : Nat) (S : Nat → Bool) (c : Nat) : Prop := c < nx ∨ ∃ j r, rs[j]? = some r ∧ S j = true ∧ startN rs nx j ≤ c ∧ c < startN rs nx j + r.nw

theorem regOk_spec {ops : List Oper} {fps : List FP} (h : regOk ops fps = true) (hl : fps.length = ops.length) :
    (∀ j oj, ops[j]? = some oj → ∀ e ∈ oj.after.toList, Region.binds .any e = true → e.on < j) ∧
    ∀ i j oi oj fi fj, i < j → ops[i]? = some oi → ops[j]? = some oj → fps[i]? = some fi → fps[j]? = some fj → ((cls ops []).getD j 0).testBit i = false → apart (ops.map (·.dst)) oi oj fi fj = true := by
  have hz : ∀ (k : Nat) (o : Oper) (f : FP), ops[k]? = some o → fps[k]? = some f → ((o, f), k) ∈ (ops.zip fps).zipIdx := by
    intro k o f ho hf
    rw [List.mem_zipIdx_iff_getElem?]
    rw [List.getElem?_zip_eq_some]
    exact ⟨ho, hf⟩
  unfold regOk at h
  rw [List.all_eq_true] at h
  refine ⟨fun j oj hj e he hb => ?_, fun i j oi oj fi fj hij hi hj hfi hfj hbit => ?_⟩
  · have hlt : j < fps.length := by rw [hl]; exact (List.getElem?_eq_some_iff.1 hj).1
    have := h _ (hz j oj fps[j] hj (List.getElem?_eq_getElem hlt))
    simp only [Bool.and_eq_true] at this
    have := List.all_eq_true.1 this.1 e he
    simpa [hb] using this
  · have := h _ (hz j oj fj hj hfj)
    simp only [Bool.and_eq_true] at this
    have := List.all_eq_true.1 this.2 _ (hz i oi fi hi hfi)
    rw [Bool.or_eq_true, Bool.or_eq_true] at this
    rcases this with (h1 | h1) | h1
    · simp [hij] at h1
    · rw [hbit] at h1; cases h1
    · exact h1

theorem apart_spec {ds : List (Option Nat)} {oi oj : Oper} {fi fj : FP} (h : apart ds oi oj fi fj = true) :
    (∀ t, oi.dst = some t → t ∉ rdT ds oj) ∧ (∀ t, oi.dst = some t → oj.dst ≠ some t) ∧ (∀ t, oj.dst = some t → t ∉ rdT ds oi) ∧
    (∀ b, b ∈ fi.2 → b ∉ fj.1) ∧ (∀ b, b ∈ fi.2 → b ∉ fj.2) ∧ (∀ b, b ∈ fj.2 → b ∉ fi.1) := by
  unfold apart at h
  simp only [Bool.and_eq_true] at h
  obtain ⟨⟨⟨⟨⟨h1, h2⟩, h3⟩, h4⟩, h5⟩, h6⟩ := h
  refine ⟨fun t ht => disj_spec h1 (by simp [ht]), fun t ht ht' => disj_spec h2 (x := t) (by simp [ht]) (by simp [ht']), fun t ht hm => disj_spec h3 hm (by simp [ht]),
    fun b hb => disj_spec h4 hb, fun b hb => disj_spec h5 hb, fun b hb hm => disj_spec h6 hm hb⟩

theorem any_sound {ops : Array Oper} {rs : List Res} {T : List (Nat × AV)} {H : List (Nat × ABox)} {nx : Nat} {Q : Exit → Act → World → Prop}
    (hc : Chain C (ops.toList.map (·.dst)) ops.toList rs T H nx) (hok : regOk ops.toList (rs.map Res.fp) = true)
    (hq : ∀ g' a' w', Rel C (lk (endT C.n ops.toList rs T)) (hk (endH rs H)) (fun c => c < endN rs nx) g' a' w' → Q .normal a' w') :
    ∀ (fuel : Nat) (listed : Array Bool) (g : Nat → List Value) (a : Act) (w : World), listed.size = ops.size → listed.toList.count false ≤ fuel →
      (∀ j o, ops.toList[j]? = some o → listed.getD j false = true → ∀ e ∈ o.after.toList, Region.binds .any e = true → listed.getD e.on false = true) →
      Rel C (tS C.n (fun j => listed.getD j false) 0 (ops.toList.zip rs) (lk T)) (hS (fun j => listed.getD j false) 0 (ops.toList.zip rs) (hk H)) (DS rs nx fun j => listed.getD j false) g a w →
      wpAny C.P .any ops Q fuel listed a w := by
  have hrl : rs.length = ops.toList.length := (chain_end _ _ _ _ _ hc (fun _ => true) 0 (fun _ _ => rfl)).2.2
  obtain ⟨hedge, hapart⟩ := regOk_spec hok (by simpa using hrl)
  -- all are listed: the end
  have hdone : ∀ (listed : Array Bool) (g : Nat → List Value) (a : Act) (w : World), (∀ j, j < ops.size → listed.getD j false = true) →
      Rel C (tS C.n (fun j => listed.getD j false) 0 (ops.toList.zip rs) (lk T)) (hS (fun j => listed.getD j false) 0 (ops.toList.zip rs) (hk H)) (DS rs nx fun j => listed.getD j false) g a w → Q .normal a w := by
    intro listed g a w hall hr
    obtain ⟨e1, e2, _⟩ := chain_end _ _ _ _ _ hc (fun j => listed.getD j false) 0 (fun j hj => by rw [Nat.zero_add]; exact hall j (by simpa using hj))
    rw [e1, e2] at hr
    refine hq g a w (hr.dmono fun c hcc => ?_)
    rcases hcc with hcc | ⟨j, r, hj, _, _, h2⟩
    · exact Nat.lt_of_lt_of_le hcc (endN_le rs nx)
    · have h3 := startN_succ rs nx j r hj
      have hlt : j < rs.length := (List.getElem?_eq_some_iff.1 hj).1
      have h4 := startN_mono rs nx rs.length (j + 1) (by omega)
      have h5 : startN rs nx rs.length = endN rs nx := by unfold startN; rw [List.take_length]
      omega
  have hleast : ∀ listed : Array Bool, listed.size = ops.size → Region.ready .any ops listed = [] → ∀ j, j < ops.size → listed.getD j false = true := by
    intro listed hsz hrd j
    induction j using Nat.strongRecOn with
    | _ j ih =>
      intro hj
      cases hlj : listed.getD j false with
      | true => rfl
      | false =>
        exfalso
        have hmem : j ∈ Region.ready .any ops listed := by
          unfold Region.ready
          rw [List.mem_filter]
          refine ⟨by simpa using hj, ?_⟩
          have h1 : listed.getD j true = false := by
            have hjs : j < listed.size := by omega
            rw [arr_getD _ _ _ hjs] at hlj ⊢
            exact hlj
          rw [h1]
          simp only [Bool.not_false, Bool.true_and, Array.getElem?_eq_getElem hj, Option.map_some, Option.getD_some]
          rw [Array.all_eq_true']
          intro e he
          cases hb : Region.binds .any e with
          | false => rfl
          | true =>
            have hlt := hedge j ops[j] (by simp [hj]) e (by simpa using he) hb
            simp [ih e.on hlt (by omega)]
        rw [hrd] at hmem; simp at hmem
  intro fuel
  induction fuel with
  | zero =>
    intro listed g a w hsz hcnt hcl hr
    have hall : ∀ j, j < ops.size → listed.getD j false = true := by
      intro j hj
      have hjs : j < listed.size := by omega
      have h0 : listed.toList.count false = 0 := by omega
      rw [List.count_eq_zero] at h0
      rw [arr_getD _ _ _ hjs]
      cases hv : listed[j] with
      | true => rfl
      | false => exact absurd (by rw [← hv]; simp) h0
    refine ⟨?_, hdone listed g a w hall hr⟩
    unfold Region.ready
    rw [List.filter_eq_nil_iff]
    intro j hj
    have hj' : j < ops.size := by simpa using hj
    have hjs : j < listed.size := by omega
    have := hall j hj'
    rw [arr_getD _ _ _ hjs] at this ⊢
    simp [this]
  | succ fuel ih =>
    intro listed g a w hsz hcnt hcl hr
    refine ⟨fun hrd => hdone listed g a w (hleast listed hsz hrd) hr, fun i hi => ?_⟩
    unfold Region.ready at hi
    rw [List.mem_filter] at hi
    obtain ⟨hi1, hi2⟩ := hi
    have hilt : i < ops.size := by simpa using hi1
    have hils : i < listed.size := by omega
    simp only [Bool.and_eq_true, Bool.not_eq_true', Array.getElem?_eq_getElem hilt, Option.map_some, Option.getD_some] at hi2
    obtain ⟨hli, hpre⟩ := hi2
    have hli' : listed.getD i false = false := by rw [arr_getD _ _ _ hils] at hli ⊢; exact hli
    have hpre' : ∀ e ∈ ops[i].after.toList, Region.binds .any e = true → listed.getD e.on false = true := by
      intro e he hb
      rw [Array.all_eq_true'] at hpre
      have := hpre e (by simpa using he)
      simpa [hb] using this
    have hoi : ops.toList[i]? = some ops[i] := by simp [hilt]
    have hirs : i < rs.length := by rw [hrl]; simpa using hilt
    have hri : rs[i]? = some rs[i] := List.getElem?_eq_getElem hirs
    have hzi : (ops.toList.zip rs)[i]? = some (ops[i], rs[i]) := List.getElem?_zip_eq_some.2 ⟨hoi, hri⟩
    have hcls := cls_spec (S := fun j => listed.getD j false) hcl ops.toList [] (by simp) (fun j hj => by simp at hj)
    have hfp : ∀ (k : Nat) (r : Res), rs[k]? = some r → (rs.map Res.fp)[k]? = some r.fp := fun k r hk => by rw [List.getElem?_map, hk]; rfl
    -- an operation ahead of i in the text that has not been, and one behind it that has been, do not meet it
    have hA : ∀ j oj rj, j < i → listed.getD j false = false → (ops.toList.zip rs)[j]? = some (oj, rj) → apart (ops.toList.map (·.dst)) oj ops[i] rj.fp rs[i].fp = true := by
      intro j oj rj hji hlj hz
      obtain ⟨ho, hrj⟩ := List.getElem?_zip_eq_some.1 hz
      refine hapart j i oj ops[i] rj.fp rs[i].fp hji ho hoi (hfp j rj hrj) (hfp i _ hri) ?_
      cases hb : ((cls ops.toList []).getD i 0).testBit j with
      | false => rfl
      | true =>
        exfalso
        -- i would want j listed: by the closure over listed + i
        have hcl2 : ∀ k o, ops.toList[k]? = some o → (listed.getD k false || decide (k = i)) = true → ∀ e ∈ o.after.toList, Region.binds .any e = true → (listed.getD e.on false || decide (e.on = i)) = true := by
          intro k o hko hk e he hbe
          rw [Bool.or_eq_true] at hk ⊢
          rcases hk with hk | hk
          · exact .inl (hcl k o hko hk e he hbe)
          · have : k = i := by simpa using hk
            subst this
            rw [hoi] at hko
            injection hko with hko
            subst hko
            exact .inl (hpre' e he hbe)
        have := cls_spec (S := fun k => listed.getD k false || decide (k = i)) hcl2 ops.toList [] (by simp) (fun j hj => by simp at hj) i (by simpa using hilt) (by simp) j hb
        simp only [hlj, Bool.false_or, decide_eq_true_eq] at this
        omega
    have hB : ∀ j oj rj, i < j → listed.getD j false = true → (ops.toList.zip rs)[j]? = some (oj, rj) → apart (ops.toList.map (·.dst)) ops[i] oj rs[i].fp rj.fp = true := by
      intro j oj rj hij hlj hz
      obtain ⟨ho, hrj⟩ := List.getElem?_zip_eq_some.1 hz
      refine hapart i j ops[i] oj rs[i].fp rj.fp hij hoi ho (hfp i _ hri) (hfp j rj hrj) ?_
      cases hb : ((cls ops.toList []).getD j 0).testBit i with
      | false => rfl
      | true =>
        have hjl : j < ops.toList.length := (List.getElem?_eq_some_iff.1 ho).1
        have := hcls j hjl hlj i hb
        simp only [hli'] at this
        cases this
    have hgops := chain_get _ _ _ _ _ hc i ops[i] rs[i] hzi
    -- what i looks at is as in the text's order
    have hrdT : ∀ t, t ∈ rdT (ops.toList.map (·.dst)) ops[i] → tS C.n (fun j => listed.getD j false) 0 (ops.toList.zip rs) (lk T) t = tS C.n (fun j => decide (j < i)) 0 (ops.toList.zip rs) (lk T) t := by
      intro t ht
      refine tS_congr _ 0 _ _ rfl fun j x hx hd => ?_
      obtain ⟨oj, rj⟩ := x
      rw [Nat.zero_add]
      rcases Nat.lt_trichotomy j i with hji | hji | hji
      · simp only [hji, decide_true]
        cases hlj : listed.getD j false with
        | true => rfl
        | false => exact absurd ht ((apart_spec (hA j oj rj hji hlj hx)).1 t hd)
      · subst hji; simp [hli']
      · have : ¬ j < i := by omega
        simp only [this, decide_false]
        cases hlj : listed.getD j false with
        | false => rfl
        | true => exact absurd ht ((apart_spec (hB j oj rj hji hlj hx)).2.2.1 t hd)
    have hrdB : ∀ b, b ∈ rs[i].rb → hS (fun j => listed.getD j false) 0 (ops.toList.zip rs) (hk H) b = hS (fun j => decide (j < i)) 0 (ops.toList.zip rs) (hk H) b := by
      intro b hb
      refine hS_congr _ 0 _ _ rfl fun j x hx hd => ?_
      obtain ⟨oj, rj⟩ := x
      rw [Nat.zero_add]
      rcases Nat.lt_trichotomy j i with hji | hji | hji
      · simp only [hji, decide_true]
        cases hlj : listed.getD j false with
        | true => rfl
        | false => exact absurd hb ((apart_spec (hA j oj rj hji hlj hx)).2.2.2.1 b hd)
      · subst hji; simp [hli']
      · have : ¬ j < i := by omega
        simp only [this, decide_false]
        cases hlj : listed.getD j false with
        | false => rfl
        | true => exact absurd hb ((apart_spec (hB j oj rj hji hlj hx)).2.2.2.2.2 b hd)
    have hnew : ∀ m, m < rs[i].nw → ¬ DS rs nx (fun j => listed.getD j false) (startN rs nx i + m) := by
      rintro m hm (h | ⟨j, r, hj, hlj, h1, h2⟩)
      · have : nx ≤ startN rs nx i := endN_le _ _
        omega
      · rcases Nat.lt_trichotomy j i with hji | hji | hji
        · have h3 := startN_succ rs nx j r hj
          have h4 := startN_mono rs nx i (j + 1) (by omega)
          omega
        · subst hji; simp only [hli'] at hlj; cases hlj
        · have h3 := startN_succ rs nx i _ hri
          have h4 := startN_mono rs nx j (i + 1) (by omega)
          omega
    have hset : ∀ j, (listed.setIfInBounds i true).getD j false = (listed.getD j false || decide (j = i)) := by
      intro j
      rw [Array.getD_eq_getD_getElem?, Array.getD_eq_getD_getElem?, Array.getElem?_setIfInBounds]
      by_cases hji : i = j
      · subst hji; simp [hils]
      · have : ¬ j = i := fun e => hji e.symm
        simp [hji, this]
    have hwp := hgops _ _ _ g a w hr (fun x hx => ?_) (fun j want d hg hd => ?_) hrdB hnew ops rfl (wpAny C.P .any ops Q fuel (listed.setIfInBounds i true)) Q fun v w' g' h1 h2 => ?_
    · unfold wpOp
      simp only [Array.getElem?_eq_getElem hilt]
      split
      · rename_i hw; rw [if_pos hw] at hwp; exact .inl hwp
      · rename_i hw; rw [if_neg hw] at hwp; exact hwp
    · cases x with
      | tmp t => exact hrdT t (by unfold rdT; simp only [List.mem_append, List.mem_filterMap]; exact .inl ⟨.tmp t, by simpa using hx, rfl⟩)
      | _ => rfl
    · refine hrdT d ?_
      unfold rdT
      rw [hg]
      simp only [hd, List.mem_append]
      exact .inr (by simp)
    · refine ih (listed.setIfInBounds i true) g' _ w' (by simp [hsz]) ?_ ?_ ?_
      · have hcount : (listed.setIfInBounds i true).toList.count false + 1 = listed.toList.count false := by
          rw [Array.toList_setIfInBounds]
          have hv : listed.toList[i]'(by simpa using hils) = false := by
            have := hli'; rw [arr_getD _ _ _ hils] at this; simpa using this
          rw [List.count_set (by simpa using hils), hv]
          have h0 : 0 < listed.toList.count false := List.count_pos_iff.2 (by rw [← hv]; exact List.getElem_mem _)
          have e1 : (false == false) = true := rfl
          have e2 : (true == false) = false := rfl
          simp only [e1, e2, if_true, Bool.false_eq_true, if_false]
          omega
        omega
      · intro j o ho hlj e he hb
        rw [hset] at hlj ⊢
        rw [Bool.or_eq_true] at hlj ⊢
        rcases hlj with hlj | hlj
        · exact .inl (hcl j o ho hlj e he hb)
        · have : j = i := by simpa using hlj
          subst this
          rw [hoi] at ho
          injection ho with ho
          subst ho
          exact .inl (hpre' e he hb)
      · have hrel := h1.put ops[i].dst h2
        have eT : updT C.n (tS C.n (fun j => listed.getD j false) 0 (ops.toList.zip rs) (lk T)) ops[i].dst rs[i].v =
            tS C.n (fun j => (listed.setIfInBounds i true).getD j false) 0 (ops.toList.zip rs) (lk T) := by
          funext t
          by_cases ht : ops[i].dst = some t ∧ t < C.n
          · rw [tS_last ht.1 ht.2 _ 0 i _ hzi (by rw [Nat.zero_add, hset]; simp) (fun j x hij hx hd => ?_)]
            · unfold updT; rw [ht.1]; simp [ht.2]
            · obtain ⟨oj, rj⟩ := x
              rw [Nat.zero_add, hset]
              have hne : ¬ j = i := by omega
              simp only [hne, decide_false, Bool.or_false]
              cases hlj : listed.getD j false with
              | false => rfl
              | true => exact absurd hd ((apart_spec (hB j oj rj hij hlj hx)).2.1 t ht.1)
          · have hu : updT C.n (tS C.n (fun j => listed.getD j false) 0 (ops.toList.zip rs) (lk T)) ops[i].dst rs[i].v t = tS C.n (fun j => listed.getD j false) 0 (ops.toList.zip rs) (lk T) t := by
              unfold updT
              cases hdd : ops[i].dst with
              | none => rfl
              | some d => simp only; rw [if_neg]; rintro ⟨rfl, h⟩; exact ht ⟨hdd, h⟩
            rw [hu]
            by_cases hge : C.n ≤ t
            · rw [tS_ge hge, tS_ge hge]
            · refine tS_congr _ 0 _ _ rfl fun j x hx hd => ?_
              rw [Nat.zero_add, hset]
              by_cases hji : j = i
              · subst hji
                rw [hzi] at hx
                injection hx with hx
                subst hx
                exact absurd ⟨hd, by omega⟩ ht
              · simp [hji]
        have eH : updL (hS (fun j => listed.getD j false) 0 (ops.toList.zip rs) (hk H)) rs[i].wb = hS (fun j => (listed.setIfInBounds i true).getD j false) 0 (ops.toList.zip rs) (hk H) := by
          funext b
          by_cases hb : b ∈ rs[i].wb.map (·.1)
          · rw [hS_last hb _ 0 i (hk H) (hS (fun j => listed.getD j false) 0 (ops.toList.zip rs) (hk H)) hzi (by rw [Nat.zero_add, hset]; simp) (fun j x hij hx hd => ?_)]
            obtain ⟨oj, rj⟩ := x
            rw [Nat.zero_add, hset]
            have hne : ¬ j = i := by omega
            simp only [hne, decide_false, Bool.or_false]
            cases hlj : listed.getD j false with
            | false => rfl
            | true => exact absurd hd ((apart_spec (hB j oj rj hij hlj hx)).2.2.2.2.1 b hb)
          · rw [updL_other _ _ _ hb]
            refine hS_congr _ 0 _ _ rfl fun j x hx hd => ?_
            rw [Nat.zero_add, hset]
            by_cases hji : j = i
            · subst hji
              rw [hzi] at hx
              injection hx with hx
              subst hx
              exact absurd hd hb
            · simp [hji]
        rw [eT, eH] at hrel
        refine hrel.dmono fun c hcc => ?_
        rcases hcc with (hcc | ⟨j, r, hj, hlj, h3⟩) | hcc
        · exact .inl hcc
        · exact .inr ⟨j, r, hj, by simp only [hset]; simp only at hlj; rw [hlj]; rfl, h3⟩
        · exact .inr ⟨i, rs[i], hri, by simp only [hset]; simp, hcc⟩

theorem region_any {id n : Nat} {P : Program} {ops : Array Oper} {T : List (Nat × AV)} {H : List (Nat × ABox)} {nx : Nat} {K : List (Nat × AV) → List (Nat × ABox) → Nat → List FP → Prop} {Q : Exit → Act → World → Prop}
    {g : Nat → List Value} {a : Act} {w : World} (hP : C.P = P) (hn : C.n = n) (hm : P.follows .mixedOrders = true) (h : arun P n (ops.toList.map (·.dst)) ops.toList T H nx [] K) (hr : Rel C (lk T) (hk H) (fun c => c < nx) g a w)
    (hok : ∀ T' H' nx' fps, K T' H' nx' fps → regOk ops.toList fps = true)
    (hq : ∀ T' H' nx' fps g' a' w', K T' H' nx' fps → Rel C (lk T') (hk H') (fun c => c < nx') g' a' w' → Q .normal a' w') : (Code.region id ops true).wp P Q a w := by
  subst hP; subst hn
  obtain ⟨rs, hl, hc, hK⟩ := arun_chain _ _ _ _ _ h
  have hok' := hok _ _ _ _ hK
  rw [List.nil_append] at hok' hK
  refine wp_region_any hm ?_
  have hz : ∀ j, (Array.replicate ops.size false).getD j false = false := by
    intro j
    rw [Array.getD_eq_getD_getElem?, Array.getElem?_replicate]
    split <;> rfl
  have e1 : tS C.n (fun j => (Array.replicate ops.size false).getD j false) 0 (ops.toList.zip rs) (lk T) = lk T := tS_none _ _ _ (fun j => hz _)
  have e2 : hS (fun j => (Array.replicate ops.size false).getD j false) 0 (ops.toList.zip rs) (hk H) = hk H := hS_none _ _ _ (fun j => hz _)
  refine any_sound hc hok' (fun g' a' w' hr' => hq _ _ _ _ g' a' w' hK hr') ops.size _ g a _ (by simp) (by simp [List.count_replicate]) (fun j o _ hj => by rw [hz] at hj; cases hj) ?_
  rw [e1, e2]
  exact hr.drew.dmono fun c hcc => .inl hcc
end
end Go.AL
