/-
  The plain law of a heap sort in place. Conditions: none; no program in sight.
-/
import Derived.Test.YtlkngccfikeaiaaME
import Derived.Test.YtlkngccfikeaiaaAlP
import Derived.Test.YtlkngccfikeaiaaAlC
set_option linter.all false
namespace Go.Carom
open Go Go.AL
def ati (l : List Int) (i : Nat) : Int := l.getD i 0
def swp (l : List Int) (i j : Nat) : List Int := (l.set i (ati l j)).set j (ati l i)
theorem swp_len (l : List Int) (i j : Nat) : (swp l i j).length = l.length := by simp [swp]
theorem ati_swp {l : List Int} {i j k : Nat} (hi : i < l.length) (hj : j < l.length) : ati (swp l i j) k = if k = j then ati l i else if k = i then ati l j else ati l k := by
  unfold swp ati
  simp only [List.getD_eq_getElem?_getD, List.getElem?_set, List.length_set]
  by_cases h1 : j = k
  · subst h1; simp [hj]
  · by_cases h2 : i = k
    · subst h2
      have : ¬ i = j := fun e => h1 e.symm
      simp [h1, hi, this]
    · have a : ¬ k = j := fun e => h1 e.symm
      have b : ¬ k = i := fun e => h2 e.symm
      simp [h1, h2, a, b]
theorem swp_perm {l : List Int} {i j : Nat} (hi : i < l.length) (hj : j < l.length) : (swp l i j).Perm l := by
  unfold swp ati
  rw [List.getD_eq_getElem?_getD, List.getD_eq_getElem?_getD, List.getElem?_eq_getElem hi, List.getElem?_eq_getElem hj]
  exact List.set_set_perm hi hj
def kid (l : List Int) (n i : Nat) : Nat := if 2 * i + 2 < n ∧ ati l (2 * i + 1) < ati l (2 * i + 2) then 2 * i + 2 else 2 * i + 1
def sftF (n : Nat) : Nat → List Int → Nat → List Int
  | 0, l, _ => l
  | f + 1, l, i => if n ≤ 2 * i + 1 then l else if ati l (kid l n i) ≤ ati l i then l else sftF n f (swp l i (kid l n i)) (kid l n i)
def sft (n : Nat) (l : List Int) (i : Nat) : List Int := sftF n (n - i) l i
theorem kid_gt (l : List Int) (n i : Nat) : i < kid l n i := by unfold kid; split <;> omega
theorem kid_lt {l : List Int} {n i : Nat} (h : ¬ n ≤ 2 * i + 1) : kid l n i < n := by unfold kid; split <;> omega
theorem sftF_more (n : Nat) : ∀ (f f' : Nat) (l : List Int) (i : Nat), n - i ≤ f → n - i ≤ f' → sftF n f l i = sftF n f' l i
  | 0, 0, _, _, _, _ => rfl
  | 0, f' + 1, l, i, h, _ => by
    show l = if n ≤ 2 * i + 1 then l else _
    rw [if_pos (by omega)]
  | f + 1, 0, l, i, _, h => by
    show (if n ≤ 2 * i + 1 then l else _) = l
    rw [if_pos (by omega)]
  | f + 1, f' + 1, l, i, h, h' => by
    have hk := kid_gt l n i
    rw [sftF, sftF, sftF_more n f f' (swp l i (kid l n i)) (kid l n i) (by omega) (by omega)]
theorem sft_0 {n i : Nat} {l : List Int} (h : n ≤ 2 * i + 1) : sft n l i = l := by
  unfold sft
  cases n - i with
  | zero => rfl
  | succ f => exact if_pos h
theorem sft_1 {n i : Nat} {l : List Int} (h : ¬ n ≤ 2 * i + 1) (h' : ati l (kid l n i) ≤ ati l i) : sft n l i = l := by
  unfold sft
  cases n - i with
  | zero => rfl
  | succ f => exact (if_neg h).trans (if_pos h')
theorem sft_2 {n i : Nat} {l : List Int} (h : ¬ n ≤ 2 * i + 1) (h' : ¬ ati l (kid l n i) ≤ ati l i) : sft n l i = sft n (swp l i (kid l n i)) (kid l n i) := by
  unfold sft
  have e : n - i = (n - i - 1) + 1 := by omega
  have hk := kid_gt l n i
  rw [e, sftF, if_neg h, if_neg h']
  exact sftF_more n _ _ _ _ (by omega) (by omega)
theorem sft_ind {n : Nat} {M : List Int → Nat → Prop} {R : List Int → Prop} (h0 : ∀ l i, M l i → n ≤ 2 * i + 1 → R l) (h1 : ∀ l i, M l i → ¬ n ≤ 2 * i + 1 → ati l (kid l n i) ≤ ati l i → R l)
    (h2 : ∀ l i, M l i → ¬ n ≤ 2 * i + 1 → ¬ ati l (kid l n i) ≤ ati l i → M (swp l i (kid l n i)) (kid l n i)) : ∀ (m : Nat) (l : List Int) (i : Nat), n - i ≤ m → M l i → R (sft n l i)
  | 0, l, i, hm, hM => by rw [sft_0 (by omega)]; exact h0 l i hM (by omega)
  | m + 1, l, i, hm, hM => by
    by_cases a : n ≤ 2 * i + 1
    · rw [sft_0 a]; exact h0 l i hM a
    · by_cases b : ati l (kid l n i) ≤ ati l i
      · rw [sft_1 a b]; exact h1 l i hM a b
      · have hk := kid_gt l n i
        rw [sft_2 a b]
        exact sft_ind h0 h1 h2 m _ _ (by omega) (h2 l i hM a b)
theorem sft_perm {n i : Nat} {l : List Int} (hn : n ≤ l.length) : (sft n l i).Perm l := by
  refine sft_ind (M := fun l' i => l'.Perm l) (R := fun l' => l'.Perm l) (fun l i h _ => h) (fun l i h _ _ => h) (fun l' i h a b => ?_) _ l i (Nat.le_refl _) (List.Perm.refl l)
  have hl := h.length_eq
  have := kid_lt (l := l') a
  have := kid_gt l' n i
  exact (swp_perm (by omega) (by omega)).trans h
theorem sft_len {n i : Nat} {l : List Int} (hn : n ≤ l.length) : (sft n l i).length = l.length := (sft_perm hn).length_eq
theorem sft_out {n i k : Nat} {l : List Int} (hn : n ≤ l.length) (hk : n ≤ k) : ati (sft n l i) k = ati l k := by
  refine sft_ind (M := fun l' _ => l'.length = l.length ∧ ati l' k = ati l k) (R := fun l' => ati l' k = ati l k) (fun l i h _ => h.2) (fun l i h _ _ => h.2) (fun l' i h a b => ?_) _ l i (Nat.le_refl _) ⟨rfl, rfl⟩
  have h1 := kid_lt (l := l') a
  have h2 := kid_gt l' n i
  refine ⟨by rw [swp_len]; exact h.1, ?_⟩
  rw [ati_swp (by omega) (by omega), if_neg (by omega), if_neg (by omega)]
  exact h.2
theorem sft_bd {n i : Nat} {l : List Int} {B : Int} (hn : n ≤ l.length) (h : ∀ k, k < n → ati l k ≤ B) : ∀ k, k < n → ati (sft n l i) k ≤ B := by
  refine sft_ind (M := fun l' _ => l'.length = l.length ∧ ∀ k, k < n → ati l' k ≤ B) (R := fun l' => ∀ k, k < n → ati l' k ≤ B) (fun l i h _ => h.2) (fun l i h _ _ => h.2) (fun l' i h a b => ?_) _ l i (Nat.le_refl _) ⟨rfl, h⟩
  have h1 := kid_lt (l := l') a
  have h2 := kid_gt l' n i
  refine ⟨by rw [swp_len]; exact h.1, fun k hk => ?_⟩
  rw [ati_swp (by omega) (by omega)]
  split
  · exact h.2 _ (by omega)
  · split
    · exact h.2 _ (by omega)
    · exact h.2 _ hk
def Hpp (n : Nat) (l : List Int) (i0 : Nat) : Prop := ∀ j c, i0 ≤ j → (c = 2 * j + 1 ∨ c = 2 * j + 2) → c < n → ati l c ≤ ati l j
def Hpx (n : Nat) (l : List Int) (i0 p : Nat) : Prop := (∀ j c, i0 ≤ j → j ≠ p → (c = 2 * j + 1 ∨ c = 2 * j + 2) → c < n → ati l c ≤ ati l j) ∧ (∀ q c, i0 ≤ q → (p = 2 * q + 1 ∨ p = 2 * q + 2) → (c = 2 * p + 1 ∨ c = 2 * p + 2) → c < n → ati l c ≤ ati l q)
theorem kid_max {l : List Int} {n i c : Nat} (hc : c = 2 * i + 1 ∨ c = 2 * i + 2) (h : c < n) : ati l c ≤ ati l (kid l n i) := by
  unfold kid
  split
  · rename_i h1
    rcases hc with rfl | rfl
    · omega
    · exact Int.le_refl _
  · rename_i h1
    rcases hc with rfl | rfl
    · exact Int.le_refl _
    · by_cases h2 : ati l (2 * i + 1) < ati l (2 * i + 2)
      · exact absurd ⟨h, h2⟩ h1
      · omega
theorem kid_or (l : List Int) (n i : Nat) : kid l n i = 2 * i + 1 ∨ kid l n i = 2 * i + 2 := by unfold kid; split <;> omega
theorem sft_heap {n i0 i : Nat} {l : List Int} (hn : n ≤ l.length) (hi : i0 ≤ i) (h : Hpx n l i0 i) : Hpp n (sft n l i) i0 := by
  refine sft_ind (M := fun l' i => l'.length = l.length ∧ i0 ≤ i ∧ Hpx n l' i0 i) (R := fun l' => Hpp n l' i0) (fun l' p h a => ?_) (fun l' p h a b => ?_) (fun l' p h a b => ?_) _ l i (Nat.le_refl _) ⟨rfl, hi, h⟩
  · intro j c hj hc hcn
    by_cases e : j = p
    · subst e; omega
    · exact h.2.2.1 j c hj e hc hcn
  · intro j c hj hc hcn
    by_cases e : j = p
    · subst e
      exact Int.le_trans (kid_max hc hcn) b
    · exact h.2.2.1 j c hj e hc hcn
  · have h1 := kid_lt (l := l') a
    have h2 := kid_gt l' n p
    have h3 := kid_or l' n p
    obtain ⟨hl, hp, hA, hB⟩ := h
    have hm := fun c hc hcn => kid_max (l := l') (n := n) (i := p) (c := c) hc hcn
    generalize kid l' n p = k at *
    have hs : ∀ x, ati (swp l' p k) x = if x = k then ati l' p else if x = p then ati l' k else ati l' x := fun x => ati_swp (by omega) (by omega)
    refine ⟨by rw [swp_len]; exact hl, by omega, fun j c hj hjk hc hcn => ?_, fun q c hq hkq hc hcn => ?_⟩
    · rw [hs j, if_neg hjk]
      by_cases e : j = p
      · subst e
        rw [if_pos rfl, hs c]
        split
        · omega
        · rw [if_neg (by omega)]
          exact hm c hc hcn
      · rw [if_neg e, hs c]
        by_cases e1 : c = k
        · omega
        · rw [if_neg e1]
          by_cases e2 : c = p
          · rw [if_pos e2]
            subst e2
            exact hB j k hj hc h3 h1
          · rw [if_neg e2]
            exact hA j c hj e hc hcn
    · have eq : q = p := by omega
      subst eq
      rw [hs c, hs q, if_neg (by omega), if_neg (by omega), if_neg (by omega), if_pos rfl]
      exact hA k c (by omega) (by omega) hc hcn
theorem hpx_of {n i : Nat} {l : List Int} (h : Hpp n l (i + 1)) : Hpx n l i i := ⟨fun j c hj hne hc hcn => h j c (by omega) hc hcn, fun q c hq hp _ _ => by omega⟩
theorem hpp_max {n : Nat} {l : List Int} (h : Hpp n l 0) : ∀ k, k < n → ati l k ≤ ati l 0 := by
  intro k
  induction k using Nat.strongRecOn with
  | _ k ih =>
    intro hk
    by_cases h0 : k = 0
    · subst h0; exact Int.le_refl _
    · have h1 := h ((k - 1) / 2) k (Nat.zero_le _) (by omega) hk
      have h2 := ih ((k - 1) / 2) (by omega) (by omega)
      omega
def bldH (n : Nat) : Nat → List Int → List Int
  | 0, l => l
  | i + 1, l => bldH n i (sft n l i)
theorem bldH_ok {n : Nat} : ∀ (i : Nat) {l : List Int}, n ≤ l.length → Hpp n l i → (bldH n i l).Perm l ∧ Hpp n (bldH n i l) 0
  | 0, l, _, h => ⟨List.Perm.refl _, h⟩
  | i + 1, l, hn, h => by
    have h1 := sft_perm (i := i) hn
    have h2 := bldH_ok i (l := sft n l i) (by rw [h1.length_eq]; exact hn) (sft_heap hn (Nat.le_refl _) (hpx_of h))
    exact ⟨h2.1.trans h1, h2.2⟩
def extH : Nat → List Int → List Int
  | 0, l => l
  | n + 1, l => extH n (sft (n + 1) (swp l 0 (n + 1)) 0)
def SrtFrom (n : Nat) (l : List Int) : Prop := ∀ i j, i < j → n < j → j < l.length → ati l i ≤ ati l j
theorem extH_ok : ∀ (n : Nat) {l : List Int}, n < l.length → Hpp (n + 1) l 0 → SrtFrom n l → (extH n l).Perm l ∧ SrtFrom 0 (extH n l)
  | 0, l, _, _, hs => ⟨List.Perm.refl _, hs⟩
  | n + 1, l, hn, hh, hs => by
    have hm := hpp_max hh
    have hl : (swp l 0 (n + 1)).length = l.length := swp_len _ _ _
    have ha : ∀ x, ati (swp l 0 (n + 1)) x = if x = n + 1 then ati l 0 else if x = 0 then ati l (n + 1) else ati l x := fun x => ati_swp (by omega) hn
    have hle : n + 1 ≤ (swp l 0 (n + 1)).length := by omega
    have h1 := sft_perm (i := 0) hle
    have hx : Hpx (n + 1) (swp l 0 (n + 1)) 0 0 := ⟨fun j c _ hj hc hcn => by
      rw [ha c, ha j, if_neg (by omega), if_neg (by omega), if_neg (by omega), if_neg hj]
      exact hh j c (Nat.zero_le _) hc (by omega), fun q c _ hq _ _ => by omega⟩
    have h2 := sft_heap hle (Nat.le_refl 0) hx
    have ho : ∀ k, n + 1 ≤ k → ati (sft (n + 1) (swp l 0 (n + 1)) 0) k = ati (swp l 0 (n + 1)) k := fun k hk => sft_out hle hk
    have hb : ∀ B, (∀ k, k < n + 1 → ati (swp l 0 (n + 1)) k ≤ B) → ∀ k, k < n + 1 → ati (sft (n + 1) (swp l 0 (n + 1)) 0) k ≤ B := fun B h => sft_bd hle h
    have hlen := h1.length_eq
    have hB : ∀ j, n + 1 ≤ j → j < l.length → ∀ k, k < n + 1 → ati (swp l 0 (n + 1)) k ≤ ati (swp l 0 (n + 1)) j := fun j hj hjl k hk => by
      rw [ha k, ha j, if_neg (show ¬ k = n + 1 by omega)]
      by_cases e : j = n + 1
      · rw [if_pos e]
        split
        · exact hm _ (by omega)
        · exact hm _ (by omega)
      · rw [if_neg e, if_neg (show ¬ j = 0 by omega)]
        split
        · exact hs _ _ (by omega) (by omega) hjl
        · exact hs _ _ (by omega) (by omega) hjl
    have h3 := extH_ok n (l := sft (n + 1) (swp l 0 (n + 1)) 0) (by omega) h2 (fun i j hij hj hjl => by
      rw [ho j (by omega)]
      by_cases e : i < n + 1
      · exact hb _ (hB j (by omega) (by omega)) i e
      · rw [ho i (by omega), ha i, ha j, if_neg (show ¬ j = n + 1 by omega), if_neg (show ¬ j = 0 by omega)]
        by_cases e2 : i = n + 1
        · rw [if_pos e2]
          exact hs 0 j (by omega) (by omega) (by omega)
        · rw [if_neg e2, if_neg (by omega)]
          exact hs i j hij (by omega) (by omega))
    exact ⟨h3.1.trans (h1.trans (swp_perm (by omega) hn)), h3.2⟩
def ascH (l : List Int) : List Int := extH (l.length - 1) (bldH l.length (l.length / 2) l)
theorem ascH_ok (l : List Int) : (ascH l).Perm l ∧ (ascH l).Pairwise (fun a b => a ≤ b) := by
  have h1 := bldH_ok (n := l.length) (l.length / 2) (l := l) (Nat.le_refl _) (fun j c hj hc hcn => by omega)
  have hl := h1.1.length_eq
  unfold ascH
  by_cases h0 : l.length = 0
  · have : l = [] := List.eq_nil_of_length_eq_zero h0
    subst this
    exact ⟨List.Perm.refl _, List.Pairwise.nil⟩
  · have h2 := extH_ok (l.length - 1) (l := bldH l.length (l.length / 2) l) (by omega) (by rw [show l.length - 1 + 1 = l.length by omega]; exact h1.2) (fun i j hij hj hjl => by omega)
    refine ⟨h2.1.trans h1.1, ?_⟩
    have hl2 := h2.1.length_eq
    refine List.pairwise_iff_getElem.2 fun i j hi hj hij => ?_
    have := h2.2 i j hij (by omega) hj
    unfold ati at this
    rw [List.getD_eq_getElem?_getD, List.getD_eq_getElem?_getD, List.getElem?_eq_getElem hi, List.getElem?_eq_getElem hj] at this
    exact this
theorem ascH_len (l : List Int) : (ascH l).length = l.length := (ascH_ok l).1.length_eq
end Go.Carom
/-
  The plain law of a tree of boxes that is only read: its leaves, what a query finds, its pairs. Conditions: none; no program in sight.
-/
namespace Go.Carom
open Go Go.AL
inductive BT where
  | lf (e : En)
  | nd (e : En) (h : Int) (l r : BT)
def BT.e : BT → En
  | .lf e => e
  | .nd e _ _ _ => e
def BT.h : BT → Int
  | .lf _ => 1
  | .nd _ h _ _ => h
def BT.lv : BT → List En
  | .lf e => [e]
  | .nd _ _ l r => l.lv ++ r.lv
def BT.col (q : En) : BT → List Int
  | .lf e => if ovE e q then [e.id] else []
  | .nd e _ l r => if ovE e q then l.col q ++ r.col q else []
def InE (f e : En) : Prop := e.x ≤ f.x ∧ e.y ≤ f.y ∧ f.u ≤ e.u ∧ f.w ≤ e.w
theorem InE.trans {a b c : En} (h : InE a b) (h' : InE b c) : InE a c := by unfold InE at *; omega
def BT.Hul : BT → Prop
  | .lf e => vE e = true
  | .nd e _ l r => vE e = true ∧ InE l.e e ∧ InE r.e e ∧ l.Hul ∧ r.Hul
theorem Hul.v {t : BT} (h : t.Hul) : vE t.e = true := by
  cases t with
  | lf e => exact h
  | nd e k l r => exact h.1
theorem Hul.lv {t : BT} (h : t.Hul) : ∀ f ∈ t.lv, InE f t.e ∧ vE f = true := by
  induction t with
  | lf e => intro f hf; have := List.mem_singleton.1 hf; subst this; exact ⟨⟨Int.le_refl _, Int.le_refl _, Int.le_refl _, Int.le_refl _⟩, h⟩
  | nd e k l r ihl ihr =>
    intro f hf
    obtain ⟨h1, h2, h3, h4, h5⟩ := h
    rcases List.mem_append.1 hf with hf | hf
    · exact ⟨(ihl h4 f hf).1.trans h2, (ihl h4 f hf).2⟩
    · exact ⟨(ihr h5 f hf).1.trans h3, (ihr h5 f hf).2⟩
theorem ovE_mono {f e q : En} (h : InE f e) (he : vE e = true) (ho : ovE f q = true) : ovE e q = true := by
  unfold ovE ovl at *
  unfold InE at h
  simp only [Bool.and_eq_true, decide_eq_true_eq] at *
  exact ⟨⟨he, ho.1.2⟩, by omega⟩
theorem col_eq {t : BT} (q : En) (h : t.Hul) : t.col q = (t.lv.filter fun f => ovE f q).map En.id := by
  induction t with
  | lf e =>
    show (if ovE e q then [e.id] else []) = (([e] : List En).filter fun f => ovE f q).map En.id
    cases ho : ovE e q <;> simp [ho]
  | nd e k l r ihl ihr =>
    have hh := h
    obtain ⟨h1, h2, h3, h4, h5⟩ := h
    show (if ovE e q then l.col q ++ r.col q else []) = ((l.lv ++ r.lv).filter fun f => ovE f q).map En.id
    cases ho : ovE e q with
    | true => rw [if_pos rfl, ihl h4, ihr h5, List.filter_append, List.map_append]
    | false =>
      rw [if_neg (by decide)]
      have : (l.lv ++ r.lv).filter (fun f => ovE f q) = [] := by
        rw [List.filter_eq_nil_iff]
        intro f hf hq
        have := ovE_mono ((Hul.lv hh f hf).1) (Hul.v hh) hq
        have ho' : ovE e q = true := this
        rw [ho] at ho'; cases ho'
      rw [this]; rfl
def byId (l : List En) (a : Int) : En := (l.find? fun e => decide (e.id = a)).getD En.o
theorem byId_eq {l : List En} (hd : DistE l) {e : En} (h : e ∈ l) : byId l e.id = e := by
  unfold byId
  cases hf : l.find? (fun x => decide (x.id = e.id)) with
  | none =>
    have := List.find?_eq_none.1 hf e h
    simp at this
  | some x =>
    have h1 := List.find?_some hf
    have h2 := List.mem_of_find?_eq_some hf
    exact hd.inj x h2 e h (of_decide_eq_true h1)
def BT.qry (t : BT) (q : En) : List Int := ascH (t.col q)
def BT.prA (t : BT) (a : Int) (k : Nat) : List P2 := (((t.qry (byId t.lv a)).take k).filter fun b => decide (a < b)).map fun b => ⟨a, b⟩
def BT.ids (t : BT) : List Int := ascH (t.lv.map En.id)
def BT.prs (t : BT) : Nat → List P2
  | 0 => []
  | i + 1 => t.prs i ++ t.prA (ati t.ids i) (t.qry (byId t.lv (ati t.ids i))).length
def BT.pairs (t : BT) : List P2 := t.prs t.ids.length
theorem pairwise_lt {l : List Int} (h : l.Nodup) (h' : l.Pairwise fun a b => a ≤ b) : l.Pairwise fun a b => a < b := by
  refine (h.and h').imp ?_
  intro a b ⟨h1, h2⟩
  have : a ≠ b := h1
  omega
theorem asc_lt {l : List Int} (h : l.Nodup) : (ascH l).Pairwise (fun a b => a < b) ∧ ∀ x, x ∈ ascH l ↔ x ∈ l :=
  ⟨pairwise_lt ((ascH_ok l).1.nodup_iff.2 h) (ascH_ok l).2, fun x => (ascH_ok l).1.mem_iff⟩
theorem DistE.ids {l : List En} (h : DistE l) : (l.map En.id).Nodup := List.pairwise_map.2 h
theorem DistE.filter {l : List En} (h : DistE l) (p : En → Bool) : DistE (l.filter p) := h.sublist List.filter_sublist
theorem prA_ss {t : BT} (hd : DistE t.lv) (hh : t.Hul) (a : Int) (k : Nat) : SS p2l (t.prA a k) := by
  have h1 := (asc_lt (l := t.col (byId t.lv a)) (by rw [col_eq _ hh]; exact (hd.filter _).ids)).1
  unfold BT.prA BT.qry
  refine List.pairwise_map.2 (((h1.sublist (List.take_sublist _ _)).sublist List.filter_sublist).imp ?_)
  intro x y hxy
  rw [p2l_iff]
  exact .inr ⟨rfl, hxy⟩
theorem mem_prA {t : BT} (hh : t.Hul) {a : Int} {p : P2} : p ∈ t.prA a (t.qry (byId t.lv a)).length ↔ p.a = a ∧ a < p.b ∧ ∃ f ∈ t.lv, f.id = p.b ∧ ovE f (byId t.lv a) = true := by
  unfold BT.prA
  rw [List.take_length, List.mem_map]
  have hm : ∀ x, x ∈ t.qry (byId t.lv a) ↔ ∃ f ∈ t.lv, f.id = x ∧ ovE f (byId t.lv a) = true := fun x => by
    unfold BT.qry
    rw [(ascH_ok _).1.mem_iff, col_eq _ hh, List.mem_map]
    constructor
    · rintro ⟨f, hf, rfl⟩
      have := List.mem_filter.1 hf
      exact ⟨f, this.1, rfl, this.2⟩
    · rintro ⟨f, hf, rfl, ho⟩
      exact ⟨f, List.mem_filter.2 ⟨hf, ho⟩, rfl⟩
  constructor
  · rintro ⟨b, hb, rfl⟩
    have h1 := List.mem_filter.1 hb
    exact ⟨rfl, of_decide_eq_true h1.2, (hm b).1 h1.1⟩
  · rintro ⟨h1, h2, h3⟩
    refine ⟨p.b, List.mem_filter.2 ⟨(hm _).2 h3, decide_eq_true h2⟩, ?_⟩
    cases p; simp at h1; rw [h1]
theorem ati_mem {l : List Int} {i : Nat} (h : i < l.length) : ati l i ∈ l := getD_mem h
theorem prs_ok {t : BT} (hd : DistE t.lv) (hh : t.Hul) : ∀ i, i ≤ t.ids.length → SS p2l (t.prs i) ∧ ∀ p, p ∈ t.prs i ↔ ∃ j, j < i ∧ p ∈ t.prA (ati t.ids j) (t.qry (byId t.lv (ati t.ids j))).length
  | 0, _ => ⟨List.Pairwise.nil, fun p => by simp [BT.prs]⟩
  | i + 1, hi => by
    have ih := prs_ok hd hh i (by omega)
    have hA := asc_lt hd.ids
    refine ⟨List.pairwise_append.2 ⟨ih.1, prA_ss hd hh _ _, fun p hp q hq => ?_⟩, fun p => ?_⟩
    · obtain ⟨j, hj, hpj⟩ := (ih.2 p).1 hp
      have h1 := ((mem_prA hh).1 hpj).1
      have h2 := ((mem_prA hh).1 hq).1
      have h3 := List.pairwise_iff_getElem.1 hA.1 j i (by show j < t.ids.length; omega) (by show i < t.ids.length; omega) hj
      rw [p2l_iff, h1, h2]
      left
      unfold ati BT.ids
      rw [List.getD_eq_getElem?_getD, List.getD_eq_getElem?_getD, List.getElem?_eq_getElem (show j < (ascH (t.lv.map En.id)).length by have : t.ids.length = (ascH (t.lv.map En.id)).length := rfl; omega), List.getElem?_eq_getElem (show i < (ascH (t.lv.map En.id)).length by have : t.ids.length = (ascH (t.lv.map En.id)).length := rfl; omega)]
      exact h3
    · show p ∈ t.prs i ++ _ ↔ _
      rw [List.mem_append, ih.2 p]
      constructor
      · rintro (⟨j, hj, h⟩ | h)
        · exact ⟨j, by omega, h⟩
        · exact ⟨i, by omega, h⟩
      · rintro ⟨j, hj, h⟩
        by_cases e : j = i
        · subst e; exact .inr h
        · exact .inl ⟨j, by omega, h⟩
theorem tree_pairs {t : BT} {l : List En} (hh : t.Hul) (hd : DistE t.lv) (hm : ∀ e, e ∈ t.lv ↔ e ∈ flt l) : t.pairs = pairsE l := by
  have hfd := flt_dist l
  have hv : ∀ e ∈ flt l, vE e = true := fun e he => (Hul.lv hh e ((hm e).2 he)).2
  have hs : sortE (flt l) = sortE l := by
    refine SS.ext' enl_SO (sortE_SS (flt l)).1 (sortE_SS l).1 fun x => ?_
    rw [mem_sortE hfd, (sortE_SS l).2]
    exact ⟨fun h => h.1, fun h => ⟨h, hv x h⟩⟩
  have hp : pairsE l = pairsE (flt l) := by unfold pairsE; rw [hs]
  obtain ⟨h1, h2⟩ := prs_ok hd hh t.ids.length (Nat.le_refl _)
  rw [hp]
  refine SS.ext p2l_STO h1 (pairsE_SS (flt l)).1 fun p => ?_
  have hA := asc_lt hd.ids
  show p ∈ t.prs t.ids.length ↔ _
  rw [h2 p, mem_pairsE hfd]
  constructor
  · rintro ⟨j, hj, h⟩
    obtain ⟨g1, g2, f, hf, g3, g4⟩ := (mem_prA hh).1 h
    have hmj : ati t.ids j ∈ t.ids := ati_mem hj
    obtain ⟨e, he, hei⟩ := List.mem_map.1 ((hA.2 _).1 hmj)
    have hb := byId_eq hd he
    rw [hei] at hb
    rw [hb] at g4
    exact ⟨by omega, e, (hm e).1 he, f, (hm f).1 hf, by omega, g3, by rw [ovE_sym]; exact g4⟩
  · rintro ⟨g1, e, he, f, hf, g2, g3, g4⟩
    have he' := (hm e).2 he
    have hin : e.id ∈ t.ids := (hA.2 _).2 (List.mem_map.2 ⟨e, he', rfl⟩)
    obtain ⟨j, hj, hje⟩ := List.mem_iff_getElem.1 hin
    have haj : ati t.ids j = e.id := by unfold ati; rw [List.getD_eq_getElem?_getD, List.getElem?_eq_getElem hj]; exact hje
    refine ⟨j, hj, ?_⟩
    rw [haj]
    refine (mem_prA hh).2 ⟨g2.symm, by omega, f, (hm f).2 hf, g3, ?_⟩
    rw [byId_eq hd he', ovE_sym]
    exact g4
theorem no_pairs {l : List En} (h : flt l = []) : pairsE l = [] := by
  have : sortE l = [] := by
    refine List.eq_nil_iff_forall_not_mem.2 fun x hx => ?_
    have := ((sortE_SS l).2 x).1 hx
    rw [h] at this; cases this
  unfold pairsE
  rw [this]
  simp [pairsR, prI]
end Go.Carom
/-
  The plain law of inserting into a balanced tree of boxes. Conditions: none; no program in sight.
-/
namespace Go.Carom
open Go Go.AL
def uniE (a b : En) : En :=
  if vE a = true then (if vE b = true then ⟨0, imin a.x b.x, imin a.y b.y, imax a.u b.u, imax a.w b.w⟩ else ⟨0, a.x, a.y, a.u, a.w⟩) else if vE b = true then ⟨0, b.x, b.y, b.u, b.w⟩ else ⟨0, 0, 0, 0, 0⟩
theorem vE_iff (e : En) : vE e = true ↔ (e.x ≤ e.u ∧ e.y ≤ e.w) ∧ (sat e.x = e.x ∧ sat e.y = e.y) ∧ sat e.u = e.u ∧ sat e.w = e.w := by
  unfold vE bvalid vsatd; simp only [Bool.and_eq_true, decide_eq_true_eq, and_assoc]
theorem imin_of (a b : Int) : (imin a b = a ∨ imin a b = b) ∧ imin a b ≤ a ∧ imin a b ≤ b := by unfold imin; split <;> omega
theorem imax_of (a b : Int) : (imax a b = a ∨ imax a b = b) ∧ a ≤ imax a b ∧ b ≤ imax a b := by unfold imax; split <;> omega
theorem uniE_ok {a b : En} (ha : vE a = true) (hb : vE b = true) : vE (uniE a b) = true ∧ InE a (uniE a b) ∧ InE b (uniE a b) := by
  unfold uniE
  rw [if_pos ha, if_pos hb]
  obtain ⟨a1, ⟨a2, a3⟩, a4, a5⟩ := (vE_iff a).1 ha
  obtain ⟨b1, ⟨b2, b3⟩, b4, b5⟩ := (vE_iff b).1 hb
  have m1 := imin_of a.x b.x
  have m2 := imin_of a.y b.y
  have m3 := imax_of a.u b.u
  have m4 := imax_of a.w b.w
  refine ⟨(vE_iff _).2 ⟨⟨by show imin a.x b.x ≤ imax a.u b.u; omega, by show imin a.y b.y ≤ imax a.w b.w; omega⟩, ⟨?_, ?_⟩, ?_, ?_⟩, ⟨m1.2.1, m2.2.1, m3.2.1, m4.2.1⟩, m1.2.2, m2.2.2, m3.2.2, m4.2.2⟩
  · show sat (imin a.x b.x) = imin a.x b.x
    rcases m1.1 with h | h <;> rw [h] <;> assumption
  · show sat (imin a.y b.y) = imin a.y b.y
    rcases m2.1 with h | h <;> rw [h] <;> assumption
  · show sat (imax a.u b.u) = imax a.u b.u
    rcases m3.1 with h | h <;> rw [h] <;> assumption
  · show sat (imax a.w b.w) = imax a.w b.w
    rcases m4.1 with h | h <;> rw [h] <;> assumption
def hpE (e : En) : Int := if vE e = true then fadd (fsub e.u e.x) (fsub e.w e.y) else 0
def costE (e f : En) : Int := hpE (uniE e f) - hpE e
inductive NT where
  | lf (b : Nat) (e : En)
  | nd (b : Nat) (e : En) (h : Int) (l r : NT)
namespace NT
def b : NT → Nat
  | .lf b _ => b
  | .nd b _ _ _ _ => b
def e : NT → En
  | .lf _ e => e
  | .nd _ e _ _ _ => e
def h : NT → Int
  | .lf _ _ => 1
  | .nd _ _ h _ _ => h
def bt : NT → BT
  | .lf _ e => .lf e
  | .nd _ e h l r => .nd e h l.bt r.bt
def nos : NT → List Nat
  | .lf b _ => [b]
  | .nd b _ _ l r => b :: (l.nos ++ r.nos)
def lvs : NT → List (Nat × En)
  | .lf b e => [(b, e)]
  | .nd _ _ _ l r => l.lvs ++ r.lvs
def fr (b : Nat) (l r : NT) : NT := .nd b (uniE l.e r.e) (1 + imax l.h r.h) l r
def rot (b : Nat) (high low : NT) : NT :=
  match high with
  | .nd c _ _ p q => if p.h < q.h then fr c q (fr b low p) else fr c p (fr b low q)
  | .lf c e => fr b (.lf c e) low
def bal (b : Nat) (l r : NT) : NT := if 1 < l.h - r.h then rot b l r else if l.h - r.h < -1 then rot b r l else fr b l r
def ins (i k : Nat) (f : En) : NT → NT
  | .lf b e => fr i (.lf b e) (.lf k f)
  | .nd b _ _ l r => if costE l.e f ≤ costE r.e f then bal b (ins i k f l) r else bal b l (ins i k f r)
def Hok : NT → Prop
  | .lf _ _ => True
  | .nd _ e h l r => e.id = 0 ∧ h = 1 + imax l.h r.h ∧ l.Hok ∧ r.Hok
def Ok (t : NT) : Prop := t.bt.Hul ∧ t.Hok
theorem Ok.v {t : NT} (h : t.Ok) : vE t.e = true := by
  have := Hul.v h.1
  cases t <;> exact this
theorem bt_e (t : NT) : t.bt.e = t.e := by cases t <;> rfl
theorem h_pos {t : NT} (h : t.Hok) : 1 ≤ t.h ∧ (∀ b e k l r, t = .nd b e k l r → 2 ≤ t.h) := by
  induction t with
  | lf b e => exact ⟨Int.le_refl _, fun _ _ _ _ _ h => by cases h⟩
  | nd b e k l r ihl ihr =>
    obtain ⟨_, h1, h2, h3⟩ := h
    have a := (ihl h2).1
    have m := imax_of l.h r.h
    have : 2 ≤ k := by omega
    exact ⟨by show 1 ≤ k; omega, fun _ _ _ _ _ _ => this⟩
theorem h_le {t : NT} (h : t.Hok) : t.h ≤ t.nos.length := by
  induction t with
  | lf b e => exact Int.le_refl _
  | nd b e k l r ihl ihr =>
    obtain ⟨_, h1, h2, h3⟩ := h
    have a := ihl h2
    have c := ihr h3
    have m := imax_of l.h r.h
    show k ≤ ((b :: (l.nos ++ r.nos)).length : Nat)
    rw [List.length_cons, List.length_append]
    omega
theorem uni_id (a b : En) : (uniE a b).id = 0 := by unfold uniE; split <;> (try split) <;> (try split) <;> rfl
theorem fr_ok {b : Nat} {l r : NT} (hl : l.Ok) (hr : r.Ok) : (fr b l r).Ok := by
  have u := uniE_ok hl.v hr.v
  exact ⟨⟨u.1, by rw [bt_e]; exact u.2.1, by rw [bt_e]; exact u.2.2, hl.1, hr.1⟩, uni_id _ _, rfl, hl.2, hr.2⟩
theorem nd_ok {b : Nat} {e : En} {k : Int} {l r : NT} (h : (NT.nd b e k l r).Ok) : l.Ok ∧ r.Ok := ⟨⟨h.1.2.2.2.1, h.2.2.2.1⟩, h.1.2.2.2.2, h.2.2.2.2⟩
theorem rot_ok {b : Nat} {high low : NT} (hh : high.Ok) (hl : low.Ok) : (rot b high low).Ok := by
  cases high with
  | lf c e => exact fr_ok hh hl
  | nd c e k p q =>
    obtain ⟨h1, h2⟩ := nd_ok hh
    unfold rot
    dsimp only
    split
    · exact fr_ok h2 (fr_ok hl h1)
    · exact fr_ok h1 (fr_ok hl h2)
theorem bal_ok {b : Nat} {l r : NT} (hl : l.Ok) (hr : r.Ok) : (bal b l r).Ok := by
  unfold bal
  split
  · exact rot_ok hl hr
  · split
    · exact rot_ok hr hl
    · exact fr_ok hl hr
theorem ins_ok {i k : Nat} {f : En} (hf : vE f = true) {t : NT} (h : t.Ok) : (ins i k f t).Ok := by
  induction t with
  | lf b e => exact fr_ok h ⟨hf, trivial⟩
  | nd b e g l r ihl ihr =>
    obtain ⟨h1, h2⟩ := nd_ok h
    unfold ins
    split
    · exact bal_ok (ihl h1) h2
    · exact bal_ok h1 (ihr h2)
def Sm (t : NT) (n : List Nat) (l : List (Nat × En)) : Prop := t.nos.Perm n ∧ t.lvs.Perm l
theorem fr_sm (b : Nat) (l r : NT) : Sm (fr b l r) (b :: (l.nos ++ r.nos)) (l.lvs ++ r.lvs) := ⟨List.Perm.refl _, List.Perm.refl _⟩
theorem rot_sm (b : Nat) (high low : NT) : Sm (rot b high low) (b :: (high.nos ++ low.nos)) (high.lvs ++ low.lvs) := by
  cases high with
  | lf c e => exact fr_sm _ _ _
  | nd c e k p q =>
    have key : ∀ p q : NT, Sm (fr c p (fr b low q)) (b :: c :: (p.nos ++ q.nos ++ low.nos)) (p.lvs ++ q.lvs ++ low.lvs) := fun p q => by
      refine ⟨?_, ?_⟩
      · show (c :: (p.nos ++ (b :: (low.nos ++ q.nos)))).Perm _
        have h1 : (p.nos ++ (b :: (low.nos ++ q.nos))).Perm (b :: (p.nos ++ (low.nos ++ q.nos))) := List.perm_middle
        have h2 : (p.nos ++ (low.nos ++ q.nos)).Perm (p.nos ++ q.nos ++ low.nos) := by
          rw [List.append_assoc]; exact List.Perm.append_left _ List.perm_append_comm
        exact ((h1.trans (h2.cons b)).cons c).trans (List.Perm.swap b c _)
      · show (p.lvs ++ (low.lvs ++ q.lvs)).Perm _
        rw [List.append_assoc]; exact List.Perm.append_left _ List.perm_append_comm
    unfold rot
    dsimp only
    split
    · have h := key q p
      refine ⟨h.1.trans ?_, h.2.trans ?_⟩
      · exact List.Perm.cons b (List.Perm.cons c (List.Perm.append_right _ List.perm_append_comm))
      · exact List.Perm.append_right _ List.perm_append_comm
    · exact key p q
theorem bal_sm (b : Nat) (l r : NT) : Sm (bal b l r) (b :: (l.nos ++ r.nos)) (l.lvs ++ r.lvs) := by
  unfold bal
  split
  · exact rot_sm _ _ _
  · split
    · have h := rot_sm b r l
      exact ⟨h.1.trans (List.Perm.cons b List.perm_append_comm), h.2.trans List.perm_append_comm⟩
    · exact fr_sm _ _ _
theorem ins_sm (i k : Nat) (f : En) (t : NT) : Sm (ins i k f t) (i :: k :: t.nos) ((k, f) :: t.lvs) := by
  induction t with
  | lf b e => exact ⟨List.Perm.cons i (List.Perm.swap k b []), List.Perm.swap (k, f) (b, e) []⟩
  | nd b e g l r ihl ihr =>
    unfold ins
    split
    · have h := bal_sm b (ins i k f l) r
      refine ⟨h.1.trans ?_, h.2.trans (List.Perm.append_right _ ihl.2)⟩
      have h1 : (b :: ((ins i k f l).nos ++ r.nos)).Perm (b :: i :: k :: (l.nos ++ r.nos)) := (List.Perm.append_right r.nos ihl.1).cons b
      exact h1.trans ((List.Perm.swap i b _).trans ((List.Perm.swap k b _).cons i))
    · have h := bal_sm b l (ins i k f r)
      refine ⟨h.1.trans ?_, h.2.trans ?_⟩
      · have h1 : (b :: (l.nos ++ (ins i k f r).nos)).Perm (b :: (l.nos ++ (i :: k :: r.nos))) := (List.Perm.append_left l.nos ihr.1).cons b
        have h2 : (l.nos ++ (i :: k :: r.nos)).Perm (i :: k :: (l.nos ++ r.nos)) := (List.perm_middle).trans ((List.perm_middle).cons i)
        exact h1.trans ((h2.cons b).trans ((List.Perm.swap i b _).trans ((List.Perm.swap k b _).cons i)))
      · exact (List.Perm.append_left l.lvs ihr.2).trans List.perm_middle
theorem lv_lvs (t : NT) : t.bt.lv = t.lvs.map (·.2) := by
  induction t with
  | lf b e => rfl
  | nd b e h l r ihl ihr => show l.bt.lv ++ r.bt.lv = (l.lvs ++ r.lvs).map (·.2); rw [ihl, ihr, List.map_append]
end NT
end Go.Carom
/-
  How a tree of boxes lies in memory: its nodes' boxes, and the nodes above a subtree. Conditions: none; no program in sight.
-/
namespace Go.Carom
open Go Go.AL
def ndB (e : En) (pa le ri : AV) (h : Int) : ABox := .var (.agg [.i e.x, .i e.y, .i e.u, .i e.w, pa, le, ri, .i h, .i e.id])
namespace NT
def lc : NT → AV
  | .lf _ _ => .sc (.pointer none)
  | .nd _ _ _ l _ => .pt l.b 0
def rc : NT → AV
  | .lf _ _ => .sc (.pointer none)
  | .nd _ _ _ _ r => .pt r.b 0
def top (t : NT) (pa : AV) : ABox := ndB t.e pa t.lc t.rc t.h
def hp : NT → AV → HH
  | .lf b e, pa => [(b, (NT.lf b e).top pa)]
  | .nd b e h l r, pa => (b, (NT.nd b e h l r).top pa) :: (l.hp (.pt b 0) ++ r.hp (.pt b 0))
def kids : NT → HH
  | .lf _ _ => []
  | .nd b _ _ l r => l.hp (.pt b 0) ++ r.hp (.pt b 0)
theorem hp_eq (t : NT) (pa : AV) : t.hp pa = (t.b, t.top pa) :: t.kids := by cases t <;> rfl
theorem hp_nos (t : NT) : ∀ pa, (t.hp pa).map (·.1) = t.nos := by
  induction t with
  | lf b e => exact fun pa => rfl
  | nd b e h l r ihl ihr =>
    intro pa
    show b :: (l.hp (.pt b 0) ++ r.hp (.pt b 0)).map (·.1) = b :: (l.nos ++ r.nos)
    rw [List.map_append, ihl, ihr]
def kns (t : NT) : List Nat := t.kids.map (·.1)
theorem nos_eq (t : NT) : t.nos = t.b :: t.kns := by rw [← hp_nos t .und, hp_eq]; rfl
end NT
structure Fr where
  left : Bool
  b : Nat
  e : En
  h : Int
  sib : NT
def Fr.lc (f : Fr) (c : Nat) : AV := if f.left = true then .pt c 0 else .pt f.sib.b 0
def Fr.rc (f : Fr) (c : Nat) : AV := if f.left = true then .pt f.sib.b 0 else .pt c 0
def Fr.plug (f : Fr) (s : NT) : NT := if f.left = true then .nd f.b f.e f.h s f.sib else .nd f.b f.e f.h f.sib s
def Fr.bal (f : Fr) (s : NT) : NT := if f.left = true then NT.bal f.b s f.sib else NT.bal f.b f.sib s
def plugZ : List Fr → NT → NT
  | [], s => s
  | f :: z, s => plugZ z (f.plug s)
def upZ : List Fr → NT → NT
  | [], s => s
  | f :: z, s => upZ z (f.bal s)
def paZ : List Fr → AV
  | [] => .sc (.pointer none)
  | f :: _ => .pt f.b 0
def rtZ : List Fr → Nat → Nat
  | [], c => c
  | f :: z, _ => rtZ z f.b
def ctx : List Fr → Nat → HH
  | [], _ => []
  | f :: z, c => (f.b, ndB f.e (paZ z) (f.lc c) (f.rc c) f.h) :: (f.sib.hp (.pt f.b 0) ++ ctx z f.b)
def cns : List Fr → List Nat
  | [] => []
  | f :: z => f.b :: (f.sib.nos ++ cns z)
theorem ctx_nos : ∀ (z : List Fr) (c : Nat), (ctx z c).map (·.1) = cns z
  | [], _ => rfl
  | f :: z, c => by
    show f.b :: (f.sib.hp (.pt f.b 0) ++ ctx z f.b).map (·.1) = f.b :: (f.sib.nos ++ cns z)
    rw [List.map_append, NT.hp_nos, ctx_nos z]
def Held (M : Nat → Option ABox) (L : HH) : Prop := ∀ p ∈ L, M p.1 = some p.2
theorem held_nil {M : Nat → Option ABox} : Held M [] := fun p h => by cases h
theorem held_cons {M : Nat → Option ABox} {p : Nat × ABox} {L : HH} : Held M (p :: L) ↔ M p.1 = some p.2 ∧ Held M L := List.forall_mem_cons
theorem held_app {M : Nat → Option ABox} {L K : HH} : Held M (L ++ K) ↔ Held M L ∧ Held M K := List.forall_mem_append
theorem held_hp {M : Nat → Option ABox} {t : NT} {pa : AV} : Held M (t.hp pa) ↔ M t.b = some (t.top pa) ∧ Held M t.kids := by rw [NT.hp_eq]; exact held_cons
theorem Held.upd {M : Nat → Option ABox} {L : HH} (h : Held M L) {wb : HH} (hd : ∀ b ∈ L.map (·.1), b ∉ wb.map (·.1)) : Held (updL M wb) L := fun p hp => by
  rw [updL_other wb M p.1 (hd p.1 (List.mem_map.2 ⟨p, hp, rfl⟩))]
  exact h p hp
theorem upd_at {M : Nat → Option ABox} {wb : HH} {b : Nat} {x : ABox} (hk' : keysOk wb = true) (h : hk wb b = some x) : updL M wb b = some x := by
  rw [updL_hk wb M b hk' (List.mem_map.2 ⟨_, hk_mem wb b x h, rfl⟩)]; exact h
theorem held_hk : ∀ {L : HH}, (L.map (·.1)).Nodup → Held (hk L) L
  | [], _ => held_nil
  | (b, x) :: r, h => by
    rw [List.map_cons, List.nodup_cons] at h
    refine held_cons.2 ⟨by show hk ((b, x) :: r) b = some x; rw [hk_cons, if_pos rfl], fun p hp => ?_⟩
    have hne : p.1 ≠ b := fun e => h.1 (e ▸ List.mem_map.2 ⟨p, hp, rfl⟩)
    rw [hk_cons, if_neg hne]
    exact held_hk h.2 p hp
end Go.Carom
/-
  How a tree of boxes lies in memory, second part: what is known while a path is mended. Conditions: none; no program in sight.
-/
namespace Go.Carom
open Go Go.AL
theorem fr_hok {b : Nat} {l r : NT} (hl : l.Hok) (hr : r.Hok) : (NT.fr b l r).Hok := ⟨NT.uni_id _ _, rfl, hl, hr⟩
theorem rot_hok {b : Nat} {high low : NT} (hh : high.Hok) (hl : low.Hok) : (NT.rot b high low).Hok := by
  cases high with
  | lf c e => exact fr_hok hh hl
  | nd c e k p q =>
    obtain ⟨_, _, h1, h2⟩ := hh
    unfold NT.rot
    dsimp only
    split
    · exact fr_hok h2 (fr_hok hl h1)
    · exact fr_hok h1 (fr_hok hl h2)
theorem bal_hok {b : Nat} {l r : NT} (hl : l.Hok) (hr : r.Hok) : (NT.bal b l r).Hok := by
  unfold NT.bal
  split
  · exact rot_hok hl hr
  · split
    · exact rot_hok hr hl
    · exact fr_hok hl hr
theorem Fr.bal_nos (f : Fr) (s : NT) : (f.bal s).nos.Perm (f.b :: (s.nos ++ f.sib.nos)) := by
  unfold Fr.bal
  split
  · exact (NT.bal_sm _ _ _).1
  · exact (NT.bal_sm _ _ _).1.trans (List.Perm.cons _ List.perm_append_comm)
theorem up_nos : ∀ (z : List Fr) (s : NT), (upZ z s).nos.Perm (s.nos ++ cns z)
  | [], s => by rw [show cns [] = [] from rfl, List.append_nil]; exact List.Perm.refl _
  | f :: z, s => by
    have h1 := up_nos z (f.bal s)
    have h2 := f.bal_nos s
    refine h1.trans ((List.Perm.append_right _ h2).trans ?_)
    show (f.b :: (s.nos ++ f.sib.nos) ++ cns z).Perm (s.nos ++ (f.b :: (f.sib.nos ++ cns z)))
    rw [List.cons_append, List.append_assoc]
    exact List.perm_middle.symm
def bigH (bt bm : Nat) (z : List Fr) (s : NT) : HH := (bt, .var (.agg [.pt (rtZ z s.b) 0, .mp bm])) :: (s.hp (paZ z) ++ ctx z s.b)
theorem big_keys (bt bm : Nat) (z : List Fr) (s : NT) : (bigH bt bm z s).map (·.1) = bt :: (s.nos ++ cns z) := by
  unfold bigH
  rw [List.map_cons, List.map_append, NT.hp_nos, ctx_nos]
structure ZI (nx bt : Nat) (z : List Fr) (s : NT) : Prop where
  nd : (bt :: (s.nos ++ cns z)).Nodup
  lt : ∀ k ∈ (bt :: (s.nos ++ cns z)), k < nx
  sz : (s.nos ++ cns z).length ≤ 200
  hs : s.Hok
  hz : ∀ f ∈ z, f.e.id = 0 ∧ f.sib.Hok
theorem keys_nodup : ∀ {L : HH}, (L.map (·.1)).Nodup → keysOk L = true
  | [], _ => rfl
  | (k, x) :: r, h => by
    rw [List.map_cons, List.nodup_cons] at h
    simp only [keysOk, Bool.and_eq_true, Bool.not_eq_true', List.contains_eq_mem, decide_eq_false_iff_not]
    exact ⟨h.1, keys_nodup h.2⟩
theorem hbs_app {n : Nat} {L K : HH} (h : HBs n L) (h' : HBs n K) : HBs n (L ++ K) := by
  induction h with
  | nil => exact h'
  | cons hb hx _ ih => exact .cons hb hx ih
theorem lt_ndB {n : Nat} {e : En} {pa le ri : AV} {h : Int} (h1 : Lt n pa) (h2 : Lt n le) (h3 : Lt n ri) : BOk n (ndB e pa le ri h) :=
  .var (lt_agg (lt_cons (lt_i _ _) (lt_cons (lt_i _ _) (lt_cons (lt_i _ _) (lt_cons (lt_i _ _) (lt_cons h1 (lt_cons h2 (lt_cons h3 (lt_cons (lt_i _ _) (lt_cons (lt_i _ _) lt_nil))))))))))
theorem nos_top (t : NT) : t.b ∈ t.nos := by rw [NT.nos_eq]; exact List.mem_cons_self
theorem hbs_hp {n : Nat} (t : NT) : ∀ {pa : AV}, (∀ k ∈ t.nos, k < n) → Lt n pa → HBs n (t.hp pa) := by
  induction t with
  | lf b e => exact fun h hp => .cons (h b List.mem_cons_self) (lt_ndB hp (Lt.sc _) (Lt.sc _)) .nil
  | nd b e h l r ihl ihr =>
    intro pa hk hp
    have hb : b < n := hk b List.mem_cons_self
    have hl : ∀ k ∈ l.nos, k < n := fun k h => hk k (List.mem_cons_of_mem _ (List.mem_append_left _ h))
    have hr : ∀ k ∈ r.nos, k < n := fun k h => hk k (List.mem_cons_of_mem _ (List.mem_append_right _ h))
    exact .cons hb (lt_ndB hp (Lt.pt _ _ (hl _ (nos_top l))) (Lt.pt _ _ (hr _ (nos_top r)))) (hbs_app (ihl hl (Lt.pt _ _ hb)) (ihr hr (Lt.pt _ _ hb)))
theorem pa_lt' {n : Nat} {z : List Fr} (h : ∀ k ∈ cns z, k < n) : Lt n (paZ z) := by
  cases z with
  | nil => exact Lt.sc _
  | cons f z => exact Lt.pt _ _ (h _ (by show f.b ∈ f.b :: _; simp))
theorem hbs_ctx {n : Nat} : ∀ (z : List Fr) {c : Nat}, (∀ k ∈ cns z, k < n) → c < n → HBs n (ctx z c)
  | [], _, _, _ => .nil
  | f :: z, c, h, hc => by
    have hb : f.b < n := h _ List.mem_cons_self
    have hs : ∀ k ∈ f.sib.nos, k < n := fun k hk => h k (List.mem_cons_of_mem _ (List.mem_append_left _ hk))
    have hz : ∀ k ∈ cns z, k < n := fun k hk => h k (List.mem_cons_of_mem _ (List.mem_append_right _ hk))
    have h1 : Lt n (f.lc c) ∧ Lt n (f.rc c) := by
      unfold Fr.lc Fr.rc
      split
      · exact ⟨Lt.pt _ _ hc, Lt.pt _ _ (hs _ (nos_top _))⟩
      · exact ⟨Lt.pt _ _ (hs _ (nos_top _)), Lt.pt _ _ hc⟩
    exact .cons hb (lt_ndB (pa_lt' hz) h1.1 h1.2) (hbs_app (hbs_hp _ hs (Lt.pt _ _ hb)) (hbs_ctx z hz hb))
theorem rt_lt {n : Nat} : ∀ (z : List Fr) {c : Nat}, (∀ k ∈ cns z, k < n) → c < n → rtZ z c < n
  | [], _, _, hc => hc
  | f :: z, _, h, _ => rt_lt z (fun k hk => h k (List.mem_cons_of_mem _ (List.mem_append_right _ hk))) (h _ List.mem_cons_self)
theorem ZI.hbs {nx bt bm : Nat} {z : List Fr} {s : NT} (I : ZI nx bt z s) (q_bm : bm < nx) : HBs nx (bigH bt bm z s) := by
  have hb := I.lt bt List.mem_cons_self
  have hs : ∀ k ∈ s.nos, k < nx := fun k hk => I.lt k (List.mem_cons_of_mem _ (List.mem_append_left _ hk))
  have hz : ∀ k ∈ cns z, k < nx := fun k hk => I.lt k (List.mem_cons_of_mem _ (List.mem_append_right _ hk))
  exact .cons hb (.var (lt_agg (lt_cons (Lt.pt _ _ (rt_lt z hz (hs _ (nos_top s)))) (lt_cons (Lt.mp _ q_bm) lt_nil)))) (hbs_app (hbs_hp _ hs (pa_lt' hz)) (hbs_ctx z hz (hs _ (nos_top s))))
theorem ZI.up {nx bt : Nat} {z : List Fr} {s : NT} (I : ZI nx bt z s) : (bt :: (upZ z s).nos).Nodup ∧ ∀ k ∈ (bt :: (upZ z s).nos), k < nx := by
  have hp : (bt :: (upZ z s).nos).Perm (bt :: (s.nos ++ cns z)) := (up_nos z s).cons bt
  exact ⟨hp.nodup_iff.2 I.nd, fun k hk => I.lt k (hp.mem_iff.1 hk)⟩
theorem hwk_held {H : HH} {n : Nat} : ∀ {L : HH}, Held (hk H) L → HBs n L → HWk H n L
  | [], _, _ => trivial
  | (b, x) :: r, h, hb => by
    cases hb with
    | cons h1 hx hr =>
      have h2 := held_cons.1 h
      refine ⟨⟨h1, ⟨x, h2.1, bwk_rfl⟩, ?_⟩, hwk_held h2.2 hr⟩
      cases hx with
      | var hv => exact hv
      | nl => trivial
      | ob => trivial
      | mq hv => exact hv
      | row hv => exact hv
end Go.Carom
/-
  The reference's pairs are those of the sweep; the entries that a tree holds while it grows. Conditions: none; no program in sight.
-/
namespace Go.Carom
open Go Go.AL
def rpK (F : List En) (a : En) (acc : List P2) : Nat → List P2
  | 0 => acc
  | k + 1 => if ovE a (F.getD k En.o) then insD p2l (mkP a (F.getD k En.o)) (rpK F a acc k) else rpK F a acc k
def rpI (F : List En) : Nat → List P2
  | 0 => []
  | i + 1 => rpK F (F.getD i En.o) (rpI F i) i
theorem rpK_zero (F : List En) (a : En) (acc : List P2) : rpK F a acc 0 = acc := rfl
theorem rpK_yes {F : List En} {a : En} {acc : List P2} {k : Nat} (h : ovE a (F.getD k En.o) = true) : rpK F a acc (k + 1) = insD p2l (mkP a (F.getD k En.o)) (rpK F a acc k) := by
  show (if _ then _ else _) = _; rw [if_pos h]
theorem rpK_no {F : List En} {a : En} {acc : List P2} {k : Nat} (h : ovE a (F.getD k En.o) = false) : rpK F a acc (k + 1) = rpK F a acc k := by
  show (if _ then _ else _) = _; rw [if_neg (by rw [h]; decide)]
theorem rpI_next (F : List En) (i : Nat) : rpI F (i + 1) = rpK F (F.getD i En.o) (rpI F i) i := rfl
theorem insD_len {α : Type} [DecidableEq α] (lt : α → α → Bool) (x : α) (l : List α) : (insD lt x l).length ≤ l.length + 1 := by
  unfold insD
  split
  · omega
  · rw [insS_len]; omega
theorem rpK_len (F : List En) (a : En) (acc : List P2) : ∀ k, (rpK F a acc k).length ≤ acc.length + k
  | 0 => Nat.le_refl _
  | k + 1 => by
    have h := rpK_len F a acc k
    show (if _ then _ else _ : List P2).length ≤ _
    split
    · exact Nat.le_trans (insD_len _ _ _) (by omega)
    · omega
theorem rpI_len (F : List En) : ∀ i, i ≤ F.length → (rpI F i).length ≤ i * F.length
  | 0, _ => by simp [rpI]
  | i + 1, h => by
    have h1 := rpI_len F i (by omega)
    have h2 := rpK_len F (F.getD i En.o) (rpI F i) i
    rw [rpI_next, Nat.succ_mul]; omega
theorem rp_bd {F : List En} {i k : Nat} (hi : i < F.length) (hk : k ≤ i) (hF : F.length ≤ 1000) : (rpK F (F.getD i En.o) (rpI F i) k).length ≤ 1000000 := by
  have h1 := rpI_len F i (by omega)
  have h2 := rpK_len F (F.getD i En.o) (rpI F i) k
  have h3 : (i + 1) * F.length ≤ 1000 * 1000 := Nat.mul_le_mul (by omega) hF
  rw [Nat.succ_mul] at h3
  omega
theorem rpK_ok {F : List En} {a : En} {acc : List P2} (h : SS p2l acc) : ∀ k, SS p2l (rpK F a acc k) ∧ ∀ p, p ∈ rpK F a acc k ↔ p ∈ acc ∨ ∃ j, j < k ∧ ovE a (F.getD j En.o) = true ∧ p = mkP a (F.getD j En.o)
  | 0 => ⟨h, fun p => ⟨.inl, fun h => h.elim id fun ⟨j, hj, _⟩ => absurd hj (Nat.not_lt_zero _)⟩⟩
  | k + 1 => by
    obtain ⟨h1, h2⟩ := rpK_ok h k
    cases ho : ovE a (F.getD k En.o) with
    | true =>
      rw [rpK_yes ho]
      refine ⟨SS.insD p2l_STO h1, fun p => ?_⟩
      rw [mem_insD p2l_STO h1, h2]
      constructor
      · rintro (rfl | h | ⟨j, hj, h⟩)
        · exact .inr ⟨k, Nat.lt_succ_self k, ho, rfl⟩
        · exact .inl h
        · exact .inr ⟨j, by omega, h⟩
      · rintro (h | ⟨j, hj, h, e⟩)
        · exact .inr (.inl h)
        · rcases Nat.lt_or_ge j k with g | g
          · exact .inr (.inr ⟨j, g, h, e⟩)
          · have : j = k := by omega
            subst this; exact .inl e
    | false =>
      rw [rpK_no ho]
      refine ⟨h1, fun p => ?_⟩
      rw [h2]
      constructor
      · rintro (h | ⟨j, hj, h⟩)
        · exact .inl h
        · exact .inr ⟨j, by omega, h⟩
      · rintro (h | ⟨j, hj, h, e⟩)
        · exact .inl h
        · rcases Nat.lt_or_ge j k with g | g
          · exact .inr ⟨j, g, h, e⟩
          · have : j = k := by omega
            subst this; rw [ho] at h; cases h
theorem rpI_ok (F : List En) : ∀ i, SS p2l (rpI F i) ∧ ∀ p, p ∈ rpI F i ↔ ∃ a j, a < i ∧ j < a ∧ ovE (F.getD a En.o) (F.getD j En.o) = true ∧ p = mkP (F.getD a En.o) (F.getD j En.o)
  | 0 => ⟨List.Pairwise.nil, fun p => ⟨fun h => (by cases h), fun h => (by obtain ⟨a, _, h, _⟩ := h; exact absurd h (Nat.not_lt_zero _))⟩⟩
  | i + 1 => by
    obtain ⟨h1, h2⟩ := rpI_ok F i
    obtain ⟨h3, h4⟩ := rpK_ok (F := F) (a := F.getD i En.o) h1 i
    refine ⟨h3, fun p => ?_⟩
    show p ∈ rpK F (F.getD i En.o) (rpI F i) i ↔ _
    rw [h4, h2]
    constructor
    · rintro (⟨a, j, g1, g2⟩ | ⟨j, g1, g2⟩)
      · exact ⟨a, j, by omega, g2⟩
      · exact ⟨i, j, Nat.lt_succ_self i, g1, g2⟩
    · rintro ⟨a, j, g1, g2⟩
      rcases Nat.lt_or_ge a i with g | g
      · exact .inl ⟨a, j, g, g2⟩
      · have : a = i := by omega
        subst this; exact .inr ⟨j, g2⟩
theorem fltI_v (l : List En) : ∀ i, i ≤ l.length → ∀ x ∈ fltI l i, vE x = true
  | 0, _ => fun x h => by simp [fltI] at h
  | i + 1, hi => fun x h => by
    rw [fltI_next l i (by omega)] at h
    unfold addE at h
    split at h
    · rename_i hn
      rcases List.mem_append.1 h with h | h
      · exact fltI_v l i (by omega) x h
      · rw [List.mem_singleton.1 h]
        unfold newE at hn
        exact (Bool.and_eq_true _ _ ▸ hn).1
    · exact fltI_v l i (by omega) x h
theorem flt_v (l : List En) : ∀ x ∈ flt l, vE x = true := by rw [← fltI_all]; exact fltI_v l l.length (Nat.le_refl _)
theorem pairs_flt (l : List En) : pairsE l = pairsE (flt l) := by
  have hfd := flt_dist l
  have hs : sortE (flt l) = sortE l := by
    refine SS.ext' enl_SO (sortE_SS (flt l)).1 (sortE_SS l).1 fun x => ?_
    rw [mem_sortE hfd, (sortE_SS l).2]
    exact ⟨fun h => h.1, fun h => ⟨h, flt_v l x h⟩⟩
  unfold pairsE; rw [hs]
theorem dist_at {l : List En} (hd : DistE l) {i j : Nat} (hj : j < i) (hi : i < l.length) : (l.getD i En.o).id ≠ (l.getD j En.o).id := by
  have h := List.pairwise_iff_getElem.1 hd j i (by omega) hi hj
  rw [List.getD_eq_getElem?_getD, List.getD_eq_getElem?_getD, List.getElem?_eq_getElem hi, List.getElem?_eq_getElem (show j < l.length by omega)]
  exact Ne.symm h
theorem ref_pairs (l : List En) : rpI (flt l) (flt l).length = pairsE l := by
  have hfd := flt_dist l
  rw [pairs_flt]
  generalize flt l = F at hfd
  obtain ⟨h1, h2⟩ := rpI_ok F F.length
  refine SS.ext p2l_STO h1 (pairsE_SS F).1 fun p => ?_
  rw [h2, mem_pairsE hfd]
  constructor
  · rintro ⟨a, j, g1, g2, g3, rfl⟩
    have hne := dist_at hfd g2 g1
    have ma : F.getD a En.o ∈ F := getD_mem g1
    have mj : F.getD j En.o ∈ F := getD_mem (show j < F.length by omega)
    generalize F.getD a En.o = x at *
    generalize F.getD j En.o = y at *
    unfold mkP
    dsimp only
    by_cases hlt : y.id < x.id
    · rw [if_pos hlt, if_neg (by omega)]
      exact ⟨hlt, y, mj, x, ma, rfl, rfl, by rw [ovE_sym]; exact g3⟩
    · rw [if_neg hlt, if_pos (by omega)]
      exact ⟨by omega, x, ma, y, mj, rfl, rfl, g3⟩
  · rintro ⟨g1, a, ha, b, hb, e1, e2, g3⟩
    obtain ⟨i, hi, hia⟩ := List.mem_iff_getElem.1 ha
    obtain ⟨j, hj, hjb⟩ := List.mem_iff_getElem.1 hb
    have hia' : F.getD i En.o = a := by rw [List.getD_eq_getElem?_getD, List.getElem?_eq_getElem hi]; exact hia
    have hjb' : F.getD j En.o = b := by rw [List.getD_eq_getElem?_getD, List.getElem?_eq_getElem hj]; exact hjb
    have hij : i ≠ j := fun h => by subst h; rw [hia'] at hjb'; rw [hjb'] at e1; omega
    rcases Nat.lt_or_gt_of_ne hij with h | h
    · refine ⟨j, i, hj, h, by rw [hia', hjb', ovE_sym]; exact g3, ?_⟩
      rw [hia', hjb']
      unfold mkP
      rw [if_pos (by omega), if_neg (by omega), e1, e2]
    · refine ⟨i, j, hi, h, by rw [hia', hjb']; exact g3, ?_⟩
      rw [hia', hjb']
      unfold mkP
      rw [if_neg (by omega), if_pos (by omega), e1, e2]
end Go.Carom
