/-
  The reference of chapter 39 finds what the program finds. Conditions: none; no program in sight.
-/
import Derived.Test.YtgjmmipabpocdaaGreatM40
set_option linter.all false
namespace Go.Carom
open Go Go.AL

def tx (was now o : Bd) (p q : Fx) : Bool × Int := ((tI was now o p q).2, (tI was now o p q).1)
/-- the times of impact of fixture p with the fixtures of l. -/
def xl (was now o : Bd) (p : Fx) (l : List Fx) : List (Bool × Int) := ((solid l).filter (shd p)).map (tx was now o p)
def impL (was now o : Bd) (P : List Fx) : List (Bool × Int) := (solid P).flatMap fun p => xl was now o p o.fs
theorem minI_T (was now o : Bd) (p : Fx) (a : Int) (q : Fx) : minI was now o p a q = if shd p q then minT a (tx was now o p q) else a := by
  unfold minI minT okT tx imin
  cases shd p q with
  | false => rfl
  | true => simp only [Bool.true_and, if_true]
theorem xl_min (was now o : Bd) (p : Fx) (l : List Fx) (a : Int) : (solid l).foldl (minI was now o p) a = (xl was now o p l).foldl minT a := by
  unfold xl
  rw [List.foldl_map, List.foldl_filter]
  congr 1
  funext a q
  exact minI_T was now o p a q
theorem foldl_flat {α β γ : Type} (f : γ → β → γ) (g : α → List β) (l : List α) (a : γ) : (l.flatMap g).foldl f a = l.foldl (fun a x => (g x).foldl f a) a := by
  induction l generalizing a with
  | nil => rfl
  | cons x l ih => rw [List.flatMap_cons, List.foldl_append, ih]; rfl
theorem impW_L (was now o : Bd) : impW was now o = (impL was now o now.fs).foldl minT 65536 := by
  unfold impW impL
  rw [foldl_flat]
  congr 1
  funext a p
  exact xl_min was now o p o.fs a
theorem minT_imin (a b : Int) (x : Bool × Int) : minT (imin a b) x = imin a (minT b x) := by
  unfold minT imin
  split
  · split <;> split <;> (try split) <;> omega
  · rfl
theorem fold_imin (a b : Int) (l : List (Bool × Int)) : l.foldl minT (imin a b) = imin a (l.foldl minT b) := by
  induction l generalizing b with
  | nil => rfl
  | cons x l ih => rw [List.foldl_cons, minT_imin, ih]; rfl
theorem minT_le (a : Int) (x : Bool × Int) : minT a x ≤ a := by
  unfold minT; split
  · split <;> omega
  · omega
theorem fold_le (a : Int) (l : List (Bool × Int)) : l.foldl minT a ≤ a := by
  induction l generalizing a with
  | nil => exact Int.le_refl _
  | cons x l ih => exact Int.le_trans (ih _) (minT_le a x)
theorem fold_from (a : Int) (h : a ≤ 65536) (l : List (Bool × Int)) : l.foldl minT a = imin a (l.foldl minT 65536) := by
  rw [← fold_imin]; congr 1; unfold imin; split <;> omega
def kL (was now : List Bd) (js : List Jt) (i k : Nat) : List (Bool × Int) :=
  if k = i ∨ conn js (now.getD i Bd.o).id (now.getD k Bd.o).id = true then [] else impL (was.getD i Bd.o) (now.getD i Bd.o) (now.getD k Bd.o) (now.getD i Bd.o).fs
def bigL (was now : List Bd) (js : List Jt) (i n : Nat) : List (Bool × Int) := (List.range n).flatMap (kL was now js i)
theorem bigL_next (was now : List Bd) (js : List Jt) (i n : Nat) : bigL was now js i (n + 1) = bigL was now js i n ++ kL was now js i n := by
  unfold bigL; rw [List.range_succ, List.flatMap_append]; simp
theorem accK_L (was now : List Bd) (js : List Jt) (i n : Nat) : accK was now js i n = (bigL was now js i n).foldl minT 65536 := by
  induction n with
  | zero => rfl
  | succ n ih =>
    rw [accK_next, bigL_next, List.foldl_append, ← ih]
    unfold minK kL
    split
    · rfl
    · rw [impW_L]
      exact (fold_from _ (by rw [ih]; exact fold_le _ _) _).symm
/-- the reference's turn over fixture q. -/
def refQ (was now o : Bd) (p : Fx) (s : Int × Bool) (q : Fx) : Int × Bool := if (q.sen || !shd p q) = true then s else refT s (tx was now o p q)
theorem refQ_L (was now o : Bd) (p : Fx) (l : List Fx) (s : Int × Bool) : l.foldl (refQ was now o p) s = (xl was now o p l).foldl refT s := by
  unfold xl solid
  rw [List.foldl_map, List.foldl_filter, List.foldl_filter]
  congr 1
  funext s q
  unfold refQ
  cases q.sen <;> cases shd p q <;> rfl
def refP (was now o : Bd) (s : Int × Bool) (p : Fx) : Int × Bool := if p.sen then s else o.fs.foldl (refQ was now o p) s
theorem refP_L (was now o : Bd) (l : List Fx) (s : Int × Bool) : l.foldl (refP was now o) s = (impL was now o l).foldl refT s := by
  unfold impL
  rw [foldl_flat]
  unfold solid
  rw [List.foldl_filter]
  congr 1
  funext s p
  unfold refP
  cases p.sen with
  | true => rfl
  | false => exact refQ_L was now o p o.fs s
def refK (was now : List Bd) (js : List Jt) (i : Nat) (s : Int × Bool) (k : Nat) : Int × Bool :=
  if k = i ∨ conn js (now.getD i Bd.o).id (now.getD k Bd.o).id = true then s else (now.getD i Bd.o).fs.foldl (refP (was.getD i Bd.o) (now.getD i Bd.o) (now.getD k Bd.o)) s
def refA (was now : List Bd) (js : List Jt) (i n : Nat) : Int × Bool := (List.range n).foldl (refK was now js i) (0, false)
theorem refA_next (was now : List Bd) (js : List Jt) (i n : Nat) : refA was now js i (n + 1) = refK was now js i (refA was now js i n) n := by
  unfold refA; rw [List.range_succ, List.foldl_append]; rfl
theorem refA_L (was now : List Bd) (js : List Jt) (i n : Nat) : refA was now js i n = (bigL was now js i n).foldl refT (0, false) := by
  induction n with
  | zero => rfl
  | succ n ih =>
    rw [refA_next, bigL_next, List.foldl_append, ← ih]
    unfold refK kL
    split
    · rfl
    · exact refP_L _ _ _ _ _
theorem refA_fst (was now : List Bd) (js : List Jt) (i n : Nat) : TInv (accK was now js i n) (refA was now js i n) := by
  rw [accK_L, refA_L]; exact TInv.start.fold _
/-- the reference's first impact is the program's. -/
theorem ref_fst {was now : List Bd} {js : List Jt} {m : Nat} (h : was.length = now.length) (hm : m < now.length) (hb : bullet (now.getD m Bd.o) = true) : refA was now js m now.length = fstI was now js m := by
  have h1 := (refA_fst was now js m now.length).fin
  have hfk : fstK was now js m = accK was now js m now.length := rfl
  unfold fstI
  rw [Int.toNat_natCast, hfk]
  by_cases hk : accK was now js m now.length = 65536
  · rw [if_pos hk] at h1
    rw [if_neg (fun q => q.2.2.2.2 hk), h1]
  · rw [if_neg hk] at h1
    rw [if_pos ⟨h, by omega, by omega, hb, hk⟩, h1]
theorem fst_bd {was now : List Bd} {js : List Jt} {i : Int} (h : (fstI was now js i).2 = true) : 0 < (fstI was now js i).1 ∧ (fstI was now js i).1 < 65536 := by
  obtain ⟨h1, h2, h3, h4⟩ := fst_in h
  obtain ⟨m, rfl⟩ : ∃ m : Nat, i = m := ⟨i.toNat, by omega⟩
  rw [Int.toNat_natCast] at h4
  have e := ref_fst (js := js) h1 (by omega) h4
  rw [← e] at h ⊢
  exact ((refA_fst was now js m now.length).1 h).2
def accRQ (was now o : Bd) (p : Fx) (Q : List Fx) (s : Int × Bool) (j : Nat) : Int × Bool := (Q.take j).foldl (refQ was now o p) s
theorem accRQ_next (was now o : Bd) (p : Fx) (Q : List Fx) (s : Int × Bool) (j : Nat) (h : j < Q.length) : accRQ was now o p Q s (j + 1) = refQ was now o p (accRQ was now o p Q s j) (Q.getD j Fx.o) := foldl_take _ _ _ _ _ h
theorem accRQ_all (was now o : Bd) (p : Fx) (Q : List Fx) (s : Int × Bool) : accRQ was now o p Q s Q.length = Q.foldl (refQ was now o p) s := by unfold accRQ; rw [List.take_length]
def accRP (was now o : Bd) (P : List Fx) (s : Int × Bool) (j : Nat) : Int × Bool := (P.take j).foldl (refP was now o) s
theorem accRP_next (was now o : Bd) (P : List Fx) (s : Int × Bool) (j : Nat) (h : j < P.length) : accRP was now o P s (j + 1) = refP was now o (accRP was now o P s j) (P.getD j Fx.o) := foldl_take _ _ _ _ _ h
theorem accRP_all (was now o : Bd) (P : List Fx) (s : Int × Bool) : accRP was now o P s P.length = P.foldl (refP was now o) s := by unfold accRP; rw [List.take_length]
theorem rjcon (a b : Int) (x : Jt) : (!x.cc && (decide (x.ba = a) && decide (x.bb = b) || decide (x.ba = b) && decide (x.bb = a))) = jcon a b x := by
  rw [jcon_eq, Bool.eq_iff_iff]
  simp only [Bool.and_eq_true, Bool.or_eq_true, decide_eq_true_eq]
  constructor
  · rintro ⟨h, h2⟩; refine ⟨h, ?_⟩; rcases h2 with ⟨h3, h4⟩ | ⟨h3, h4⟩
    · exact .inl ⟨h3.symm, h4.symm⟩
    · exact .inr ⟨h4.symm, h3.symm⟩
  · rintro ⟨h, h2⟩; refine ⟨h, ?_⟩; rcases h2 with ⟨h3, h4⟩ | ⟨h3, h4⟩
    · exact .inl ⟨h3.symm, h4.symm⟩
    · exact .inr ⟨h4.symm, h3.symm⟩
theorem conn_all (js : List Jt) (a b : Int) : conn js a b = !((List.range js.length).all fun i => !jcon a b (js.getD i Jt.o)) := by
  unfold conn
  rw [← any_range Jt.o (jcon a b) js, List.any_eq_not_all_not]
end Go.Carom
