/-
  The abstract logic: equality of structs of integers and bools. Conditions: none; the types by closed checks.
-/
import Derived.Test.YtehlfgikcipdaaaAl8
import Derived.Laws.StructEq
set_option linter.all false
namespace Go.AL
open Go.RowKit

def eqF (P : Program) (f : TypeId → Option (List (Option IntKind))) : List Field → Nat → Option (List (Option IntKind))
  | [], _ => some []
  | fd :: fs, off => if fd.offset = off ∧ fd.name ≠ "_" then match f fd.type, tyI P fd.type with
      | some ks, some (n, ag) => if ks.length = n ∧ 0 < n ∧ (ag = false → n = 1) then (eqF P f fs (off + n)).map (ks ++ ·) else none
      | _, _ => none
    else none
/-- the kinds of the cells that '==' compares. -/
def eqI (P : Program) : Nat → TypeId → Option (List (Option IntKind))
  | 0, _ => none
  | n + 1, t => match P.underlying t with
    | some .bool => some [none]
    | some (.int k) => some [some k]
    | some (.struct fs) => if P.stoodInHeld t = false then eqF P (eqI P n) fs.toList 0 else none
    | _ => none

def formV (ag : Bool) (cs : List Value) : Value := if ag then .agg cs.toArray else cs.getD 0 undef

theorem veqs_append : ∀ (a b c d : List Value), a.length = b.length → veqs (a ++ c) (b ++ d) = (veqs a b && veqs c d)
  | [], [], c, d, _ => by simp [veqs]
  | x :: a, y :: b, c, d, h => by simp [veqs, veqs_append a b c d (by simpa using h), Bool.and_assoc]
  | [], _ :: _, _, _, h => by cases h
  | _ :: _, [], _, _, h => by cases h

theorem kind_int {v : Value} {k : IntKind} (h : kindOf v = some (some k)) : ∃ n, v = .int k n := by
  unfold kindOf at h; split at h <;> simp_all
theorem kind_bool {v : Value} (h : kindOf v = some none) : ∃ b, v = .bool b := by
  unfold kindOf at h; split at h <;> simp_all

theorem eqFields_run {P : Program} {d : Nat} {xs ys : Array Value} (f : TypeId → Option (List (Option IntKind)))
    (hf : ∀ t ks, f t = some ks → ∀ (w : World) (xs ys : List Value), xs.map kindOf = ks.map some → ys.map kindOf = ks.map some →
      (Op.equalIn d t (formV (aggB P t) xs) (formV (aggB P t) ys)).run P w = .ok (veqs xs ys) w) :
    ∀ (fs : List Field) (off : Nat) (ks : List (Option IntKind)), eqF P f fs off = some ks → ∀ w : World,
      ((xs.toList.drop off).take ks.length).map kindOf = ks.map some → ((ys.toList.drop off).take ks.length).map kindOf = ks.map some →
      (Op.eqFields d xs ys fs).run P w = .ok (veqs ((xs.toList.drop off).take ks.length) ((ys.toList.drop off).take ks.length)) w
  | [], off, ks, h, w, _, _ => by simp [eqF] at h; subst h; simp [Op.eqFields, veqs]
  | fd :: fs, off, ks, h, w, hx, hy => by
    unfold eqF at h
    split at h
    · rename_i ho
      split at h
      · rename_i k1 n ag h1 h2
        split at h
        · rename_i hn
          obtain ⟨k2, h3, rfl⟩ := Option.map_eq_some_iff.1 h
          obtain ⟨hn1, hn0, hn2⟩ := hn
          have hxl := congrArg List.length hx
          have hyl := congrArg List.length hy
          simp only [List.length_map, List.length_take, List.length_drop, Array.length_toList, List.length_append] at hxl hyl
          have ex : (xs.toList.drop off).take (k1 ++ k2).length = (xs.toList.drop off).take n ++ (xs.toList.drop (off + n)).take k2.length := by
            rw [List.length_append, hn1, List.take_add, List.drop_drop]
          have ey : (ys.toList.drop off).take (k1 ++ k2).length = (ys.toList.drop off).take n ++ (ys.toList.drop (off + n)).take k2.length := by
            rw [List.length_append, hn1, List.take_add, List.drop_drop]
          rw [ex, List.map_append, List.map_append] at hx
          rw [ey, List.map_append, List.map_append] at hy
          have hxn : ((xs.toList.drop off).take n).length = n := by simp; omega
          have hyn : ((ys.toList.drop off).take n).length = n := by simp; omega
          obtain ⟨hx1, hx2⟩ := List.append_inj hx (by simp only [List.length_map]; rw [hxn, hn1])
          obtain ⟨hy1, hy2⟩ := List.append_inj hy (by simp only [List.length_map]; rw [hyn, hn1])
          have hag : aggB P fd.type = ag := by
            obtain ⟨i, dd, _, _, _, h4⟩ := tyI_some h2
            exact h4
          have px := run_part h2 hn2 w xs (off := off) (by omega)
          have py := run_part h2 hn2 w ys (off := off) (by omega)
          have fx : (if ag then Value.agg (xs.extract off (off + n)) else xs.getD off undef) = formV (aggB P fd.type) ((xs.toList.drop off).take n) := by
            rw [hag]
            unfold formV
            cases ag with
            | true => simp only [if_true]; congr 1; apply Array.ext'; simp [List.extract_eq_take_drop]
            | false =>
              have := hn2 rfl
              subst this
              simp [List.getD_eq_getElem?_getD, Array.getD_eq_getD_getElem?]
          have fy : (if ag then Value.agg (ys.extract off (off + n)) else ys.getD off undef) = formV (aggB P fd.type) ((ys.toList.drop off).take n) := by
            rw [hag]
            unfold formV
            cases ag with
            | true => simp only [if_true]; congr 1; apply Array.ext'; simp [List.extract_eq_take_drop]
            | false =>
              have := hn2 rfl
              subst this
              simp [List.getD_eq_getElem?_getD, Array.getD_eq_getD_getElem?]
          have he := hf fd.type k1 h1 w _ _ hx1 hy1
          have hr := eqFields_run f hf fs (off + n) k2 h3 w hx2 hy2
          rw [ex, ey, veqs_append _ _ _ _ (by rw [hxn, hyn])]
          simp only [Op.eqFields, if_pos ho.2, ho.1, Sem.run_bind, px, py, fx, fy, Result.andThen_ok, he]
          cases hv : veqs ((xs.toList.drop off).take n) ((ys.toList.drop off).take n) with
          | true => simp only [Bool.not_true, Bool.false_eq_true, if_false, Bool.true_and]; exact hr
          | false => simp
        · cases h
      · cases h
    · cases h

theorem eq_run {P : Program} : ∀ (n : Nat) (t : TypeId) (ks : List (Option IntKind)), eqI P n t = some ks → ∀ d, n ≤ d → ∀ (w : World) (xs ys : List Value),
    xs.map kindOf = ks.map some → ys.map kindOf = ks.map some → (Op.equalIn d t (formV (aggB P t) xs) (formV (aggB P t) ys)).run P w = .ok (veqs xs ys) w
  | 0, t, ks, h, _, _, _, _, _, _, _ => by cases h
  | n + 1, t, ks, h, d, hd, w, xs, ys, hx, hy => by
    obtain ⟨d, rfl⟩ : ∃ d', d = d' + 1 := ⟨d - 1, by omega⟩
    unfold eqI at h
    split at h
    · rename_i ht
      cases h
      obtain ⟨x, rfl⟩ := List.length_eq_one_iff.1 (show xs.length = 1 by simpa using congrArg List.length hx)
      obtain ⟨y, rfl⟩ := List.length_eq_one_iff.1 (show ys.length = 1 by simpa using congrArg List.length hy)
      · obtain ⟨a, rfl⟩ := kind_bool (by simpa using hx)
        obtain ⟨b, rfl⟩ := kind_bool (by simpa using hy)
        have hag : aggB P t = false := by unfold aggB; rw [ht]
        rw [hag]
        simp only [formV, Bool.false_eq_true, if_false, List.getD_cons_zero]
        rw [run_equalIn_bool' w d t a b ht]
        simp [veqs, veq]
    · rename_i k ht
      cases h
      obtain ⟨x, rfl⟩ := List.length_eq_one_iff.1 (show xs.length = 1 by simpa using congrArg List.length hx)
      obtain ⟨y, rfl⟩ := List.length_eq_one_iff.1 (show ys.length = 1 by simpa using congrArg List.length hy)
      · obtain ⟨a, rfl⟩ := kind_int (by simpa using hx)
        obtain ⟨b, rfl⟩ := kind_int (by simpa using hy)
        have hag : aggB P t = false := by unfold aggB; rw [ht]
        rw [hag]
        simp only [formV, Bool.false_eq_true, if_false, List.getD_cons_zero]
        rw [run_equalIn_int w d t k k a b ht]
        simp [veqs, veq]
        rfl
    · rename_i fs ht
      split at h
      · rename_i hs
        have hag : aggB P t = true := by unfold aggB; rw [ht]
        have hf : P.fieldsOf t = fs := by unfold Program.fieldsOf; rw [ht]
        have hxl := congrArg List.length hx
        have hyl := congrArg List.length hy
        simp only [List.length_map] at hxl hyl
        rw [hag]
        simp only [formV, if_true]
        rw [run_equalIn_struct w d t _ _ (by rw [hf]; exact ht) hs, hf]
        have := eqFields_run (P := P) (d := d) (xs := xs.toArray) (ys := ys.toArray) (eqI P n) (fun t ks h w xs ys hx hy => eq_run n t ks h d (by omega) w xs ys hx hy) fs.toList 0 ks h w
          (by simpa [← hxl] using hx) (by simpa [← hyl] using hy)
        rw [this]
        congr 2
        · simp [← hxl]
        · simp [← hyl]
      · cases h
    · cases h

/-- '==' at a struct's type, by closed checks. -/
theorem eqt_of {P : Program} {t : TypeId} {ks : List (Option IntKind)} (h : eqI P 20 t = some ks) (hag : aggB P t = true) (hg : P.eqGuardType P.depth t = false) : EqT P t ks := by
  refine ⟨hg, fun w xs ys hx hy => ?_⟩
  have := eq_run 20 t ks h 10000 (by omega) w xs.toList ys.toList hx hy
  rw [hag] at this
  simpa [formV] using this
end Go.AL
