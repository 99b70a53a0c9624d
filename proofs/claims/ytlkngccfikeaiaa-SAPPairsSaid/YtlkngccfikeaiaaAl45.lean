/-
  The abstract logic: an own row that is no longer written to is told by its content; its box is let go. Conditions: none.
-/
import Derived.Test.YtlkngccfikeaiaaAlC
set_option linter.all false
namespace Go.AL
open Go.RowKit
section
variable {C : Cx} {T : Nat → AV} {H : Nat → Option ABox} {D : Nat → Prop} {g : Nat → List Value} {a : Act} {w : World}
theorem own_del {b : Nat} (k : Nat) (h : Own C.O g (updF H b none) k) : Own C.O g H k := by
  rcases h with h | ⟨b', x, hx, hk⟩
  · exact .inl h
  · by_cases hb : b' = b
    · subst hb; rw [updF_same] at hx; cases hx
    · rw [updF_other hb] at hx; exact .inr ⟨b', x, hx, hk⟩
theorem rep_fz0 {b : Nat} {val : Value} (hr : Rel C T H D g a w) (h : Rep w (Own C.O g H) g (.ow b 0) val) (hb : H b = some .nl) : Rep w (Own C.O g (updF H b none)) g (.sl []) val := by
  obtain ⟨a0, n, c, rfl, hg⟩ := h.ow_inv
  have hg' : g b = [.slice none 0 0] := hr.bx b .nl hb
  rw [hg'] at hg
  simp only [List.getElem?_cons_zero, Option.some.injEq, Value.slice.injEq] at hg
  obtain ⟨rfl, rfl, rfl⟩ := hg
  exact .sl0 none 0
theorem Rel.fz {t b : Nat} {v : AV} (hr : Rel C T H D g a w) (h : Rep w (Own C.O g (updF H b none)) g v (a.tmps.getD t undef)) : Rel C (fun t' => if t' = t then v else T t') (updF H b none) D g a w := by
  have hin : ∀ c x, updF H b none c = some x → H c = some x := fun c x hx => by
    by_cases hc : c = b
    · subst hc; rw [updF_same] at hx; cases hx
    · rwa [updF_other hc] at hx
  refine ⟨hr.df, hr.sz, fun t' => ?_, fun c x hx => (hr.bx c x (hin c x hx)).sub (fun k hk => own_del k hk), hr.fresh, fun c x hx => hr.dom c x (hin c x hx), fun c c' x x' k hx hx' => hr.sep c c' x x' k (hin c x hx) (hin c' x' hx'), fun c x k hx => hr.own c x k (hin c x hx), hr.oo, hr.kept, hr.old.mono (fun c x hx => ⟨x, hin c x hx⟩) (fun _ h => h)⟩
  by_cases ht : t' = t
  · subst ht; rw [if_pos rfl]; exact h
  · rw [if_neg ht]; exact (hr.tm t').sub (fun k hk => own_del k hk)
end
def hdel (H : HH) (b : Nat) : HH := H.filter fun p => p.1 != b
theorem hk_hdel (H : HH) (b : Nat) : hk (hdel H b) = updF (hk H) b none := by
  funext c
  induction H with
  | nil => simp [hdel, hk, updF]
  | cons p r ih =>
    obtain ⟨k, v⟩ := p
    by_cases hkb : k = b
    · subst hkb
      have h1 : hdel ((k, v) :: r) k = hdel r k := by simp [hdel]
      rw [h1, ih]
      by_cases hc : c = k
      · subst hc; rw [updF_same, updF_same]
      · rw [updF_other hc, updF_other hc]; simp [hk, hc]
    · have h1 : hdel ((k, v) :: r) b = (k, v) :: hdel r b := by simp [hdel, hkb]
      rw [h1]
      by_cases hc : c = k
      · subst hc; rw [updF_other hkb]; simp [hk]
      · have h2 : hk ((k, v) :: hdel r b) c = hk (hdel r b) c := by simp [hk, hc]
        rw [h2, ih]
        by_cases hcb : c = b
        · subst hcb; rw [updF_same, updF_same]
        · rw [updF_other hcb, updF_other hcb]; simp [hk, hc]
theorem lk_consf (t : Nat) (v : AV) (T : TT) : lk ((t, v) :: T) = fun t' => if t' = t then v else lk T t' := by
  funext t'
  simp [lk]
variable {T : TT} {H : HH} {nx : Nat}
theorem tr_fz0 {P : Program} {n : Nat} {c : Code} {Q : Exit → TT → HH → Nat → Prop} (t b : Nat) (H1 : HH) (ht : lk T t = .ow b 0) (hb : hk H b = some .nl) (hH : hdel H b = H1) (h : Tr P n c ((t, .sl []) :: T) H1 nx Q) : Tr P n c T H nx Q := by
  intro C g a w hP hn hr
  refine h C g a w hP hn ?_
  rw [← hH, hk_hdel, lk_consf]
  have h1 := hr.tm t
  rw [ht] at h1
  exact hr.fz (rep_fz0 hr h1 hb)
end Go.AL
