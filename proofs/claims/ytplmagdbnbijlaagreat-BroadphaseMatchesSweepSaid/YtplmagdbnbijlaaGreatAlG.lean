/-
  The abstract logic: an own row that is no longer written to is told by its content; its box is let go. Conditions: none.
-/
import Derived.Test.YtplmagdbnbijlaaGreatAlC
set_option linter.all false
namespace Go.AL
open Go.RowKit
section
variable {C : Cx} {T : Nat → AV} {H : Nat → Option ABox} {D : Nat → Prop} {g : Nat → List Value} {a : Act} {w : World}
theorem own_del {b : Nat} (k : Nat) (h : Own C.O g (updF H b none) k) : Own C.O g H k := by
  rcases h with h | ⟨b', x, hx, hk⟩
  · exact .inl h
  · by_cases hb : b' = b
    · subst hb; rw [updF_same] at hx; cases hx
    · rw [updF_other hb] at hx; exact .inr ⟨b', x, hx, hk⟩
theorem rep_fz {b ver e z : Nat} {es : List AV} {val : Value} (hr : Rel C T H D g a w) (h : Rep w (Own C.O g H) g (.ow b ver) val) (hb : H b = some (.row e z ver es)) : Rep w (Own C.O g (updF H b none)) g (.sl es) val := by
  obtain ⟨a0, n, c, rfl, hg⟩ := h.ow_inv
  obtain ⟨sv, xs, h1, h2, h3, h4, h5⟩ := hr.bx b _ hb
  rw [hg] at h1
  injection h1 with h1
  subst h1
  obtain ⟨hl, h3'⟩ := h3
  rcases h3' with ⟨hn, a1, hv⟩ | ⟨gg, cap, cur, hv, hh, hcap, _, hsz, htk⟩
  · injection hv with e1 e2 e3
    subst e1; subst e2; subst e3
    have : es = [] := List.eq_nil_of_length_eq_zero hn
    subst this
    exact .sl0 _ 0
  · injection hv with e1 e2 e3
    subst e1; subst e2; subst e3
    have hob : ownBlk g b (.row e z ver es) = some gg := by simp [ownBlk, hg, rowBlk]
    have hown := hr.own b _ gg hb hob
    refine .sl1 z es gg 0 (cap + 1) (fun i => xs.getD i undef) hcap h4 ?_ hown.2.2 (fun i hi => ?_) (fun i hi j hj => (h5 i hi j hj).sub (fun k hk => own_del k hk))
    · rintro (ho | ⟨b', x, hx, hk⟩)
      · exact hown.1 ho
      · by_cases hbb : b' = b
        · subst hbb; rw [updF_same] at hx; cases hx
        · rw [updF_other hbb] at hx
          exact hbb (hr.sep _ _ _ _ gg hx hb hk hob)
    rw [Nat.zero_add, cell_of_row w gg i cur e (0, 0) hh]
    have hlt : i < xs.length := by omega
    have hx : xs[i]? = cur[i]? := by rw [← htk, List.getElem?_take, if_pos hi, Array.getElem?_toList]
    rw [← hx, List.getD_eq_getElem?_getD, List.getElem?_eq_getElem hlt]
    rfl
theorem Rel.fz {t b : Nat} {v : AV} (hr : Rel C T H D g a w) (h : Rep w (Own C.O g (updF H b none)) g v (a.tmps.getD t undef)) : Rel C (fun t' => if t' = t then v else T t') (updF H b none) D g a w := by
  have hin : ∀ c x, updF H b none c = some x → H c = some x := fun c x hx => by
    by_cases hc : c = b
    · subst hc; rw [updF_same] at hx; cases hx
    · rwa [updF_other hc] at hx
  refine ⟨hr.df, hr.sz, fun t' => ?_, fun c x hx => (hr.bx c x (hin c x hx)).sub (fun k hk => own_del k hk), hr.fresh, fun c x hx => hr.dom c x (hin c x hx), fun c c' x x' k hx hx' => hr.sep c c' x x' k (hin c x hx) (hin c' x' hx'), fun c x k hx => hr.own c x k (hin c x hx), hr.oo, hr.kept, hr.old.mono (fun c x hx => ⟨x, hin c x hx⟩) (fun _ h => h)⟩
  by_cases ht : t' = t
  · subst ht; rw [if_pos rfl]; exact h
  · rw [if_neg ht]; exact (hr.tm t').sub (fun k hk => own_del k hk)
end
def hdel (H : HH) (b : Nat) : HH := H.filter fun p => p.1 != b
theorem hk_hdel (H : HH) (b : Nat) : hk (hdel H b) = updF (hk H) b none := by
  funext c
  induction H with
  | nil => simp [hdel, hk, updF]
  | cons p r ih =>
    obtain ⟨k, v⟩ := p
    by_cases hkb : k = b
    · subst hkb
      have h1 : hdel ((k, v) :: r) k = hdel r k := by simp [hdel]
      rw [h1, ih]
      by_cases hc : c = k
      · subst hc; rw [updF_same, updF_same]
      · rw [updF_other hc, updF_other hc]; simp [hk, hc]
    · have h1 : hdel ((k, v) :: r) b = (k, v) :: hdel r b := by simp [hdel, hkb]
      rw [h1]
      by_cases hc : c = k
      · subst hc; rw [updF_other hkb]; simp [hk]
      · have h2 : hk ((k, v) :: hdel r b) c = hk (hdel r b) c := by simp [hk, hc]
        rw [h2, ih]
        by_cases hcb : c = b
        · subst hcb; rw [updF_same, updF_same]
        · rw [updF_other hcb, updF_other hcb]; simp [hk, hc]
theorem lk_consf (t : Nat) (v : AV) (T : TT) : lk ((t, v) :: T) = fun t' => if t' = t then v else lk T t' := by
  funext t'
  simp [lk]
variable {T : TT} {H : HH} {nx : Nat}
theorem tr_fz {P : Program} {n : Nat} {c : Code} {Q : Exit → TT → HH → Nat → Prop} (t b : Nat) {ver e z : Nat} {es : List AV} (H1 : HH) (ht : lk T t = .ow b ver) (hb : hk H b = some (.row e z ver es)) (hH : hdel H b = H1) (h : Tr P n c ((t, .sl es) :: T) H1 nx Q) : Tr P n c T H nx Q := by
  intro C g a w hP hn hr
  refine h C g a w hP hn ?_
  rw [← hH, hk_hdel, lk_consf]
  have h1 := hr.tm t
  rw [ht] at h1
  exact hr.fz (rep_fz hr h1 hb)
end Go.AL
/-
  The abstract logic: an element of an array behind a pointer to content. Conditions: none.
-/
namespace Go.AL
open Go.RowKit
theorem aext_ixcp {P : Program} {T : Nat → AV} {H : Nat → Option ABox} {nx : Nat} {K : Res → Prop} {t m n : Nat} {ag : Bool} {x y : Operand} {cs cs' : List AV} {k : IntKind} {i : Int} (hc : (evO T x).cond = true) (hc' : (evO T y).cond = true) (hx : ev T x = .cp cs) (hy : ev T y = .sc (.int k i))
    (he : arI P t = some (m, n, ag)) (h0 : 0 ≤ i) (hi : i < m) (hr : cs.drop (i.toNat * n) = cs') (hK : K ⟨.cp cs', [], 0, []⟩) : aext P (.indexAddr t x y) T H nx K := by
  subst hr
  refine ⟨_, hK, fun C o hP h => opS_pure fun T' H' D g a w hr hT hH => ?_⟩
  subst hP
  have r1 := one_rep hr (hT x (by simp [h, Op.operands])) hc
  have r2 := one_rep hr (hT y (by simp [h, Op.operands])) hc'
  rw [hx] at r1; rw [hy] at r2
  obtain ⟨blk, off, f', hv, hO, hlt, h1, h2⟩ := r1.cp_inv
  have hv2 := r2.sc_inv
  obtain ⟨e, k1, k2, k3, k4⟩ := arI_some he
  obtain ⟨inf, d, k5, k6, k7, k8⟩ := tyI_some k2
  refine ⟨_, ?_, .cp _ blk (off + i.toNat * n) (fun j => f' (i.toNat * n + j)) hO hlt (fun j hj => ?_) (fun j hj => ?_)⟩
  · unfold execOp
    simp only [h, hv, hv2, Instr.indexAt, asIntOf, Instr.sureAddr, Sem.run_bind, Sem.run_pure, Result.andThen_ok, run_underlying k1]
    rw [if_pos ⟨h0, hi⟩]
    simp only [Sem.run_bind, run_sizeOf' k5, Result.andThen_ok, Sem.run_pure, k7, add_addr]
  · rw [Nat.add_assoc]; exact h1 _ (by simp at hj; omega)
  · have := h2 (i.toNat * n + j) (by simp at hj; omega)
    rwa [List.getD_eq_getElem?_getD, List.getElem?_drop, ← List.getD_eq_getElem?_getD]
end Go.AL
