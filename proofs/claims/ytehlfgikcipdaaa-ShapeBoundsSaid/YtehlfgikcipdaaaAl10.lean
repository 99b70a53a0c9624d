/-
  The abstract logic: a region, in the order of its text and in whatever order its edges allow. Conditions: none.
-/
import Derived.Test.YtehlfgikcipdaaaAl9
set_option linter.all false
namespace Go.AL
open Go.RowKit

def lk : List (Nat × AV) → Nat → AV
  | [], _ => .und
  | (k, v) :: r, t => if t = k then v else lk r t
def hk : List (Nat × ABox) → Nat → Option ABox
  | [], _ => none
  | (k, v) :: r, b => if b = k then some v else hk r b
def setT (n : Nat) (T : List (Nat × AV)) (d : Option Nat) (v : AV) : List (Nat × AV) :=
  match d with
  | some d => if d < n then (d, v) :: T else T
  | none => T
def hput : List (Nat × ABox) → Nat → ABox → List (Nat × ABox)
  | [], b, x => [(b, x)]
  | (k, v) :: r, b, x => if b = k then (k, x) :: r else (k, v) :: hput r b x
def hputs (H : List (Nat × ABox)) : List (Nat × ABox) → List (Nat × ABox)
  | [] => H
  | (b, x) :: r => hputs (hput H b x) r

theorem lk_setT (n : Nat) (T : List (Nat × AV)) (d : Option Nat) (v : AV) : lk (setT n T d v) = updT n (lk T) d v := by
  funext t
  cases d with
  | none => rfl
  | some d =>
    unfold setT updT
    by_cases h : d < n
    · simp only [h, if_true, lk, and_true]
    · simp only [h, if_false, and_false]
theorem hk_hput (H : List (Nat × ABox)) (b : Nat) (x : ABox) : hk (hput H b x) = updF (hk H) b (some x) := by
  funext c
  induction H with
  | nil => simp [hput, hk, updF]
  | cons kv r ih =>
    obtain ⟨k, v⟩ := kv
    unfold hput
    by_cases h : b = k
    · subst h
      simp only [if_true, hk, updF]
      by_cases hc : c = b <;> simp [hc]
    · rw [if_neg h]
      simp only [hk, ih, updF]
      by_cases hc : c = k
      · have : ¬ c = b := fun e => h (e ▸ hc)
        simp [hc]; intro e; exact absurd e.symm h
      · simp [hc]
theorem hk_hputs (wb : List (Nat × ABox)) : ∀ H, hk (hputs H wb) = updL (hk H) wb := by
  induction wb with
  | nil => intro H; rfl
  | cons kv r ih => intro H; obtain ⟨k, v⟩ := kv; simp only [hputs, updL, ih, hk_hput]

/-- the boxes that an operation reads, and writes. -/
theorem lk_nil (t : Nat) : lk [] t = .und := rfl
theorem lk_cons (k : Nat) (v : AV) (r : List (Nat × AV)) (t : Nat) : lk ((k, v) :: r) t = if t = k then v else lk r t := rfl
theorem hk_nil (t : Nat) : hk [] t = none := rfl
theorem hk_cons (k : Nat) (v : ABox) (r : List (Nat × ABox)) (t : Nat) : hk ((k, v) :: r) t = if t = k then some v else hk r t := rfl

abbrev FP := List Nat × List Nat
def Res.fp (r : Res) : FP := (r.rb, r.wb.map (·.1))

def arun (P : Program) (n : Nat) (ds : List (Option Nat)) : List Oper → List (Nat × AV) → List (Nat × ABox) → Nat → List FP →
    (List (Nat × AV) → List (Nat × ABox) → Nat → List FP → Prop) → Prop
  | [], T, H, nx, fps, K => K T H nx fps
  | o :: os, T, H, nx, fps, K => agd P ds o (lk T) (hk H) nx fun r => arun P n ds os (setT n T o.dst r.v) (hputs H r.wb) (nx + r.nw) (fps ++ [r.fp]) K

/-- behind an operation, the rest. -/
def KArun (P : Program) (n : Nat) (ds : List (Option Nat)) (d : Option Nat) (os : List Oper) (T : List (Nat × AV)) (H : List (Nat × ABox)) (nx : Nat) (fps : List FP)
    (K : List (Nat × AV) → List (Nat × ABox) → Nat → List FP → Prop) (r : Res) : Prop := arun P n ds os (setT n T d r.v) (hputs H r.wb) (nx + r.nw) (fps ++ [r.fp]) K
theorem arun_cons (P : Program) (n : Nat) (ds : List (Option Nat)) (o : Oper) (os : List Oper) (T : List (Nat × AV)) (H : List (Nat × ABox)) (nx : Nat) (fps : List FP)
    (K : List (Nat × AV) → List (Nat × ABox) → Nat → List FP → Prop) : arun P n ds (o :: os) T H nx fps K = agd P ds o (lk T) (hk H) nx (KArun P n ds o.dst os T H nx fps K) := rfl
theorem arun_nil (P : Program) (n : Nat) (ds : List (Option Nat)) (T : List (Nat × AV)) (H : List (Nat × ABox)) (nx : Nat) (fps : List FP)
    (K : List (Nat × AV) → List (Nat × ABox) → Nat → List FP → Prop) : arun P n ds [] T H nx fps K = K T H nx fps := rfl
theorem karun_mk (P : Program) (n : Nat) (ds : List (Option Nat)) (d : Option Nat) (os : List Oper) (T : List (Nat × AV)) (H : List (Nat × ABox)) (nx : Nat) (fps : List FP)
    (K : List (Nat × AV) → List (Nat × ABox) → Nat → List FP → Prop) (v : AV) (wb : List (Nat × ABox)) (nw : Nat) (rb : List Nat) :
    KArun P n ds d os T H nx fps K ⟨v, wb, nw, rb⟩ = arun P n ds os (setT n T d v) (hputs H wb) (nx + nw) (fps ++ [(rb, wb.map (·.1))]) K := rfl

theorem arun_congr {P : Program} {n : Nat} {ds : List (Option Nat)} {os : List Oper} {T T' : List (Nat × AV)} {H H' : List (Nat × ABox)} {nx nx' : Nat} {fps fps' : List FP}
    {K : List (Nat × AV) → List (Nat × ABox) → Nat → List FP → Prop} (h1 : T = T') (h2 : H = H') (h3 : nx = nx') (h4 : fps = fps') : arun P n ds os T H nx fps K = arun P n ds os T' H' nx' fps' K := by
  subst h1; subst h2; subst h3; subst h4; rfl

def Chain (C : Cx) (ds : List (Option Nat)) : List Oper → List Res → List (Nat × AV) → List (Nat × ABox) → Nat → Prop
  | o :: os, r :: rs, T, H, nx => GOpS C ds o (lk T) (hk H) nx r ∧ Chain C ds os rs (setT C.n T o.dst r.v) (hputs H r.wb) (nx + r.nw)
  | [], [], _, _, _ => True
  | _, _, _, _, _ => False
def endT (n : Nat) : List Oper → List Res → List (Nat × AV) → List (Nat × AV)
  | o :: os, r :: rs, T => endT n os rs (setT n T o.dst r.v)
  | _, _, T => T
def endH : List Res → List (Nat × ABox) → List (Nat × ABox)
  | r :: rs, H => endH rs (hputs H r.wb)
  | [], H => H
def endN : List Res → Nat → Nat
  | r :: rs, nx => endN rs (nx + r.nw)
  | [], nx => nx

theorem arun_chain {C : Cx} {ds : List (Option Nat)} {K : List (Nat × AV) → List (Nat × ABox) → Nat → List FP → Prop} : ∀ (os : List Oper) (T : List (Nat × AV)) (H : List (Nat × ABox)) (nx : Nat) (fps : List FP),
    arun C.P C.n ds os T H nx fps K → ∃ rs, rs.length = os.length ∧ Chain C ds os rs T H nx ∧ K (endT C.n os rs T) (endH rs H) (endN rs nx) (fps ++ rs.map Res.fp)
  | [], T, H, nx, fps, h => ⟨[], rfl, trivial, by simpa [arun, endT, endH, endN] using h⟩
  | o :: os, T, H, nx, fps, h => by
    obtain ⟨r, hk, hs⟩ := agd_sound h
    obtain ⟨rs, hl, hc, hK⟩ := arun_chain os _ _ _ _ hk
    exact ⟨r :: rs, by simp [hl], ⟨hs, hc⟩, by simpa [endT, endH, endN] using hK⟩

section
variable {C : Cx}

theorem wpOps_of_gops {ds : List (Option Nat)} {o : Oper} {ops : Array Oper} {i : Nat} {rest : List Nat} {a : Act} {w : World} {Q : Exit → Act → World → Prop} (ho : ops[i]? = some o)
    (h : if Region.wanted o (yielded ops a.tmps) = true then o.wp C.P a w (wpOps C.P ops Q rest) Q else wpOps C.P ops Q rest (a.put o.dst undef) w) : wpOps C.P ops Q (i :: rest) a w := by
  simp only [wpOps, ho]
  split
  · rename_i hw; rw [if_pos hw] at h; exact .inl h
  · rename_i hw; rw [if_neg hw] at h; exact h

/-- in the order of the text. -/
theorem chain_seq {ops : Array Oper} {Q : Exit → Act → World → Prop} : ∀ (os : List Oper) (rs : List Res) (T : List (Nat × AV)) (H : List (Nat × ABox)) (nx i : Nat) (g : Nat → List Value) (a : Act) (w : World),
    Chain C (ops.toList.map (·.dst)) os rs T H nx → ops.toList.drop i = os → Rel C (lk T) (hk H) (fun c => c < nx) g a w →
    (∀ g' a' w', Rel C (lk (endT C.n os rs T)) (hk (endH rs H)) (fun c => c < endN rs nx) g' a' w' → Q .normal a' w') → wpOps C.P ops Q (List.range' i os.length) a w
  | [], [], T, H, nx, i, g, a, w, _, _, hr, hq => by simpa [wpOps] using hq g a w hr
  | [], _ :: _, _, _, _, _, _, _, _, h, _, _, _ => h.elim
  | _ :: _, [], _, _, _, _, _, _, _, h, _, _, _ => h.elim
  | o :: os, r :: rs, T, H, nx, i, g, a, w, hc, hd, hr, hq => by
    obtain ⟨hs, hc⟩ := hc
    have ho : ops[i]? = some o := by
      have : (ops.toList.drop i)[0]? = some o := by rw [hd]; rfl
      rw [List.getElem?_drop, Nat.add_zero] at this
      rwa [Array.getElem?_toList] at this
    have hd' : ops.toList.drop (i + 1) = os := by rw [← List.drop_drop, hd]; rfl
    rw [List.length_cons, List.range'_succ]
    refine wpOps_of_gops (ds := ops.toList.map (·.dst)) ho ?_
    refine hs _ _ _ g a w hr (fun _ _ => rfl) (fun _ _ _ _ _ => rfl) (fun _ _ => rfl) (fun j _ hd => by omega) ops rfl _ Q fun v w' g' h1 h2 => ?_
    have hrel := (h1.put o.dst h2).dmono (D' := fun c => c < nx + r.nw) (fun b hb => by omega)
    rw [← lk_setT, ← hk_hputs] at hrel
    exact chain_seq os rs _ _ _ (i + 1) g' _ w' hc hd' hrel hq

theorem region_seq {id n : Nat} {P : Program} {ops : Array Oper} {T : List (Nat × AV)} {H : List (Nat × ABox)} {nx : Nat} {K : List (Nat × AV) → List (Nat × ABox) → Nat → List FP → Prop} {Q : Exit → Act → World → Prop}
    {g : Nat → List Value} {a : Act} {w : World} (hP : C.P = P) (hn : C.n = n) (h : arun P n (ops.toList.map (·.dst)) ops.toList T H nx [] K) (hr : Rel C (lk T) (hk H) (fun c => c < nx) g a w)
    (hq : ∀ T' H' nx' fps g' a' w', K T' H' nx' fps → Rel C (lk T') (hk H') (fun c => c < nx') g' a' w' → Q .normal a' w') : (Code.region id ops false).wp P Q a w := by
  subst hP; subst hn
  obtain ⟨rs, hl, hc, hK⟩ := arun_chain _ _ _ _ _ h
  refine wp_region ?_
  have := chain_seq (Q := Q) ops.toList rs T H nx 0 g a w hc (by simp) hr (fun g' a' w' hr' => hq _ _ _ _ g' a' w' hK hr')
  rwa [Array.length_toList, ← List.range_eq_range'] at this
end
end Go.AL
