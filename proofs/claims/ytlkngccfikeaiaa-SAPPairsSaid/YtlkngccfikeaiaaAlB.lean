/-
  The abstract logic: a region, in the order of its text and in whatever order its edges allow. Conditions: none.
-/
import Derived.Test.YtlkngccfikeaiaaAlA
import Derived.Scope
import Derived.ProofKit
import Derived.OpenShut
import Derived.Below
import Derived.Carry
import Derived.Laws.StructEq
import GoSem.Claim
import GoSem.ClaimJoined
import Derived.JoinedTies
set_option linter.all false
namespace Go.AL
open Go.RowKit
def lk : List (Nat × AV) → Nat → AV
  | [], _ => .und
  | (k, v) :: r, t => if t = k then v else lk r t
def hk : List (Nat × ABox) → Nat → Option ABox
  | [], _ => none
  | (k, v) :: r, b => if b = k then some v else hk r b
def setT (n : Nat) (T : List (Nat × AV)) (d : Option Nat) (v : AV) : List (Nat × AV) :=
  match d with
  | some d => if d < n then (d, v) :: T else T
  | none => T
def hput : List (Nat × ABox) → Nat → ABox → List (Nat × ABox)
  | [], b, x => [(b, x)]
  | (k, v) :: r, b, x => if b = k then (k, x) :: r else (k, v) :: hput r b x
def hputs (H : List (Nat × ABox)) : List (Nat × ABox) → List (Nat × ABox)
  | [] => H
  | (b, x) :: r => hputs (hput H b x) r
theorem lk_setT (n : Nat) (T : List (Nat × AV)) (d : Option Nat) (v : AV) : lk (setT n T d v) = updT n (lk T) d v := by
  funext t
  cases d with
  | none => rfl
  | some d =>
    unfold setT updT
    by_cases h : d < n
    · simp only [h, if_true, lk, and_true]
    · simp only [h, if_false, and_false]
theorem hk_hput (H : List (Nat × ABox)) (b : Nat) (x : ABox) : hk (hput H b x) = updF (hk H) b (some x) := by
  funext c
  induction H with
  | nil => simp [hput, hk, updF]
  | cons kv r ih =>
    obtain ⟨k, v⟩ := kv
    unfold hput
    by_cases h : b = k
    · subst h
      simp only [if_true, hk, updF]
      by_cases hc : c = b <;> simp [hc]
    · rw [if_neg h]
      simp only [hk, ih, updF]
      by_cases hc : c = k
      · have : ¬ c = b := fun e => h (e ▸ hc)
        simp [hc]; intro e; exact absurd e.symm h
      · simp [hc]
theorem hk_hputs (wb : List (Nat × ABox)) : ∀ H, hk (hputs H wb) = updL (hk H) wb := by
  induction wb with
  | nil => intro H; rfl
  | cons kv r ih => intro H; obtain ⟨k, v⟩ := kv; simp only [hputs, updL, ih, hk_hput]
theorem lk_nil (t : Nat) : lk [] t = .und := rfl
theorem lk_cons (k : Nat) (v : AV) (r : List (Nat × AV)) (t : Nat) : lk ((k, v) :: r) t = if t = k then v else lk r t := rfl
theorem hk_nil (t : Nat) : hk [] t = none := rfl
theorem hk_cons (k : Nat) (v : ABox) (r : List (Nat × ABox)) (t : Nat) : hk ((k, v) :: r) t = if t = k then some v else hk r t := rfl
abbrev FP := List Nat × List Nat
def Res.fp (r : Res) : FP := (r.rb, r.wb.map (·.1))
def arun (P : Program) (n : Nat) (ds : List (Option Nat)) : List Oper → List (Nat × AV) → List (Nat × ABox) → Nat → List FP →
    (List (Nat × AV) → List (Nat × ABox) → Nat → List FP → Prop) → Prop
  | [], T, H, nx, fps, K => K T H nx fps
  | o :: os, T, H, nx, fps, K => agd P ds o (lk T) (hk H) nx fun r => arun P n ds os (setT n T o.dst r.v) (hputs H r.wb) (nx + r.nw) (fps ++ [r.fp]) K
def KArun (P : Program) (n : Nat) (ds : List (Option Nat)) (d : Option Nat) (os : List Oper) (T : List (Nat × AV)) (H : List (Nat × ABox)) (nx : Nat) (fps : List FP)
    (K : List (Nat × AV) → List (Nat × ABox) → Nat → List FP → Prop) (r : Res) : Prop := arun P n ds os (setT n T d r.v) (hputs H r.wb) (nx + r.nw) (fps ++ [r.fp]) K
theorem arun_cons (P : Program) (n : Nat) (ds : List (Option Nat)) (o : Oper) (os : List Oper) (T : List (Nat × AV)) (H : List (Nat × ABox)) (nx : Nat) (fps : List FP)
    (K : List (Nat × AV) → List (Nat × ABox) → Nat → List FP → Prop) : arun P n ds (o :: os) T H nx fps K = agd P ds o (lk T) (hk H) nx (KArun P n ds o.dst os T H nx fps K) := rfl
theorem arun_nil (P : Program) (n : Nat) (ds : List (Option Nat)) (T : List (Nat × AV)) (H : List (Nat × ABox)) (nx : Nat) (fps : List FP)
    (K : List (Nat × AV) → List (Nat × ABox) → Nat → List FP → Prop) : arun P n ds [] T H nx fps K = K T H nx fps := rfl
theorem karun_mk (P : Program) (n : Nat) (ds : List (Option Nat)) (d : Option Nat) (os : List Oper) (T : List (Nat × AV)) (H : List (Nat × ABox)) (nx : Nat) (fps : List FP)
    (K : List (Nat × AV) → List (Nat × ABox) → Nat → List FP → Prop) (v : AV) (wb : List (Nat × ABox)) (nw : Nat) (rb : List Nat) :
    KArun P n ds d os T H nx fps K ⟨v, wb, nw, rb⟩ = arun P n ds os (setT n T d v) (hputs H wb) (nx + nw) (fps ++ [(rb, wb.map (·.1))]) K := rfl
def Chain (C : Cx) (ds : List (Option Nat)) : List Oper → List Res → List (Nat × AV) → List (Nat × ABox) → Nat → Prop
  | o :: os, r :: rs, T, H, nx => GOpS C ds o (lk T) (hk H) nx r ∧ Chain C ds os rs (setT C.n T o.dst r.v) (hputs H r.wb) (nx + r.nw)
  | [], [], _, _, _ => True
  | _, _, _, _, _ => False
def endT (n : Nat) : List Oper → List Res → List (Nat × AV) → List (Nat × AV)
  | o :: os, r :: rs, T => endT n os rs (setT n T o.dst r.v)
  | _, _, T => T
def endH : List Res → List (Nat × ABox) → List (Nat × ABox)
  | r :: rs, H => endH rs (hputs H r.wb)
  | [], H => H
def endN : List Res → Nat → Nat
  | r :: rs, nx => endN rs (nx + r.nw)
  | [], nx => nx
theorem arun_chain {C : Cx} {ds : List (Option Nat)} {K : List (Nat × AV) → List (Nat × ABox) → Nat → List FP → Prop} : ∀ (os : List Oper) (T : List (Nat × AV)) (H : List (Nat × ABox)) (nx : Nat) (fps : List FP),
    arun C.P C.n ds os T H nx fps K → ∃ rs, rs.length = os.length ∧ Chain C ds os rs T H nx ∧ K (endT C.n os rs T) (endH rs H) (endN rs nx) (fps ++ rs.map Res.fp)
  | [], T, H, nx, fps, h => ⟨[], rfl, trivial, by simpa [arun, endT, endH, endN] using h⟩
  | o :: os, T, H, nx, fps, h => by
    obtain ⟨r, hk, hs⟩ := agd_sound h
    obtain ⟨rs, hl, hc, hK⟩ := arun_chain os _ _ _ _ hk
    exact ⟨r :: rs, by simp [hl], ⟨hs, hc⟩, by simpa [endT, endH, endN] using hK⟩
section
variable {C : Cx}
theorem wpOps_of_gops {ds : List (Option Nat)} {o : Oper} {ops : Array Oper} {i : Nat} {rest : List Nat} {a : Act} {w : World} {Q : Exit → Act → World → Prop} (ho : ops[i]? = some o)
    (h : if Region.wanted o (yielded ops a.tmps) = true then o.wp C.P a w (wpOps C.P ops Q rest) Q else wpOps C.P ops Q rest (a.put o.dst undef) w) : wpOps C.P ops Q (i :: rest) a w := by
  simp only [wpOps, ho]
  split
  · rename_i hw; rw [if_pos hw] at h; exact .inl h
  · rename_i hw; rw [if_neg hw] at h; exact h
theorem chain_seq {ops : Array Oper} {Q : Exit → Act → World → Prop} : ∀ (os : List Oper) (rs : List Res) (T : List (Nat × AV)) (H : List (Nat × ABox)) (nx i : Nat) (g : Nat → List Value) (a : Act) (w : World),
    Chain C (ops.toList.map (·.dst)) os rs T H nx → ops.toList.drop i = os → Rel C (lk T) (hk H) (fun c => c < nx) g a w →
    (∀ g' a' w', Rel C (lk (endT C.n os rs T)) (hk (endH rs H)) (fun c => c < endN rs nx) g' a' w' → Q .normal a' w') → wpOps C.P ops Q (List.range' i os.length) a w
  | [], [], T, H, nx, i, g, a, w, _, _, hr, hq => by simpa [wpOps] using hq g a w hr
  | [], _ :: _, _, _, _, _, _, _, _, h, _, _, _ => h.elim
  | _ :: _, [], _, _, _, _, _, _, _, h, _, _, _ => h.elim
  | o :: os, r :: rs, T, H, nx, i, g, a, w, hc, hd, hr, hq => by
    obtain ⟨hs, hc⟩ := hc
    have ho : ops[i]? = some o := by
      have : (ops.toList.drop i)[0]? = some o := by rw [hd]; rfl
      rw [List.getElem?_drop, Nat.add_zero] at this
      rwa [Array.getElem?_toList] at this
    have hd' : ops.toList.drop (i + 1) = os := by rw [← List.drop_drop, hd]; rfl
    rw [List.length_cons, List.range'_succ]
    refine wpOps_of_gops (ds := ops.toList.map (·.dst)) ho ?_
    refine hs _ _ _ g a w hr (fun _ _ => rfl) (fun _ _ _ _ _ => rfl) (fun _ _ => rfl) (fun j _ hd => by omega) ops rfl _ Q fun v w' g' h1 h2 => ?_
    have hrel := (h1.put o.dst h2).dmono (D' := fun c => c < nx + r.nw) (fun b hb => by omega)
    rw [← lk_setT, ← hk_hputs] at hrel
    exact chain_seq os rs _ _ _ (i + 1) g' _ w' hc hd' hrel hq
theorem region_seq {id n : Nat} {P : Program} {ops : Array Oper} {T : List (Nat × AV)} {H : List (Nat × ABox)} {nx : Nat} {K : List (Nat × AV) → List (Nat × ABox) → Nat → List FP → Prop} {Q : Exit → Act → World → Prop}
    {g : Nat → List Value} {a : Act} {w : World} (hP : C.P = P) (hn : C.n = n) (h : arun P n (ops.toList.map (·.dst)) ops.toList T H nx [] K) (hr : Rel C (lk T) (hk H) (fun c => c < nx) g a w)
    (hq : ∀ T' H' nx' fps g' a' w', K T' H' nx' fps → Rel C (lk T') (hk H') (fun c => c < nx') g' a' w' → Q .normal a' w') : (Code.region id ops false).wp P Q a w := by
  subst hP; subst hn
  obtain ⟨rs, hl, hc, hK⟩ := arun_chain _ _ _ _ _ h
  refine wp_region ?_
  have := chain_seq (Q := Q) ops.toList rs T H nx 0 g a w hc (by simp) hr (fun g' a' w' hr' => hq _ _ _ _ g' a' w' hK hr')
  rwa [Array.length_toList, ← List.range_eq_range'] at this
end
end Go.AL
/-
  The abstract logic: a region that draws its order: the check that no two unordered operations meet, and that then every order gives what the text's order gives. Conditions: none.
-/
namespace Go.AL
open Go.RowKit
def cls : List Oper → List Nat → List Nat
  | [], acc => acc
  | o :: os, acc => cls os (acc ++ [o.after.toList.foldl (fun s e => if Region.binds .any e then s ||| 2 ^ e.on ||| acc.getD e.on 0 else s) 0])
def rdT (ds : List (Option Nat)) (o : Oper) : List Nat :=
  (o.op.operands.toList.filterMap fun | .tmp t => some t | _ => none) ++ (match o.guard with
    | some (j, _) => match ds[j]? with
      | some (some d) => [d]
      | _ => []
    | none => [])
def disj (a b : List Nat) : Bool := a.all fun x => !b.contains x
def apart (ds : List (Option Nat)) (oi oj : Oper) (fi fj : FP) : Bool :=
  disj oi.dst.toList (rdT ds oj) && disj oi.dst.toList oj.dst.toList && disj (rdT ds oi) oj.dst.toList &&
  disj fi.2 fj.1 && disj fi.2 fj.2 && disj fi.1 fj.2
def regOk (ops : List Oper) (fps : List FP) : Bool :=
  let ds := ops.map (·.dst)
  let cl := cls ops []
  let l := (ops.zip fps).zipIdx
  l.all fun ((oj, fj), j) => oj.after.toList.all (fun e => !Region.binds .any e || decide (e.on < j)) &&
    l.all fun ((oi, fi), i) => !decide (i < j) || (cl.getD j 0).testBit i || apart ds oi oj fi fj
theorem arr_getD {α : Type} (a : Array α) (j : Nat) (d : α) (h : j < a.size) : a.getD j d = a[j] := by simp [Array.getD_eq_getD_getElem?, h]
theorem disj_spec {a b : List Nat} (h : disj a b = true) {x : Nat} (hx : x ∈ a) : x ∉ b := by
  have := List.all_eq_true.1 h x hx
  simpa using this
def tS (n : Nat) (S : Nat → Bool) : Nat → List (Oper × Res) → (Nat → AV) → Nat → AV
  | _, [], T => T
  | i, (o, r) :: l, T => tS n S (i + 1) l (if S i = true then updT n T o.dst r.v else T)
def hS (S : Nat → Bool) : Nat → List (Oper × Res) → (Nat → Option ABox) → Nat → Option ABox
  | _, [], H => H
  | i, (_, r) :: l, H => hS S (i + 1) l (if S i = true then updL H r.wb else H)
theorem updL_other : ∀ (wb : List (Nat × ABox)) (H : Nat → Option ABox) (b : Nat), b ∉ wb.map (·.1) → updL H wb b = H b
  | [], _, _, _ => rfl
  | (k, v) :: r, H, b, h => by
    simp only [List.map_cons, List.mem_cons, not_or] at h
    simp only [updL]
    rw [updL_other r _ b h.2, updF_other h.1]
theorem updL_key : ∀ (wb : List (Nat × ABox)) (H H' : Nat → Option ABox) (b : Nat), b ∈ wb.map (·.1) → updL H wb b = updL H' wb b
  | [], _, _, _, h => by simp at h
  | (k, v) :: r, H, H', b, h => by
    simp only [updL]
    by_cases hb : b ∈ r.map (·.1)
    · exact updL_key r _ _ b hb
    · have hk : b = k := by simp only [List.map_cons, List.mem_cons] at h; exact h.resolve_right hb
      subst hk
      rw [updL_other r _ _ hb, updL_other r _ _ hb, updF_same, updF_same]
theorem tS_congr {n : Nat} {S S' : Nat → Bool} {t : Nat} : ∀ (l : List (Oper × Res)) (i : Nat) (T T' : Nat → AV), T t = T' t →
    (∀ j x, l[j]? = some x → x.1.dst = some t → S (i + j) = S' (i + j)) → tS n S i l T t = tS n S' i l T' t
  | [], _, _, _, h, _ => h
  | (o, r) :: l, i, T, T', h, hs => by
    simp only [tS]
    refine tS_congr l (i + 1) _ _ ?_ (fun j x hx hd => by have := hs (j + 1) x hx hd; rwa [show i + (j + 1) = i + 1 + j by omega] at this)
    by_cases hd : o.dst = some t
    · have := hs 0 (o, r) rfl hd
      rw [Nat.add_zero] at this
      rw [this]
      split
      · unfold updT; rw [hd]; simp only [h]
      · exact h
    · have hu : ∀ U : Nat → AV, updT n U o.dst r.v t = U t := by
        intro U; unfold updT
        cases hdd : o.dst with
        | none => rfl
        | some d => simp only; rw [if_neg]; intro hc; exact hd (by rw [hdd, hc.1])
      split <;> split <;> simp [hu, h]
theorem hS_congr {S S' : Nat → Bool} {b : Nat} : ∀ (l : List (Oper × Res)) (i : Nat) (H H' : Nat → Option ABox), H b = H' b →
    (∀ j x, l[j]? = some x → b ∈ x.2.wb.map (·.1) → S (i + j) = S' (i + j)) → hS S i l H b = hS S' i l H' b
  | [], _, _, _, h, _ => h
  | (o, r) :: l, i, H, H', h, hs => by
    simp only [hS]
    refine hS_congr l (i + 1) _ _ ?_ (fun j x hx hd => by have := hs (j + 1) x hx hd; rwa [show i + (j + 1) = i + 1 + j by omega] at this)
    by_cases hd : b ∈ r.wb.map (·.1)
    · have := hs 0 (o, r) rfl hd
      rw [Nat.add_zero] at this
      rw [this]
      split
      · exact updL_key _ _ _ _ hd
      · exact h
    · split <;> split <;> simp [updL_other _ _ _ hd, h]
theorem tS_last {n : Nat} {S : Nat → Bool} {t : Nat} {o : Oper} {r : Res} (ht : o.dst = some t) (hn : t < n) : ∀ (l : List (Oper × Res)) (i k : Nat) (T : Nat → AV), l[k]? = some (o, r) → S (i + k) = true →
    (∀ j x, k < j → l[j]? = some x → x.1.dst = some t → S (i + j) = false) → tS n S i l T t = r.v
  | [], _, _, _, h, _, _ => by simp at h
  | (o', r') :: l, i, 0, T, h, hs, hl => by
    simp only [List.getElem?_cons_zero, Option.some.injEq, Prod.mk.injEq] at h
    obtain ⟨rfl, rfl⟩ := h
    simp only [tS]
    rw [Nat.add_zero] at hs
    rw [if_pos hs, tS_congr (S' := fun _ => false) (T' := updT n T o'.dst r'.v) l (i + 1) _ rfl (fun j x hx hd => by have := hl (j + 1) x (by omega) hx hd; rwa [show i + (j + 1) = i + 1 + j by omega] at this)]
    have : ∀ (l : List (Oper × Res)) (i : Nat) (U : Nat → AV), tS n (fun _ => false) i l U = U := by
      intro l; induction l with
      | nil => intro i U; rfl
      | cons x l ih => intro i U; obtain ⟨o, r⟩ := x; simp only [tS]; exact ih _ _
    rw [this]
    unfold updT; rw [ht]; simp [hn]
  | (o', r') :: l, i, k + 1, T, h, hs, hl => by
    simp only [tS]
    exact tS_last ht hn l (i + 1) k _ h (by rw [show i + 1 + k = i + (k + 1) by omega]; exact hs)
      (fun j x hj hx hd => by have := hl (j + 1) x (by omega) hx hd; rwa [show i + (j + 1) = i + 1 + j by omega] at this)
theorem hS_last {S : Nat → Bool} {b : Nat} {o : Oper} {r : Res} (hb : b ∈ r.wb.map (·.1)) : ∀ (l : List (Oper × Res)) (i k : Nat) (H H' : Nat → Option ABox), l[k]? = some (o, r) → S (i + k) = true →
    (∀ j x, k < j → l[j]? = some x → b ∈ x.2.wb.map (·.1) → S (i + j) = false) → hS S i l H b = updL H' r.wb b
  | [], _, _, _, _, h, _, _ => by simp at h
  | (o', r') :: l, i, 0, H, H', h, hs, hl => by
    simp only [List.getElem?_cons_zero, Option.some.injEq, Prod.mk.injEq] at h
    obtain ⟨rfl, rfl⟩ := h
    simp only [hS]
    rw [Nat.add_zero] at hs
    rw [if_pos hs, hS_congr (S' := fun _ => false) (H' := updL H r'.wb) l (i + 1) _ rfl (fun j x hx hd => by have := hl (j + 1) x (by omega) hx hd; rwa [show i + (j + 1) = i + 1 + j by omega] at this)]
    have : ∀ (l : List (Oper × Res)) (i : Nat) (U : Nat → Option ABox), hS (fun _ => false) i l U = U := by
      intro l; induction l with
      | nil => intro i U; rfl
      | cons x l ih => intro i U; obtain ⟨o, r⟩ := x; simp only [hS]; exact ih _ _
    rw [this]
    exact updL_key _ _ _ _ hb
  | (o', r') :: l, i, k + 1, H, H', h, hs, hl => by
    simp only [hS]
    exact hS_last hb l (i + 1) k _ H' h (by rw [show i + 1 + k = i + (k + 1) by omega]; exact hs)
      (fun j x hj hx hd => by have := hl (j + 1) x (by omega) hx hd; rwa [show i + (j + 1) = i + 1 + j by omega] at this)
theorem cls_spec {S : Nat → Bool} {ops : List Oper} (hS : ∀ j o, ops[j]? = some o → S j = true → ∀ e ∈ o.after.toList, Region.binds .any e = true → S e.on = true) :
    ∀ (os : List Oper) (acc : List Nat), ops.drop acc.length = os → (∀ j, j < acc.length → S j = true → ∀ i, (acc.getD j 0).testBit i = true → S i = true) →
      ∀ j, j < ops.length → S j = true → ∀ i, ((cls os acc).getD j 0).testBit i = true → S i = true
  | [], acc, hd, hacc, j, hj, hs, i, hi => by
    have : ops.length ≤ acc.length := by
      have := congrArg List.length hd; simp at this; omega
    exact hacc j (by omega) hs i hi
  | o :: os, acc, hd, hacc, j, hj, hs, i, hi => by
    simp only [cls] at hi
    refine cls_spec hS os _ ?_ ?_ j hj hs i hi
    · rw [List.length_append, ← List.drop_drop, hd]; rfl
    · intro j hj hs i hi
      by_cases hlt : j < acc.length
      · rw [List.getD_eq_getElem?_getD, List.getElem?_append_left hlt, ← List.getD_eq_getElem?_getD] at hi
        exact hacc j hlt hs i hi
      · have hje : j = acc.length := by simp at hj; omega
        subst hje
        rw [List.getD_eq_getElem?_getD, List.getElem?_append_right (Nat.le_refl _)] at hi
        simp only [Nat.sub_self, List.getElem?_cons_zero, Option.getD_some] at hi
        have ho : ops[acc.length]? = some o := by
          have : (ops.drop acc.length)[0]? = some o := by rw [hd]; rfl
          rwa [List.getElem?_drop, Nat.add_zero] at this
        have hcl := hS _ o ho hs
        have key : ∀ (es : List Edge) (s : Nat), (∀ e ∈ es, Region.binds .any e = true → S e.on = true) → (∀ i, s.testBit i = true → S i = true) →
            ∀ i, (es.foldl (fun s e => if Region.binds .any e then s ||| 2 ^ e.on ||| acc.getD e.on 0 else s) s).testBit i = true → S i = true := by
          intro es
          induction es with
          | nil => exact fun s _ hs i hi => hs i hi
          | cons e es ih =>
            intro s he hs i hi
            refine ih _ (fun e' h' => he e' (List.mem_cons_of_mem _ h')) ?_ i hi
            intro i hi
            simp only at hi
            split at hi
            · rename_i hb
              have hon := he e (List.mem_cons_self ..) hb
              simp only [Nat.testBit_or, Bool.or_eq_true, Nat.testBit_two_pow, decide_eq_true_eq] at hi
              rcases hi with (hi | hi) | hi
              · exact hs i hi
              · rw [← hi]; exact hon
              · by_cases hlt : e.on < acc.length
                · exact hacc e.on hlt hon i hi
                · rw [List.getD_eq_getElem?_getD, List.getElem?_eq_none (by omega)] at hi; simp at hi
            · exact hs i hi
        exact key o.after.toList 0 hcl (fun i hi => by simp at hi) i hi
section
variable {C : Cx}
theorem tS_shift {n : Nat} {S S' : Nat → Bool} : ∀ (l : List (Oper × Res)) (i i' : Nat) (T : Nat → AV), (∀ j, S (i + j) = S' (i' + j)) → tS n S i l T = tS n S' i' l T
  | [], _, _, _, _ => rfl
  | (o, r) :: l, i, i', T, h => by
    simp only [tS]
    have h0 := h 0
    simp only [Nat.add_zero] at h0
    rw [h0]
    exact tS_shift l (i + 1) (i' + 1) _ (fun j => by have := h (j + 1); rwa [show i + (j + 1) = i + 1 + j by omega, show i' + (j + 1) = i' + 1 + j by omega] at this)
theorem hS_shift {S S' : Nat → Bool} : ∀ (l : List (Oper × Res)) (i i' : Nat) (H : Nat → Option ABox), (∀ j, S (i + j) = S' (i' + j)) → hS S i l H = hS S' i' l H
  | [], _, _, _, _ => rfl
  | (o, r) :: l, i, i', H, h => by
    simp only [hS]
    have h0 := h 0
    simp only [Nat.add_zero] at h0
    rw [h0]
    exact hS_shift l (i + 1) (i' + 1) _ (fun j => by have := h (j + 1); rwa [show i + (j + 1) = i + 1 + j by omega, show i' + (j + 1) = i' + 1 + j by omega] at this)
theorem tS_none {n : Nat} {S : Nat → Bool} : ∀ (l : List (Oper × Res)) (i : Nat) (T : Nat → AV), (∀ j, S (i + j) = false) → tS n S i l T = T
  | [], _, _, _ => rfl
  | (o, r) :: l, i, T, h => by
    simp only [tS]
    have h0 := h 0
    simp only [Nat.add_zero] at h0
    rw [h0]
    exact tS_none l (i + 1) _ (fun j => by have := h (j + 1); rwa [show i + (j + 1) = i + 1 + j by omega] at this)
theorem hS_none {S : Nat → Bool} : ∀ (l : List (Oper × Res)) (i : Nat) (H : Nat → Option ABox), (∀ j, S (i + j) = false) → hS S i l H = H
  | [], _, _, _ => rfl
  | (o, r) :: l, i, H, h => by
    simp only [hS]
    have h0 := h 0
    simp only [Nat.add_zero] at h0
    rw [h0]
    exact hS_none l (i + 1) _ (fun j => by have := h (j + 1); rwa [show i + (j + 1) = i + 1 + j by omega] at this)
theorem tS_ge {n : Nat} {S : Nat → Bool} {t : Nat} (ht : n ≤ t) : ∀ (l : List (Oper × Res)) (i : Nat) (T : Nat → AV), tS n S i l T t = T t
  | [], _, _ => rfl
  | (o, r) :: l, i, T => by
    simp only [tS]
    rw [tS_ge ht l (i + 1)]
    split
    · unfold updT
      cases o.dst with
      | none => rfl
      | some d => simp only; rw [if_neg]; omega
    · rfl
def startN (rs : List Res) (nx k : Nat) : Nat := endN (rs.take k) nx
theorem endN_le : ∀ (rs : List Res) (nx : Nat), nx ≤ endN rs nx
  | [], nx => Nat.le_refl nx
  | r :: rs, nx => Nat.le_trans (Nat.le_add_right _ _) (endN_le rs (nx + r.nw))
theorem startN_succ : ∀ (rs : List Res) (nx k : Nat) (r : Res), rs[k]? = some r → startN rs nx (k + 1) = startN rs nx k + r.nw
  | [], _, _, _, h => by simp at h
  | r' :: rs, nx, 0, r, h => by
    simp only [List.getElem?_cons_zero, Option.some.injEq] at h; subst h; simp [startN, endN]
  | r' :: rs, nx, k + 1, r, h => by
    have := startN_succ rs (nx + r'.nw) k r (by simpa using h)
    simpa [startN, endN] using this
theorem startN_mono (rs : List Res) (nx : Nat) : ∀ (k j : Nat), j ≤ k → startN rs nx j ≤ startN rs nx k
  | 0, j, h => by rw [show j = 0 by omega]; exact Nat.le_refl _
  | k + 1, j, h => by
    by_cases hj : j = k + 1
    · rw [hj]; exact Nat.le_refl _
    · refine Nat.le_trans (startN_mono rs nx k j (by omega)) ?_
      cases hr : rs[k]? with
      | some r => rw [startN_succ rs nx k r hr]; omega
      | none =>
        have : rs.length ≤ k := by simpa using hr
        unfold startN; rw [List.take_of_length_le (by omega), List.take_of_length_le (by omega)]; exact Nat.le_refl _
theorem chain_get {ds : List (Option Nat)} : ∀ (os : List Oper) (rs : List Res) (T : List (Nat × AV)) (H : List (Nat × ABox)) (nx : Nat), Chain C ds os rs T H nx →
    ∀ (k : Nat) (o : Oper) (r : Res), (os.zip rs)[k]? = some (o, r) →
      GOpS C ds o (tS C.n (fun j => decide (j < k)) 0 (os.zip rs) (lk T)) (hS (fun j => decide (j < k)) 0 (os.zip rs) (hk H)) (startN rs nx k) r
  | [], _, _, _, _, _, _, _, _, hk => by simp at hk
  | _ :: _, [], _, _, _, h, _, _, _, _ => h.elim
  | o' :: os, r' :: rs, T, H, nx, h, 0, o, r, hk => by
    simp only [List.zip_cons_cons, List.getElem?_cons_zero, Option.some.injEq, Prod.mk.injEq] at hk
    obtain ⟨rfl, rfl⟩ := hk
    rw [tS_none _ _ _ (fun j => by simp), hS_none _ _ _ (fun j => by simp)]
    exact h.1
  | o' :: os, r' :: rs, T, H, nx, h, k + 1, o, r, hkk => by
    have := chain_get os rs _ _ _ h.2 k o r (by simpa using hkk)
    have e1 : tS C.n (fun j => decide (j < k + 1)) 0 ((o' :: os).zip (r' :: rs)) (lk T) = tS C.n (fun j => decide (j < k)) 0 (os.zip rs) (lk (setT C.n T o'.dst r'.v)) := by
      simp only [List.zip_cons_cons, tS, Nat.zero_lt_succ, decide_true, if_true, lk_setT]
      exact tS_shift _ _ _ _ (fun j => by simp; omega)
    have e2 : hS (fun j => decide (j < k + 1)) 0 ((o' :: os).zip (r' :: rs)) (hk H) = hS (fun j => decide (j < k)) 0 (os.zip rs) (hk (hputs H r'.wb)) := by
      simp only [List.zip_cons_cons, hS, Nat.zero_lt_succ, decide_true, if_true, hk_hputs]
      exact hS_shift _ _ _ _ (fun j => by simp; omega)
    have e3 : startN (r' :: rs) nx (k + 1) = startN rs (nx + r'.nw) k := rfl
    rw [e1, e2, e3]
    exact this
theorem chain_end {ds : List (Option Nat)} : ∀ (os : List Oper) (rs : List Res) (T : List (Nat × AV)) (H : List (Nat × ABox)) (nx : Nat), Chain C ds os rs T H nx →
    ∀ S : Nat → Bool, ∀ i, (∀ j, j < os.length → S (i + j) = true) → tS C.n S i (os.zip rs) (lk T) = lk (endT C.n os rs T) ∧ hS S i (os.zip rs) (hk H) = hk (endH rs H) ∧ rs.length = os.length
  | [], [], _, _, _, _, _, _, _ => ⟨rfl, rfl, rfl⟩
  | [], _ :: _, _, _, _, h, _, _, _ => h.elim
  | _ :: _, [], _, _, _, h, _, _, _ => h.elim
  | o :: os, r :: rs, T, H, nx, h, S, i, hS' => by
    have h0 := hS' 0 (by simp)
    rw [Nat.add_zero] at h0
    obtain ⟨h1, h2, h3⟩ := chain_end os rs _ _ _ h.2 S (i + 1) (fun j hj => by have := hS' (j + 1) (by simpa using hj); rwa [show i + (j + 1) = i + 1 + j by omega] at this)
    simp only [List.zip_cons_cons, tS, hS, h0, if_true, endT, endH, ← lk_setT, ← hk_hputs]
    exact ⟨h1, h2, by simp [h3]⟩
def DS (rs : List Res) (nx : Nat) (S : Nat → Bool) (c : Nat) : Prop := c < nx ∨ ∃ j r, rs[j]? = some r ∧ S j = true ∧ startN rs nx j ≤ c ∧ c < startN rs nx j + r.nw
theorem regOk_spec {ops : List Oper} {fps : List FP} (h : regOk ops fps = true) (hl : fps.length = ops.length) :
    (∀ j oj, ops[j]? = some oj → ∀ e ∈ oj.after.toList, Region.binds .any e = true → e.on < j) ∧
    ∀ i j oi oj fi fj, i < j → ops[i]? = some oi → ops[j]? = some oj → fps[i]? = some fi → fps[j]? = some fj → ((cls ops []).getD j 0).testBit i = false → apart (ops.map (·.dst)) oi oj fi fj = true := by
  have hz : ∀ (k : Nat) (o : Oper) (f : FP), ops[k]? = some o → fps[k]? = some f → ((o, f), k) ∈ (ops.zip fps).zipIdx := by
    intro k o f ho hf
    rw [List.mem_zipIdx_iff_getElem?]
    rw [List.getElem?_zip_eq_some]
    exact ⟨ho, hf⟩
  unfold regOk at h
  rw [List.all_eq_true] at h
  refine ⟨fun j oj hj e he hb => ?_, fun i j oi oj fi fj hij hi hj hfi hfj hbit => ?_⟩
  · have hlt : j < fps.length := by rw [hl]; exact (List.getElem?_eq_some_iff.1 hj).1
    have := h _ (hz j oj fps[j] hj (List.getElem?_eq_getElem hlt))
    simp only [Bool.and_eq_true] at this
    have := List.all_eq_true.1 this.1 e he
    simpa [hb] using this
  · have := h _ (hz j oj fj hj hfj)
    simp only [Bool.and_eq_true] at this
    have := List.all_eq_true.1 this.2 _ (hz i oi fi hi hfi)
    rw [Bool.or_eq_true, Bool.or_eq_true] at this
    rcases this with (h1 | h1) | h1
    · simp [hij] at h1
    · rw [hbit] at h1; cases h1
    · exact h1
theorem apart_spec {ds : List (Option Nat)} {oi oj : Oper} {fi fj : FP} (h : apart ds oi oj fi fj = true) :
    (∀ t, oi.dst = some t → t ∉ rdT ds oj) ∧ (∀ t, oi.dst = some t → oj.dst ≠ some t) ∧ (∀ t, oj.dst = some t → t ∉ rdT ds oi) ∧
    (∀ b, b ∈ fi.2 → b ∉ fj.1) ∧ (∀ b, b ∈ fi.2 → b ∉ fj.2) ∧ (∀ b, b ∈ fj.2 → b ∉ fi.1) := by
  unfold apart at h
  simp only [Bool.and_eq_true] at h
  obtain ⟨⟨⟨⟨⟨h1, h2⟩, h3⟩, h4⟩, h5⟩, h6⟩ := h
  refine ⟨fun t ht => disj_spec h1 (by simp [ht]), fun t ht ht' => disj_spec h2 (x := t) (by simp [ht]) (by simp [ht']), fun t ht hm => disj_spec h3 hm (by simp [ht]),
    fun b hb => disj_spec h4 hb, fun b hb => disj_spec h5 hb, fun b hb hm => disj_spec h6 hm hb⟩
theorem any_sound {ops : Array Oper} {rs : List Res} {T : List (Nat × AV)} {H : List (Nat × ABox)} {nx : Nat} {Q : Exit → Act → World → Prop}
    (hc : Chain C (ops.toList.map (·.dst)) ops.toList rs T H nx) (hok : regOk ops.toList (rs.map Res.fp) = true)
    (hq : ∀ g' a' w', Rel C (lk (endT C.n ops.toList rs T)) (hk (endH rs H)) (fun c => c < endN rs nx) g' a' w' → Q .normal a' w') :
    ∀ (fuel : Nat) (listed : Array Bool) (g : Nat → List Value) (a : Act) (w : World), listed.size = ops.size → listed.toList.count false ≤ fuel →
      (∀ j o, ops.toList[j]? = some o → listed.getD j false = true → ∀ e ∈ o.after.toList, Region.binds .any e = true → listed.getD e.on false = true) →
      Rel C (tS C.n (fun j => listed.getD j false) 0 (ops.toList.zip rs) (lk T)) (hS (fun j => listed.getD j false) 0 (ops.toList.zip rs) (hk H)) (DS rs nx fun j => listed.getD j false) g a w →
      wpAny C.P .any ops Q fuel listed a w := by
  have hrl : rs.length = ops.toList.length := (chain_end _ _ _ _ _ hc (fun _ => true) 0 (fun _ _ => rfl)).2.2
  obtain ⟨hedge, hapart⟩ := regOk_spec hok (by simpa using hrl)
  have hdone : ∀ (listed : Array Bool) (g : Nat → List Value) (a : Act) (w : World), (∀ j, j < ops.size → listed.getD j false = true) →
      Rel C (tS C.n (fun j => listed.getD j false) 0 (ops.toList.zip rs) (lk T)) (hS (fun j => listed.getD j false) 0 (ops.toList.zip rs) (hk H)) (DS rs nx fun j => listed.getD j false) g a w → Q .normal a w := by
    intro listed g a w hall hr
    obtain ⟨e1, e2, _⟩ := chain_end _ _ _ _ _ hc (fun j => listed.getD j false) 0 (fun j hj => by rw [Nat.zero_add]; exact hall j (by simpa using hj))
    rw [e1, e2] at hr
    refine hq g a w (hr.dmono fun c hcc => ?_)
    rcases hcc with hcc | ⟨j, r, hj, _, _, h2⟩
    · exact Nat.lt_of_lt_of_le hcc (endN_le rs nx)
    · have h3 := startN_succ rs nx j r hj
      have hlt : j < rs.length := (List.getElem?_eq_some_iff.1 hj).1
      have h4 := startN_mono rs nx rs.length (j + 1) (by omega)
      have h5 : startN rs nx rs.length = endN rs nx := by unfold startN; rw [List.take_length]
      omega
  have hleast : ∀ listed : Array Bool, listed.size = ops.size → Region.ready .any ops listed = [] → ∀ j, j < ops.size → listed.getD j false = true := by
    intro listed hsz hrd j
    induction j using Nat.strongRecOn with
    | _ j ih =>
      intro hj
      cases hlj : listed.getD j false with
      | true => rfl
      | false =>
        exfalso
        have hmem : j ∈ Region.ready .any ops listed := by
          unfold Region.ready
          rw [List.mem_filter]
          refine ⟨by simpa using hj, ?_⟩
          have h1 : listed.getD j true = false := by
            have hjs : j < listed.size := by omega
            rw [arr_getD _ _ _ hjs] at hlj ⊢
            exact hlj
          rw [h1]
          simp only [Bool.not_false, Bool.true_and, Array.getElem?_eq_getElem hj, Option.map_some, Option.getD_some]
          rw [Array.all_eq_true']
          intro e he
          cases hb : Region.binds .any e with
          | false => rfl
          | true =>
            have hlt := hedge j ops[j] (by simp [hj]) e (by simpa using he) hb
            simp [ih e.on hlt (by omega)]
        rw [hrd] at hmem; simp at hmem
  intro fuel
  induction fuel with
  | zero =>
    intro listed g a w hsz hcnt hcl hr
    have hall : ∀ j, j < ops.size → listed.getD j false = true := by
      intro j hj
      have hjs : j < listed.size := by omega
      have h0 : listed.toList.count false = 0 := by omega
      rw [List.count_eq_zero] at h0
      rw [arr_getD _ _ _ hjs]
      cases hv : listed[j] with
      | true => rfl
      | false => exact absurd (by rw [← hv]; simp) h0
    refine ⟨?_, hdone listed g a w hall hr⟩
    unfold Region.ready
    rw [List.filter_eq_nil_iff]
    intro j hj
    have hj' : j < ops.size := by simpa using hj
    have hjs : j < listed.size := by omega
    have := hall j hj'
    rw [arr_getD _ _ _ hjs] at this ⊢
    simp [this]
  | succ fuel ih =>
    intro listed g a w hsz hcnt hcl hr
    refine ⟨fun hrd => hdone listed g a w (hleast listed hsz hrd) hr, fun i hi => ?_⟩
    unfold Region.ready at hi
    rw [List.mem_filter] at hi
    obtain ⟨hi1, hi2⟩ := hi
    have hilt : i < ops.size := by simpa using hi1
    have hils : i < listed.size := by omega
    simp only [Bool.and_eq_true, Bool.not_eq_true', Array.getElem?_eq_getElem hilt, Option.map_some, Option.getD_some] at hi2
    obtain ⟨hli, hpre⟩ := hi2
    have hli' : listed.getD i false = false := by rw [arr_getD _ _ _ hils] at hli ⊢; exact hli
    have hpre' : ∀ e ∈ ops[i].after.toList, Region.binds .any e = true → listed.getD e.on false = true := by
      intro e he hb
      rw [Array.all_eq_true'] at hpre
      have := hpre e (by simpa using he)
      simpa [hb] using this
    have hoi : ops.toList[i]? = some ops[i] := by simp [hilt]
    have hirs : i < rs.length := by rw [hrl]; simpa using hilt
    have hri : rs[i]? = some rs[i] := List.getElem?_eq_getElem hirs
    have hzi : (ops.toList.zip rs)[i]? = some (ops[i], rs[i]) := List.getElem?_zip_eq_some.2 ⟨hoi, hri⟩
    have hcls := cls_spec (S := fun j => listed.getD j false) hcl ops.toList [] (by simp) (fun j hj => by simp at hj)
    have hfp : ∀ (k : Nat) (r : Res), rs[k]? = some r → (rs.map Res.fp)[k]? = some r.fp := fun k r hk => by rw [List.getElem?_map, hk]; rfl
    have hA : ∀ j oj rj, j < i → listed.getD j false = false → (ops.toList.zip rs)[j]? = some (oj, rj) → apart (ops.toList.map (·.dst)) oj ops[i] rj.fp rs[i].fp = true := by
      intro j oj rj hji hlj hz
      obtain ⟨ho, hrj⟩ := List.getElem?_zip_eq_some.1 hz
      refine hapart j i oj ops[i] rj.fp rs[i].fp hji ho hoi (hfp j rj hrj) (hfp i _ hri) ?_
      cases hb : ((cls ops.toList []).getD i 0).testBit j with
      | false => rfl
      | true =>
        exfalso
        have hcl2 : ∀ k o, ops.toList[k]? = some o → (listed.getD k false || decide (k = i)) = true → ∀ e ∈ o.after.toList, Region.binds .any e = true → (listed.getD e.on false || decide (e.on = i)) = true := by
          intro k o hko hk e he hbe
          rw [Bool.or_eq_true] at hk ⊢
          rcases hk with hk | hk
          · exact .inl (hcl k o hko hk e he hbe)
          · have : k = i := by simpa using hk
            subst this
            rw [hoi] at hko
            injection hko with hko
            subst hko
            exact .inl (hpre' e he hbe)
        have := cls_spec (S := fun k => listed.getD k false || decide (k = i)) hcl2 ops.toList [] (by simp) (fun j hj => by simp at hj) i (by simpa using hilt) (by simp) j hb
        simp only [hlj, Bool.false_or, decide_eq_true_eq] at this
        omega
    have hB : ∀ j oj rj, i < j → listed.getD j false = true → (ops.toList.zip rs)[j]? = some (oj, rj) → apart (ops.toList.map (·.dst)) ops[i] oj rs[i].fp rj.fp = true := by
      intro j oj rj hij hlj hz
      obtain ⟨ho, hrj⟩ := List.getElem?_zip_eq_some.1 hz
      refine hapart i j ops[i] oj rs[i].fp rj.fp hij hoi ho (hfp i _ hri) (hfp j rj hrj) ?_
      cases hb : ((cls ops.toList []).getD j 0).testBit i with
      | false => rfl
      | true =>
        have hjl : j < ops.toList.length := (List.getElem?_eq_some_iff.1 ho).1
        have := hcls j hjl hlj i hb
        simp only [hli'] at this
        cases this
    have hgops := chain_get _ _ _ _ _ hc i ops[i] rs[i] hzi
    have hrdT : ∀ t, t ∈ rdT (ops.toList.map (·.dst)) ops[i] → tS C.n (fun j => listed.getD j false) 0 (ops.toList.zip rs) (lk T) t = tS C.n (fun j => decide (j < i)) 0 (ops.toList.zip rs) (lk T) t := by
      intro t ht
      refine tS_congr _ 0 _ _ rfl fun j x hx hd => ?_
      obtain ⟨oj, rj⟩ := x
      rw [Nat.zero_add]
      rcases Nat.lt_trichotomy j i with hji | hji | hji
      · simp only [hji, decide_true]
        cases hlj : listed.getD j false with
        | true => rfl
        | false => exact absurd ht ((apart_spec (hA j oj rj hji hlj hx)).1 t hd)
      · subst hji; simp [hli']
      · have : ¬ j < i := by omega
        simp only [this, decide_false]
        cases hlj : listed.getD j false with
        | false => rfl
        | true => exact absurd ht ((apart_spec (hB j oj rj hji hlj hx)).2.2.1 t hd)
    have hrdB : ∀ b, b ∈ rs[i].rb → hS (fun j => listed.getD j false) 0 (ops.toList.zip rs) (hk H) b = hS (fun j => decide (j < i)) 0 (ops.toList.zip rs) (hk H) b := by
      intro b hb
      refine hS_congr _ 0 _ _ rfl fun j x hx hd => ?_
      obtain ⟨oj, rj⟩ := x
      rw [Nat.zero_add]
      rcases Nat.lt_trichotomy j i with hji | hji | hji
      · simp only [hji, decide_true]
        cases hlj : listed.getD j false with
        | true => rfl
        | false => exact absurd hb ((apart_spec (hA j oj rj hji hlj hx)).2.2.2.1 b hd)
      · subst hji; simp [hli']
      · have : ¬ j < i := by omega
        simp only [this, decide_false]
        cases hlj : listed.getD j false with
        | false => rfl
        | true => exact absurd hb ((apart_spec (hB j oj rj hji hlj hx)).2.2.2.2.2 b hd)
    have hnew : ∀ m, m < rs[i].nw → ¬ DS rs nx (fun j => listed.getD j false) (startN rs nx i + m) := by
      rintro m hm (h | ⟨j, r, hj, hlj, h1, h2⟩)
      · have : nx ≤ startN rs nx i := endN_le _ _
        omega
      · rcases Nat.lt_trichotomy j i with hji | hji | hji
        · have h3 := startN_succ rs nx j r hj
          have h4 := startN_mono rs nx i (j + 1) (by omega)
          omega
        · subst hji; simp only [hli'] at hlj; cases hlj
        · have h3 := startN_succ rs nx i _ hri
          have h4 := startN_mono rs nx j (i + 1) (by omega)
          omega
    have hset : ∀ j, (listed.setIfInBounds i true).getD j false = (listed.getD j false || decide (j = i)) := by
      intro j
      rw [Array.getD_eq_getD_getElem?, Array.getD_eq_getD_getElem?, Array.getElem?_setIfInBounds]
      by_cases hji : i = j
      · subst hji; simp [hils]
      · have : ¬ j = i := fun e => hji e.symm
        simp [hji, this]
    have hwp := hgops _ _ _ g a w hr (fun x hx => ?_) (fun j want d hg hd => ?_) hrdB hnew ops rfl (wpAny C.P .any ops Q fuel (listed.setIfInBounds i true)) Q fun v w' g' h1 h2 => ?_
    · unfold wpOp
      simp only [Array.getElem?_eq_getElem hilt]
      split
      · rename_i hw; rw [if_pos hw] at hwp; exact .inl hwp
      · rename_i hw; rw [if_neg hw] at hwp; exact hwp
    · cases x with
      | tmp t => exact hrdT t (by unfold rdT; simp only [List.mem_append, List.mem_filterMap]; exact .inl ⟨.tmp t, by simpa using hx, rfl⟩)
      | _ => rfl
    · refine hrdT d ?_
      unfold rdT
      rw [hg]
      simp only [hd, List.mem_append]
      exact .inr (by simp)
    · refine ih (listed.setIfInBounds i true) g' _ w' (by simp [hsz]) ?_ ?_ ?_
      · have hcount : (listed.setIfInBounds i true).toList.count false + 1 = listed.toList.count false := by
          rw [Array.toList_setIfInBounds]
          have hv : listed.toList[i]'(by simpa using hils) = false := by
            have := hli'; rw [arr_getD _ _ _ hils] at this; simpa using this
          rw [List.count_set (by simpa using hils), hv]
          have h0 : 0 < listed.toList.count false := List.count_pos_iff.2 (by rw [← hv]; exact List.getElem_mem _)
          have e1 : (false == false) = true := rfl
          have e2 : (true == false) = false := rfl
          simp only [e1, e2, if_true, Bool.false_eq_true, if_false]
          omega
        omega
      · intro j o ho hlj e he hb
        rw [hset] at hlj ⊢
        rw [Bool.or_eq_true] at hlj ⊢
        rcases hlj with hlj | hlj
        · exact .inl (hcl j o ho hlj e he hb)
        · have : j = i := by simpa using hlj
          subst this
          rw [hoi] at ho
          injection ho with ho
          subst ho
          exact .inl (hpre' e he hb)
      · have hrel := h1.put ops[i].dst h2
        have eT : updT C.n (tS C.n (fun j => listed.getD j false) 0 (ops.toList.zip rs) (lk T)) ops[i].dst rs[i].v =
            tS C.n (fun j => (listed.setIfInBounds i true).getD j false) 0 (ops.toList.zip rs) (lk T) := by
          funext t
          by_cases ht : ops[i].dst = some t ∧ t < C.n
          · rw [tS_last ht.1 ht.2 _ 0 i _ hzi (by rw [Nat.zero_add, hset]; simp) (fun j x hij hx hd => ?_)]
            · unfold updT; rw [ht.1]; simp [ht.2]
            · obtain ⟨oj, rj⟩ := x
              rw [Nat.zero_add, hset]
              have hne : ¬ j = i := by omega
              simp only [hne, decide_false, Bool.or_false]
              cases hlj : listed.getD j false with
              | false => rfl
              | true => exact absurd hd ((apart_spec (hB j oj rj hij hlj hx)).2.1 t ht.1)
          · have hu : updT C.n (tS C.n (fun j => listed.getD j false) 0 (ops.toList.zip rs) (lk T)) ops[i].dst rs[i].v t = tS C.n (fun j => listed.getD j false) 0 (ops.toList.zip rs) (lk T) t := by
              unfold updT
              cases hdd : ops[i].dst with
              | none => rfl
              | some d => simp only; rw [if_neg]; rintro ⟨rfl, h⟩; exact ht ⟨hdd, h⟩
            rw [hu]
            by_cases hge : C.n ≤ t
            · rw [tS_ge hge, tS_ge hge]
            · refine tS_congr _ 0 _ _ rfl fun j x hx hd => ?_
              rw [Nat.zero_add, hset]
              by_cases hji : j = i
              · subst hji
                rw [hzi] at hx
                injection hx with hx
                subst hx
                exact absurd ⟨hd, by omega⟩ ht
              · simp [hji]
        have eH : updL (hS (fun j => listed.getD j false) 0 (ops.toList.zip rs) (hk H)) rs[i].wb = hS (fun j => (listed.setIfInBounds i true).getD j false) 0 (ops.toList.zip rs) (hk H) := by
          funext b
          by_cases hb : b ∈ rs[i].wb.map (·.1)
          · rw [hS_last hb _ 0 i (hk H) (hS (fun j => listed.getD j false) 0 (ops.toList.zip rs) (hk H)) hzi (by rw [Nat.zero_add, hset]; simp) (fun j x hij hx hd => ?_)]
            obtain ⟨oj, rj⟩ := x
            rw [Nat.zero_add, hset]
            have hne : ¬ j = i := by omega
            simp only [hne, decide_false, Bool.or_false]
            cases hlj : listed.getD j false with
            | false => rfl
            | true => exact absurd hd ((apart_spec (hB j oj rj hij hlj hx)).2.2.2.2.1 b hb)
          · rw [updL_other _ _ _ hb]
            refine hS_congr _ 0 _ _ rfl fun j x hx hd => ?_
            rw [Nat.zero_add, hset]
            by_cases hji : j = i
            · subst hji
              rw [hzi] at hx
              injection hx with hx
              subst hx
              exact absurd hd hb
            · simp [hji]
        rw [eT, eH] at hrel
        refine hrel.dmono fun c hcc => ?_
        rcases hcc with (hcc | ⟨j, r, hj, hlj, h3⟩) | hcc
        · exact .inl hcc
        · exact .inr ⟨j, r, hj, by simp only [hset]; simp only at hlj; rw [hlj]; rfl, h3⟩
        · exact .inr ⟨i, rs[i], hri, by simp only [hset]; simp, hcc⟩
theorem region_any {id n : Nat} {P : Program} {ops : Array Oper} {T : List (Nat × AV)} {H : List (Nat × ABox)} {nx : Nat} {K : List (Nat × AV) → List (Nat × ABox) → Nat → List FP → Prop} {Q : Exit → Act → World → Prop}
    {g : Nat → List Value} {a : Act} {w : World} (hP : C.P = P) (hn : C.n = n) (hm : P.follows .mixedOrders = true) (h : arun P n (ops.toList.map (·.dst)) ops.toList T H nx [] K) (hr : Rel C (lk T) (hk H) (fun c => c < nx) g a w)
    (hok : ∀ T' H' nx' fps, K T' H' nx' fps → regOk ops.toList fps = true)
    (hq : ∀ T' H' nx' fps g' a' w', K T' H' nx' fps → Rel C (lk T') (hk H') (fun c => c < nx') g' a' w' → Q .normal a' w') : (Code.region id ops true).wp P Q a w := by
  subst hP; subst hn
  obtain ⟨rs, hl, hc, hK⟩ := arun_chain _ _ _ _ _ h
  have hok' := hok _ _ _ _ hK
  rw [List.nil_append] at hok' hK
  refine wp_region_any hm ?_
  have hz : ∀ j, (Array.replicate ops.size false).getD j false = false := by
    intro j
    rw [Array.getD_eq_getD_getElem?, Array.getElem?_replicate]
    split <;> rfl
  have e1 : tS C.n (fun j => (Array.replicate ops.size false).getD j false) 0 (ops.toList.zip rs) (lk T) = lk T := tS_none _ _ _ (fun j => hz _)
  have e2 : hS (fun j => (Array.replicate ops.size false).getD j false) 0 (ops.toList.zip rs) (hk H) = hk H := hS_none _ _ _ (fun j => hz _)
  refine any_sound hc hok' (fun g' a' w' hr' => hq _ _ _ _ g' a' w' hK hr') ops.size _ g a _ (by simp) (by simp [List.count_replicate]) (fun j o _ hj => by rw [hz] at hj; cases hj) ?_
  rw [e1, e2]
  exact hr.drew.dmono fun c hcc => .inl hcc
end
end Go.AL
/-
  The abstract logic: code, loops, and a function's contract out of its body. Conditions: the program follows the mixed orders.
-/
namespace Go.AL
open Go.RowKit
abbrev TT := List (Nat × AV)
abbrev HH := List (Nat × ABox)
def Tr (P : Program) (n : Nat) (c : Code) (T : TT) (H : HH) (nx : Nat) (Q : Exit → TT → HH → Nat → Prop) : Prop :=
  ∀ (C : Cx) (g : Nat → List Value) (a : Act) (w : World), C.P = P → C.n = n → Rel C (lk T) (hk H) (fun c => c < nx) g a w →
    c.wp P (fun e a' w' => ∃ T' H' nx' g', Q e T' H' nx' ∧ Rel C (lk T') (hk H') (fun c => c < nx') g' a' w') a w
def acond (x : Bool) (A B : Unit → Prop) : Prop := (x = true → A ()) ∧ (x = false → B ())
theorem acond_true {A B : Unit → Prop} (h : A ()) : acond true A B := ⟨fun _ => h, fun h => by cases h⟩
theorem acond_false {A B : Unit → Prop} (h : B ()) : acond false A B := ⟨(fun h => by cases h), fun _ => h⟩
theorem acond_split {x : Bool} {A B : Unit → Prop} (h : x = true → A ()) (h' : x = false → B ()) : acond x A B := ⟨h, h'⟩
def anb (k v : Bool) (A B : Unit → Prop) : Prop := ((k = true → v = true) → A ()) ∧ ((k = true → v = false) → B ())
def inB (id : Nat) : Exit → Exit
  | .exit id' => if id' = id then .normal else .exit id'
  | e => e
def nextQ (K : TT → HH → Nat → Prop) (Q : Exit → TT → HH → Nat → Prop) : Exit → TT → HH → Nat → Prop
  | .normal, T, H, nx => K T H nx
  | e, T, H, nx => Q e T H nx
def dchk (draw : Bool) (ops : List Oper) (fps : List FP) : Prop := match draw with
  | true => regOk ops fps = true
  | false => True
def QSc (Q : Exit → TT → HH → Nat → Prop) : Exit → TT → HH → Nat → Prop
  | .goto _, _, _, _ => False
  | e, T, H, nx => Q e T H nx
def acode (P : Program) (n : Nat) : Code → TT → HH → Nat → (Exit → TT → HH → Nat → Prop) → Prop
  | .skip, T, H, nx, Q => Q .normal T H nx
  | .region _ ops draw, T, H, nx, Q => arun P n (ops.toList.map (·.dst)) ops.toList T H nx [] fun T' H' nx' fps => dchk draw ops.toList fps ∧ Q .normal T' H' nx'
  | .seq a b, T, H, nx, Q => acode P n a T H nx (nextQ (fun T' H' nx' => acode P n b T' H' nx' Q) Q)
  | .cond c a b, T, H, nx, Q => match evO (lk T) c with
    | .sc (.bool x) => acond x (fun _ => acode P n a T H nx Q) (fun _ => acode P n b T H nx Q)
    | .nb k v => anb k v (fun _ => acode P n a T H nx Q) (fun _ => acode P n b T H nx Q)
    | _ => False
  | .block id c, T, H, nx, Q => acode P n c T H nx fun e => Q (inB id e)
  | .loop c, T, H, nx, Q => Tr P n (.loop c) T H nx Q
  | .scope c, T, H, nx, Q => acode P n c T H nx (QSc Q)
  | .exit id, T, H, nx, Q => Q (.exit id) T H nx
  | .label _, T, H, nx, Q => Q .normal T H nx
  | .ret, T, H, nx, Q => Q .ret T H nx
  | _, _, _, _, _ => False
def KReg (draw : Bool) (ops : List Oper) (Q : Exit → TT → HH → Nat → Prop) (T : TT) (H : HH) (nx : Nat) (fps : List FP) : Prop := dchk draw ops fps ∧ Q .normal T H nx
def KCode (P : Program) (n : Nat) (c : Code) (Q : Exit → TT → HH → Nat → Prop) (T : TT) (H : HH) (nx : Nat) : Prop := acode P n c T H nx Q
def KBr (P : Program) (n : Nat) (c : Code) (T : TT) (H : HH) (nx : Nat) (Q : Exit → TT → HH → Nat → Prop) (_ : Unit) : Prop := acode P n c T H nx Q
def QBlk (id : Nat) (Q : Exit → TT → HH → Nat → Prop) (e : Exit) (T : TT) (H : HH) (nx : Nat) : Prop := Q (inB id e) T H nx
section
variable (P : Program) (n : Nat) (T : TT) (H : HH) (nx : Nat) (Q : Exit → TT → HH → Nat → Prop)
theorem acode_skip : acode P n .skip T H nx Q = Q .normal T H nx := rfl
theorem acode_region (id : Nat) (ops : List Oper) (draw : Bool) : acode P n (.region id (List.toArray ops) draw) T H nx Q = arun P n (ops.map (·.dst)) ops T H nx [] (KReg draw ops Q) := rfl
theorem acode_seq (a b : Code) : acode P n (.seq a b) T H nx Q = acode P n a T H nx (nextQ (KCode P n b Q) Q) := rfl
theorem acode_block (id : Nat) (c : Code) : acode P n (.block id c) T H nx Q = acode P n c T H nx (QBlk id Q) := rfl
theorem acode_loop (c : Code) : acode P n (.loop c) T H nx Q = Tr P n (.loop c) T H nx Q := rfl
theorem acode_scope (c : Code) : acode P n (.scope c) T H nx Q = acode P n c T H nx (QSc Q) := rfl
theorem qsc_normal : QSc Q .normal T H nx = Q .normal T H nx := rfl
theorem qsc_ret : QSc Q .ret T H nx = Q .ret T H nx := rfl
theorem qsc_exit (id : Nat) : QSc Q (.exit id) T H nx = Q (.exit id) T H nx := rfl
theorem acode_exit (id : Nat) : acode P n (.exit id) T H nx Q = Q (.exit id) T H nx := rfl
theorem acode_label (l : Nat) : acode P n (.label l) T H nx Q = Q .normal T H nx := rfl
theorem acode_ret : acode P n .ret T H nx Q = Q .ret T H nx := rfl
def abr (v : AV) (A B : Unit → Prop) : Prop := match v with
  | .sc (.bool x) => acond x A B
  | .nb k v => anb k v A B
  | _ => False
theorem abr_nb (k v : Bool) (A B : Unit → Prop) : abr (.nb k v) A B = anb k v A B := rfl
theorem abr_bool (x : Bool) (A B : Unit → Prop) : abr (.sc (.bool x)) A B = acond x A B := rfl
theorem acode_cond (c : Operand) (a b : Code) : acode P n (.cond c a b) T H nx Q = abr (evO (lk T) c) (KBr P n a T H nx Q) (KBr P n b T H nx Q) := rfl
theorem kcode_ (c : Code) : KCode P n c Q T H nx = acode P n c T H nx Q := rfl
theorem kbr_ (c : Code) : KBr P n c T H nx Q () = acode P n c T H nx Q := rfl
theorem kreg_ (draw : Bool) (ops : List Oper) (fps : List FP) : KReg draw ops Q T H nx fps = (dchk draw ops fps ∧ Q .normal T H nx) := rfl
theorem dchk_false (ops : List Oper) (fps : List FP) : dchk false ops fps = True := rfl
theorem dchk_true (ops : List Oper) (fps : List FP) : dchk true ops fps = (regOk ops fps = true) := rfl
variable (K : TT → HH → Nat → Prop)
theorem nextQ_normal : nextQ K Q .normal T H nx = K T H nx := rfl
theorem nextQ_exit (id : Nat) : nextQ K Q (.exit id) T H nx = Q (.exit id) T H nx := rfl
theorem nextQ_ret : nextQ K Q .ret T H nx = Q .ret T H nx := rfl
theorem qblk_normal (id : Nat) : QBlk id Q .normal T H nx = Q .normal T H nx := rfl
theorem qblk_ret (id : Nat) : QBlk id Q .ret T H nx = Q .ret T H nx := rfl
theorem qblk_exit (id id' : Nat) : QBlk id Q (.exit id') T H nx = if id' = id then Q .normal T H nx else Q (.exit id') T H nx := by
  unfold QBlk; simp only [inB]; by_cases h : id' = id <;> simp [h]
end
theorem acode_sound {P : Program} {n : Nat} (hm : P.follows .mixedOrders = true) : ∀ (c : Code) (T : TT) (H : HH) (nx : Nat) (Q : Exit → TT → HH → Nat → Prop), acode P n c T H nx Q → Tr P n c T H nx Q
  | .skip, T, H, nx, Q, h => fun C g a w _ _ hr => wp_skip ⟨T, H, nx, g, h, hr⟩
  | .region id ops draw, T, H, nx, Q, h => fun C g a w hP hn hr => by
    cases draw with
    | false => exact region_seq hP hn h hr (fun T' H' nx' fps g' a' w' hK hr' => ⟨T', H', nx', g', hK.2, hr'⟩)
    | true => exact region_any hP hn hm h hr (fun T' H' nx' fps hK => hK.1) (fun T' H' nx' fps g' a' w' hK hr' => ⟨T', H', nx', g', hK.2, hr'⟩)
  | .seq x y, T, H, nx, Q, h => fun C g a w hP hn hr => by
    refine wp_seq (wp_mono (acode_sound hm x T H nx _ h C g a w hP hn hr) ?_)
    rintro e a' w' ⟨T', H', nx', g', hq, hr'⟩
    cases e with
    | normal => exact acode_sound hm y T' H' nx' Q hq C g' a' w' hP hn hr'
    | _ => exact ⟨T', H', nx', g', hq, hr'⟩
  | .cond c x y, T, H, nx, Q, h => fun C g a w hP hn hr => by
    simp only [acode] at h
    split at h
    · rename_i b hb
      have hc := hr.evO c
      rw [hb] at hc
      exact wp_cond_split hc.sc_inv (fun ht => acode_sound hm x T H nx Q (h.1 ht) C g a w hP hn hr) (fun hf => acode_sound hm y T H nx Q (h.2 hf) C g a w hP hn hr)
    · rename_i k v hb
      have hc := hr.evO c
      rw [hb] at hc
      obtain ⟨b, hv, hk⟩ := hc.nb_inv
      exact wp_cond_split hv (fun ht => acode_sound hm x T H nx Q (h.1 fun h => (hk h).symm.trans ht) C g a w hP hn hr) (fun hf => acode_sound hm y T H nx Q (h.2 fun h => (hk h).symm.trans hf) C g a w hP hn hr)
    · exact h.elim
  | .block id c, T, H, nx, Q, h => fun C g a w hP hn hr => by
    refine wp_block (wp_mono (acode_sound hm c T H nx _ h C g a w hP hn hr) ?_)
    rintro e a' w' ⟨T', H', nx', g', hq, hr'⟩
    cases e with
    | exit id' =>
      simp only [inB] at hq
      unfold Exit.inBlock
      by_cases hid : id' = id
      · rw [if_pos hid] at hq; simp only [hid, if_true]; exact ⟨T', H', nx', g', hq, hr'⟩
      · rw [if_neg hid] at hq; simp only [hid, if_false]; exact ⟨T', H', nx', g', hq, hr'⟩
    | _ => exact ⟨T', H', nx', g', hq, hr'⟩
  | .loop c, T, H, nx, Q, h => h
  | .exit id, T, H, nx, Q, h => fun C g a w _ _ hr => wp_exit ⟨T, H, nx, g, h, hr⟩
  | .label l, T, H, nx, Q, h => fun C g a w _ _ hr => wp_label ⟨T, H, nx, g, h, hr⟩
  | .ret, T, H, nx, Q, h => fun C g a w _ _ hr => wp_ret ⟨T, H, nx, g, h, hr⟩
  | .rangeFunc _ _ _ _, _, _, _, _, h => h.elim
  | .scope c, T, H, nx, Q, h => fun C g a w hP hn hr => by
    refine wp_scope_straight (wp_mono (acode_sound hm c T H nx _ h C g a w hP hn hr) ?_)
    rintro e a' w' ⟨T', H', nx', g', hq, hr'⟩
    cases e with
    | goto l => exact hq.elim
    | _ => exact ⟨T', H', nx', g', hq, hr'⟩
  | .goto _, _, _, _, _, h => h.elim
  | .refuse _, _, _, _, _, h => h.elim
def Wk (T : TT) (H : HH) (nx : Nat) (T' : TT) (H' : HH) (nx' : Nat) : Prop :=
  ∀ (C : Cx) (g : Nat → List Value) (a : Act) (w : World), C.m ≤ nx' → Rel C (lk T) (hk H) (fun c => c < nx) g a w → ∃ g', Rel C (lk T') (hk H') (fun c => c < nx') g' a w
theorem tr_loop {P : Program} {n : Nat} (hm : P.follows .mixedOrders = true) {X : Type} (ST : X → TT) (SH : X → HH) (N : Nat) (μ : X → Nat) (x0 : X) {body : Code} {T : TT} {H : HH} {nx : Nat} {Q : Exit → TT → HH → Nat → Prop}
    (hstart : Wk T H nx (ST x0) (SH x0) N)
    (round : ∀ x, acode P n body (ST x) (SH x) N (nextQ (fun T' H' nx' => ∃ x', μ x' < μ x ∧ Wk T' H' nx' (ST x') (SH x') N) Q)) (hN : nx ≤ N := by decide) : Tr P n (.loop body) T H nx Q := by
  intro C g a w hP hn hr
  have hmN : C.m ≤ N := by
    rcases Nat.lt_or_ge N C.m with h | h
    · have := hr.old.gm N h
      omega
    · exact h
  obtain ⟨g0, hr0⟩ := hstart C g a w hmN hr
  have key : ∀ (m : Nat) (x : X) (g : Nat → List Value) (a : Act) (w : World), μ x = m → Rel C (lk (ST x)) (hk (SH x)) (fun c => c < N) g a w →
      ∀ (b : Frame) (k : List Item) (cs : List Frame), ∃ e a' w', (∃ T' H' nx' g', Q e T' H' nx' ∧ Rel C (lk T') (hk H') (fun c => c < nx') g' a' w') ∧
        Arrives P (lone (b.at a (.code body :: .inLoop body :: k)) cs w) b k cs e a' w' := by
    intro m
    induction m using Nat.strongRecOn with
    | _ m ih =>
      intro x g a w hx hr b k cs
      obtain ⟨e, a₁, w₁, ⟨T', H', nx', g', hq, hr'⟩, harr⟩ := acode_sound hm body _ _ _ _ (round x) C g a w hP hn hr b (.inLoop body :: k) cs
      cases e with
      | normal =>
        obtain ⟨x', hlt, hwk⟩ := hq
        obtain ⟨g'', hr''⟩ := hwk C g' a₁ w₁ hmN hr'
        obtain ⟨e₂, a₂, w₂, hq₂, harr₂⟩ := ih (μ x') (hx ▸ hlt) x' g'' a₁ w₁ rfl hr'' b k cs
        exact ⟨e₂, a₂, w₂, hq₂, .of_steps (Steps.trans harr (.one step_inLoop)) harr₂⟩
      | exit id => exact ⟨_, a₁, w₁, ⟨T', H', nx', g', hq, hr'⟩, .pass (x := .inLoop body) rfl (fun _ _ => .inl (by simp)) harr⟩
      | goto l => exact ⟨_, a₁, w₁, ⟨T', H', nx', g', hq, hr'⟩, .pass (x := .inLoop body) rfl (fun _ _ => .inl (by simp)) harr⟩
      | ret => exact ⟨_, a₁, w₁, ⟨T', H', nx', g', hq, hr'⟩, .pass (x := .inLoop body) rfl (fun _ _ => .inl (by simp)) harr⟩
      | panic ch => exact ⟨_, a₁, w₁, ⟨T', H', nx', g', hq, hr'⟩, .pass (x := .inLoop body) rfl (fun _ _ => .inl (by simp)) harr⟩
      | outgrown => exact ⟨_, a₁, w₁, ⟨T', H', nx', g', hq, hr'⟩, .pass (x := .inLoop body) rfl (fun _ _ => .inl (by simp)) harr⟩
  intro b k cs
  obtain ⟨e, a', w', hq, harr⟩ := key (μ x0) x0 g0 a w rfl hr0 b k cs
  exact ⟨e, a', w', hq, .of_steps (.one step_loop) harr⟩
def bwk (x y : ABox) : Prop := x = y ∨ (x = .nl ∧ ∃ e z, y = .row e z 0 [])
theorem wk_of {T : TT} {H : HH} {nx : Nat} {T' : TT} {H' : HH} {nx' : Nat} (hn : nx' ≤ nx)
    (hT : ∀ p ∈ T', p.2 = .und ∨ lk T p.1 = p.2) (hTl : ∀ p ∈ T', Lt nx' p.2)
    (hH : ∀ p ∈ H', p.1 < nx' ∧ ∃ x, hk H p.1 = some x ∧ bwk x p.2)
    (hHl : ∀ p ∈ H', match p.2 with | .var v => Lt nx' v | .nl => True | .row _ _ _ es => ∀ e ∈ es, Lt nx' e | .ob _ => True | .mq _ vs => ∀ e ∈ vs, Lt nx' e) : Wk T H nx T' H' nx' := by
  intro C g a w hmn hr
  refine ⟨fun b => if b < nx' then g b else [], ?_⟩
  have hg : ∀ b, b < nx' → (if b < nx' then g b else []) = g b := fun b hb => if_pos hb
  have hmem : ∀ (H' : HH) b x, hk H' b = some x → (b, x) ∈ H' := by
    intro H'
    induction H' with
    | nil => intro b x h; cases h
    | cons kv r ih =>
      intro b x h
      obtain ⟨k, v⟩ := kv
      simp only [hk] at h
      split at h
      · rename_i e; injection h with h; subst h; subst e; exact List.mem_cons_self ..
      · exact List.mem_cons_of_mem _ (ih b x h)
  have hmemT : ∀ (T' : TT) t, lk T' t = .und ∨ (t, lk T' t) ∈ T' := by
    intro T'
    induction T' with
    | nil => intro t; exact .inl rfl
    | cons kv r ih =>
      intro t
      obtain ⟨k, v⟩ := kv
      simp only [lk]
      split
      · rename_i e; subst e; exact .inr (List.mem_cons_self ..)
      · rcases ih t with h | h
        · exact .inl h
        · exact .inr (List.mem_cons_of_mem _ h)
  have hbox : ∀ b x, hk H' b = some x → b < nx' ∧ ∃ x0, hk H b = some x0 ∧ bwk x0 x := fun b x hx => hH _ (hmem H' b x hx)
  have hobk : ∀ b x x0, b < nx' → bwk x0 x → BoxRep w (Own C.O g (hk H)) g b x0 → ownBlk (fun b => if b < nx' then g b else []) b x = ownBlk g b x0 := by
    intro b x x0 hb hw hbr
    rw [ownBlk_congr x (hg b hb)]
    rcases hw with rfl | ⟨rfl, e, z, rfl⟩
    · rfl
    · have : g b = [.slice none 0 0] := hbr
      simp [ownBlk, this, rowBlk]
  have hOwn : ∀ k, Own C.O (fun b => if b < nx' then g b else []) (hk H') k → Own C.O g (hk H) k := by
    rintro k (hk' | ⟨b, x, hx, hk'⟩)
    · exact .inl hk'
    · obtain ⟨hb, x0, hx0, hw⟩ := hbox b x hx
      rw [hobk b x x0 hb hw (hr.bx b x0 hx0)] at hk'
      exact .inr ⟨b, x0, hx0, hk'⟩
  have conv : ∀ v val, Lt nx' v → Rep w (Own C.O g (hk H)) g v val → Rep w (Own C.O (fun b => if b < nx' then g b else []) (hk H')) (fun b => if b < nx' then g b else []) v val :=
    fun v val hl h => (h.reset hg hl).sub hOwn
  refine ⟨hr.df, hr.sz, fun t => ?_, fun b x hx => ?_, fun b hb => ?_, fun b x hx => (hbox b x hx).1, fun b b' x x' k hx hx' hk1 hk2 => ?_, fun b x k hx hk1 => ?_, hr.oo, hr.kept, ?_⟩
  · rcases hmemT T' t with h | h
    · rw [h]; exact .und _
    · rcases hT _ h with h' | h'
      · simp only at h'; rw [h']; exact .und _
      · simp only at h'
        have := hr.tm t
        rw [h'] at this
        exact conv _ _ (hTl _ h) this
  · obtain ⟨hb, x0, hx0, hw⟩ := hbox b x hx
    have hlx := hHl _ (hmem H' b x hx)
    have hbr := hr.bx b x0 hx0
    have hgb : (if b < nx' then g b else []) = g b := hg b hb
    rcases hw with rfl | ⟨rfl, e, z, rfl⟩
    · cases x0 with
      | var v =>
        obtain ⟨blk, vs, ty, h1, h2, h3, h4⟩ := hbr
        refine ⟨blk, vs, ty, by simp only [hgb]; exact h1, h2, h3, fun j hj => conv _ _ ?_ (h4 j hj)⟩
        exact Lt.cells hlx (getD_mem hj)
      | nl => exact hgb.trans hbr
      | ob o =>
        obtain ⟨blk, h1, h2⟩ := hbr
        exact ⟨blk, by simp only [hgb]; exact h1, h2⟩
      | mq F vs =>
        obtain ⟨blk, us, h1, h2, h3, h4⟩ := hbr
        exact ⟨blk, us, by simp only [hgb]; exact h1, h2, h3, fun j hj => conv _ _ (hlx _ (getD_mem hj)) (h4 j hj)⟩
      | row e z ver es =>
        obtain ⟨sv, xs, h1, h2, h3, h4, h5⟩ := hbr
        refine ⟨sv, xs, by simp only [hgb]; exact h1, by simp only [hgb]; exact h2, h3, h4, fun i hi j hj => conv _ _ ?_ (h5 i hi j hj)⟩
        exact Lt.cells (hlx _ (getD_mem hi)) (getD_mem (by rw [h4 _ (getD_mem hi)]; exact hj))
    · have hbr' : g b = [.slice none 0 0] := hbr
      refine ⟨.slice none 0 0, [], by simp only [hb, if_true, hbr']; rfl, by simp only [hb, if_true, hbr']; rfl, .empty w e z none, fun a ha => by simp at ha, fun i hi => by simp at hi⟩
  · have : ¬ b < nx' := hb
    simp only [this, if_false]
  · obtain ⟨hb, x0, hx0, hw⟩ := hbox b x hx
    obtain ⟨hb', x0', hx0', hw'⟩ := hbox b' x' hx'
    rw [hobk b x x0 hb hw (hr.bx b x0 hx0)] at hk1
    rw [hobk b' x' x0' hb' hw' (hr.bx b' x0' hx0')] at hk2
    exact hr.sep b b' x0 x0' k hx0 hx0' hk1 hk2
  · obtain ⟨hb, x0, hx0, hw⟩ := hbox b x hx
    rw [hobk b x x0 hb hw (hr.bx b x0 hx0)] at hk1
    exact hr.own b x0 k hx0 hk1
  · refine ⟨fun b hb ver v hv => ?_, fun b hb => Nat.lt_of_lt_of_le hb hmn, fun b hb => ?_, fun b x hx => ?_⟩
    · have hb' : b < nx' := by omega
      simp only [hb', if_true]; exact hr.old.ge b hb ver v hv
    · obtain ⟨h1, h2⟩ := hr.old.gx b hb
      have hb' : b < nx' := by omega
      simp only [hb', if_true]; exact ⟨h1, h2⟩
    · obtain ⟨_, x0, hx0, _⟩ := hbox b x hx
      exact hr.old.gh b x0 hx0
end Go.AL
/-
  The abstract logic: a function's contract out of its body. Conditions: the program follows the mixed orders.
-/
namespace Go.AL
open Go.RowKit
def cvC (H : Nat → Option ABox) : AV → AV
  | .e0 => .sl []
  | .ow b ver => match H b with
    | some .nl => if ver = 0 then .sl [] else .und
    | some (.row _ _ ver' es) => if ver = ver' then .sl es else .und
    | _ => .und
  | v => v
def cvA (H : Nat → Option ABox) : AV → AV
  | .agg cs => .agg (cs.map (cvC H))
  | v => cvC H v
def cvT (H : Nat → Option ABox) : AV → AV
  | .tup cs => .tup (cs.map (cvA H))
  | v => cvA H v
section
variable {C : Cx} {T : Nat → AV} {H : Nat → Option ABox} {D : Nat → Prop} {g : Nat → List Value} {a : Act} {w : World}
theorem rep_cvC {v : AV} {val : Value} (hr : Rel C T H D g a w) (h : Rep w (Own C.O g H) g v val) : Rep w C.O g (cvC H v) val := by
  have hsub : Rep w C.O g v val := h.sub (fun k hk => .inl hk)
  cases v with
  | e0 =>
    obtain ⟨a0, rfl⟩ := h.e0_inv
    exact .sl0 _ _
  | ow b ver =>
    obtain ⟨a0, n, c, rfl, hg⟩ := h.ow_inv
    simp only [cvC]
    split
    · rename_i hb
      split
      · rename_i h0; subst h0
        have hg' : g b = [.slice none 0 0] := hr.bx b .nl hb
        rw [hg'] at hg
        simp only [List.getElem?_cons_zero, Option.some.injEq, Value.slice.injEq] at hg
        obtain ⟨rfl, rfl, rfl⟩ := hg
        exact .sl0 none 0
      · exact .und _
    · rename_i e z ver' es hb
      split
      · rename_i h0; subst h0
        obtain ⟨sv, xs, h1, h2, h3, h4, h5⟩ := hr.bx b _ hb
        rw [hg] at h1
        injection h1 with h1
        subst h1
        obtain ⟨hl, h3'⟩ := h3
        rcases h3' with ⟨hn, a1, hv⟩ | ⟨gg, cap, cur, hv, hh, hcap, _, hsz, htk⟩
        · injection hv with e1 e2 e3
          subst e1; subst e2; subst e3
          have : es = [] := List.eq_nil_of_length_eq_zero hn
          subst this
          exact .sl0 _ 0
        · injection hv with e1 e2 e3
          subst e1; subst e2; subst e3
          have hown := hr.own b _ gg hb (by simp [ownBlk, hg, rowBlk])
          refine .sl1 z es gg 0 (cap + 1) (fun i => xs.getD i undef) hcap h4 hown.1 hown.2.2 (fun i hi => ?_) (fun i hi j hj => (h5 i hi j hj).sub (fun k hk => .inl hk))
          rw [Nat.zero_add, cell_of_row w gg i cur e (0, 0) hh]
          have hlt : i < xs.length := by omega
          have hx : xs[i]? = cur[i]? := by rw [← htk, List.getElem?_take, if_pos hi, Array.getElem?_toList]
          rw [← hx, List.getD_eq_getElem?_getD, List.getElem?_eq_getElem hlt]
          rfl
      · exact .und _
    · exact .und _
  | _ => exact hsub
theorem rep_cvA {v : AV} {val : Value} (hr : Rel C T H D g a w) (h : Rep w (Own C.O g H) g v val) : Rep w C.O g (cvA H v) val := by
  cases v with
  | agg cs =>
    obtain ⟨vs, rfl, h1, h2⟩ := h.agg_inv
    refine .agg _ vs (by simp [h1]) fun j hj => ?_
    have hj' : j < cs.length := by simpa using hj
    have := rep_cvC hr (h2 j hj')
    rw [List.getD_eq_getElem?_getD, List.getElem?_map, List.getElem?_eq_getElem hj']
    rwa [List.getD_eq_getElem?_getD, List.getElem?_eq_getElem hj'] at this
  | _ => exact rep_cvC hr h
theorem rep_cvT {v : AV} {val : Value} (hr : Rel C T H D g a w) (h : Rep w (Own C.O g H) g v val) : Rep w C.O g (cvT H v) val := by
  cases v with
  | tup cs =>
    obtain ⟨vs, rfl, h1, h2⟩ := h.tup_inv
    refine .tup _ vs (by simp [h1]) fun j hj => ?_
    have hj' : j < cs.length := by simpa using hj
    have := rep_cvA hr (h2 j hj')
    rw [List.getD_eq_getElem?_getD, List.getElem?_map, List.getElem?_eq_getElem hj']
    rwa [List.getD_eq_getElem?_getD, List.getElem?_eq_getElem hj'] at this
  | _ => exact rep_cvA hr h
end
def resV (P : Program) (T : Nat → AV) (H : Nat → Option ABox) : ResultVar → Option AV
  | .tmp t => some (T t)
  | .cell t ty => match T t, tyI P ty with
    | .pt b off, some (n, ag) => match H b with
      | some (.var v) => if (ag = false → n = 1) ∧ off + n ≤ v.cells.length then some (v.subv off n ag) else none
      | _ => none
    | _, _ => none
def resL (P : Program) (T : Nat → AV) (H : Nat → Option ABox) : List ResultVar → Option (List AV)
  | [] => some []
  | r :: rs => match resV P T H r, resL P T H rs with
    | some v, some vs => some (v :: vs)
    | _, _ => none
def resA (P : Program) (T : Nat → AV) (H : Nat → Option ABox) (rs : List ResultVar) : Option AV := match resL P T H rs with
  | some [v] => some v
  | some vs => some (.tup vs)
  | none => none
section
variable {C : Cx} {T : Nat → AV} {H : Nat → Option ABox} {D : Nat → Prop} {g : Nat → List Value} {a : Act} {w : World}
def resSem (tmps : Array Value) : ResultVar → Sem Value
  | .tmp t => pure (tmps.getD t undef)
  | .cell a t => do loadVar t (← asAddr (tmps.getD a undef))
theorem rep_resV (hr : Rel C T H D g a w) {r : ResultVar} {v : AV} (h : resV C.P T H r = some v) : ∃ val, (resSem a.tmps r).run C.P w = .ok val w ∧ Rep w (Own C.O g H) g v val := by
  cases r with
  | tmp t =>
    simp only [resV, Option.some.injEq] at h
    subst h
    exact ⟨_, rfl, hr.tm t⟩
  | cell t ty =>
    simp only [resV] at h
    split at h
    · rename_i b off n ag hT hty
      split at h
      · rename_i v0 hb
        split at h
        · rename_i hcond
          obtain ⟨hn, hfit⟩ := hcond
          simp only [Option.some.injEq] at h
          subst h
          have ht := hr.tm t
          rw [hT] at ht
          obtain ⟨blk, hv, hg⟩ := ht.pt_inv
          obtain ⟨blk', vs, ty', h1, h2, h3, h4⟩ := hr.bx b _ hb
          have : blk' = blk := by rw [hg] at h1; simpa using h1.symm
          subst this
          refine ⟨if ag then .agg ((List.range n).map fun j => vs.getD (off + j) undef).toArray else vs.getD (off + 0) undef, ?_, ?_⟩
          · simp only [resSem, hv, asAddr, Sem.run_bind, Sem.run_pure, Result.andThen_ok]
            rw [run_loadVar_cells (f := fun j => vs.getD (off + j) undef) hty hn (fun j hj => by
              rw [cell_of_row w blk' (off + j) vs ty' (0, 0) h2]
              have : off + j < vs.size := by omega
              simp [Array.getD, this])]
          · unfold AV.subv
            cases ag with
            | true =>
              simp only [if_true]
              refine .agg _ _ (by simp; omega) fun j hj => ?_
              have hj' : j < n := by simp at hj; omega
              rw [getD_drop_take _ _ _ _ _ hj' hfit]
              have : ((List.range n).map fun j => vs.getD (off + j) undef).toArray.getD j undef = vs.getD (off + j) undef := by simp [Array.getD, hj']
              rw [this]
              exact h4 _ (by omega)
            | false =>
              have := hn rfl
              simp only [Bool.false_eq_true, if_false]
              exact h4 off (by omega)
        · cases h
      · cases h
    · cases h
theorem rep_resL (hr : Rel C T H D g a w) : ∀ (rs : List ResultVar) (vs : List AV), resL C.P T H rs = some vs → ∃ us : List Value, us.length = vs.length ∧ (rs.mapM (resSem a.tmps)).run C.P w = .ok us w ∧
    ∀ j, j < vs.length → Rep w (Own C.O g H) g (vs.getD j .und) (us.getD j undef)
  | [], vs, h => by
    simp only [resL, Option.some.injEq] at h; subst h
    exact ⟨[], rfl, by simp, fun j hj => by simp at hj⟩
  | r :: rs, vs, h => by
    simp only [resL] at h
    split at h
    · rename_i v vs' hv hvs
      simp only [Option.some.injEq] at h
      subst h
      obtain ⟨val, h1, h2⟩ := rep_resV hr hv
      obtain ⟨us, h3, h4, h5⟩ := rep_resL hr rs vs' hvs
      refine ⟨val :: us, by simp [h3], ?_, fun j hj => ?_⟩
      · rw [List.mapM_cons]
        simp only [Sem.run_bind, h1, Result.andThen_ok, h4, Sem.run_pure]
      · cases j with
        | zero => exact h2
        | succ j => exact h5 j (by simpa using hj)
    · cases h
theorem rep_resA (hr : Rel C T H D g a w) {fn : Func} {v : AV} (h : resA C.P T H fn.results.toList = some v) : ∃ val, (results fn a.tmps).run C.P w = .ok val w ∧ Rep w (Own C.O g H) g v val := by
  have hgen : ∀ vs, resL C.P T H fn.results.toList = some vs → ∃ us : List Value, us.length = vs.length ∧ (results fn a.tmps).run C.P w = .ok (if h : us.toArray.size = 1 then us.toArray[0] else .tuple us.toArray) w ∧
      ∀ j, j < vs.length → Rep w (Own C.O g H) g (vs.getD j .und) (us.getD j undef) := by
    intro vs hvs
    obtain ⟨us, h1, h2, h3⟩ := rep_resL hr _ _ hvs
    refine ⟨us, h1, ?_, h3⟩
    have e : results fn a.tmps = (do let vs ← fn.results.mapM (resSem a.tmps); pure (if h : vs.size = 1 then vs[0] else .tuple vs)) := by
      unfold results
      congr 1
    rw [e]
    have em : (fn.results.mapM (resSem a.tmps)).run C.P w = .ok us.toArray w := by
      rw [Array.mapM_eq_mapM_toList]
      have hb : ∀ {α β : Type} (x : Sem α) (f : α → Sem β), x.bind f = x >>= f := fun _ _ => rfl
      simp only [Functor.map, hb, Sem.run_bind, h2, Result.andThen_ok, Function.comp]
      rfl
    simp only [Sem.run_bind, em, Result.andThen_ok, Sem.run_pure]
  unfold resA at h
  split at h
  · rename_i v' hvs
    simp only [Option.some.injEq] at h; subst h
    obtain ⟨us, h1, h2, h3⟩ := hgen _ hvs
    match us, h1 with
    | [u], _ => exact ⟨u, by simpa using h2, h3 0 (by simp)⟩
  · rename_i vs hne hvs
    simp only [Option.some.injEq] at h; subst h
    obtain ⟨us, h1, h2, h3⟩ := hgen _ hvs
    have hne1 : ¬ us.toArray.size = 1 := by
      intro h
      have : vs.length = 1 := by simp at h; omega
      match vs, this with
      | [v], _ => exact hne v rfl
    rw [dif_neg hne1] at h2
    refine ⟨_, h2, .tup _ _ (by simp [h1]) fun j hj => ?_⟩
    have := h3 j hj
    have e : us.toArray.getD j undef = us.getD j undef := by rw [Array.getD_eq_getD_getElem?, List.getD_eq_getElem?_getD]; simp
    rw [e]; exact this
  · cases h
end
def argT : List AV → Nat → TT
  | [], _ => []
  | v :: r, i => (i, v) :: argT r (i + 1)
theorem lk_argT : ∀ (as : List AV) (i t : Nat), lk (argT as i) t = if i ≤ t then as.getD (t - i) .und else .und
  | [], i, t => by simp [argT, lk]
  | v :: r, i, t => by
    simp only [argT, lk, lk_argT r (i + 1) t]
    by_cases h : t = i
    · subst h; simp
    · by_cases h' : i ≤ t
      · have : t - i = (t - (i + 1)) + 1 := by omega
        simp only [h, if_false, h', if_true, this, List.getD_cons_succ]
        rw [if_pos (by omega)]
      · simp only [h, if_false, h', if_false]; rw [if_neg (by omega)]
def retQ (P : Program) (rs : List ResultVar) (r : AV) : Exit → TT → HH → Nat → Prop
  | .normal, T, H, _ | .ret, T, H, _ => ∃ v, resA P (lk T) (hk H) rs = some v ∧ cvT (hk H) v = r
  | _, _, _, _ => False
theorem pcall_of {P : Program} {f : Nat} {fn : Func} {c : Code} {as : List AV} {r : AV} (hm : P.follows .mixedOrders = true) (hf : P.funcs[f]? = some fn) (hb : fn.body = some c) (he : entB P f = true)
    (hn : as.length ≤ fn.ntmps) (hlt : ∀ v ∈ as, Lt 0 v) (hltr : Lt 0 r) (h : acode P fn.ntmps c (argT as 0) [] 0 (retQ P fn.results.toList r)) : PCall P f as r := by
  refine ⟨he, fun w O g vs hO hvs => ?_⟩
  obtain ⟨hsz, hrep⟩ := hvs
  refine calls_of_wp hf hb ?_
  let C : Cx := ⟨P, fn.ntmps, w, fun _ => False, O, 0, fun _ => [], fun _ => False, []⟩
  have hrel : Rel C (lk (argT as 0)) (hk []) (fun c => c < 0) (fun _ => []) { tmps := vs ++ Array.replicate (fn.ntmps - vs.size) undef, defers := [] } w := by
    refine ⟨rfl, ?_, fun t => ?_, (fun b x hx => by cases hx), fun _ _ => rfl, (fun b x hx => by cases hx), (fun b b' x x' k hx => by cases hx), (fun b x k hx => by cases hx), fun k hk => hO k hk, Kept.refl w _, ⟨fun b hb => absurd hb (Nat.not_lt_zero b), fun b hb => absurd hb (Nat.not_lt_zero b), fun b hb => hb.elim, fun b x hx => by cases hx⟩⟩
    · simp [C]; omega
    · rw [lk_argT, if_pos (Nat.zero_le t), Nat.sub_zero]
      by_cases ht : t < as.length
      · have h1 := hrep t ht
        have e1 : (vs ++ Array.replicate (fn.ntmps - vs.size) undef).getD t undef = vs.getD t undef := by
          rw [Array.getD_eq_getD_getElem?, Array.getElem?_append_left (by omega), Array.getD_eq_getD_getElem?]
        rw [e1]
        refine (h1.reset (fun b hb => by omega) (hlt _ (getD_mem ht))).sub ?_
        rintro k (hk' | ⟨b, x, hx, _⟩)
        · exact hk'
        · cases hx
      · rw [List.getD_eq_getElem?_getD, List.getElem?_eq_none (by omega)]; exact .und _
  refine wp_mono (acode_sound hm c _ _ _ _ h C _ _ w rfl rfl hrel) ?_
  rintro e a' w' ⟨T', H', nx', g', hq, hr'⟩
  have fin : (∃ v, resA P (lk T') (hk H') fn.results.toList = some v ∧ cvT (hk H') v = r) → a'.defers = [] ∧ ∃ v, (results fn a'.tmps).run P w' = .ok v w' ∧
      ∃ v_1, Ending.returned v = .returned v_1 ∧ Rep w' O g r v_1 ∧ Kept w (fun _ => False) w' := by
    rintro ⟨v, hv, rfl⟩
    obtain ⟨val, h1, h2⟩ := rep_resA (C := C) hr' hv
    exact ⟨hr'.df, val, h1, val, rfl, (rep_cvT (C := C) hr' h2).reset (fun b hb => by omega) hltr, hr'.kept⟩
  cases e with
  | normal => exact fin hq
  | ret => exact fin hq
  | _ => exact hq.elim
end Go.AL
/-
  The abstract logic: the rules by which a walk is reckoned. Conditions: none.
-/
namespace Go.AL
open Go.RowKit
theorem list_toArray_toList {α : Type} (l : List α) : (List.toArray l).toList = l := rfl
theorem some_and {α : Type} (a : α) (p : α → Prop) : (∃ v, some a = some v ∧ p v) = p a := by
  refine propext ⟨?_, fun h => ⟨a, rfl, h⟩⟩
  rintro ⟨v, h, hp⟩; injection h with h; subst h; exact hp
theorem forall_mem_cons_ {α : Type} (a : α) (l : List α) (p : α → Prop) : (∀ x ∈ a :: l, p x) = (p a ∧ ∀ x ∈ l, p x) := by simp
theorem forall_mem_nil_ {α : Type} (p : α → Prop) : (∀ x ∈ ([] : List α), p x) = True := by simp
theorem forall_mem_arr {α : Type} (l : List α) (p : α → Prop) : (∀ x ∈ List.toArray l, p x) = (∀ x ∈ l, p x) := by simp
theorem imp_false_ {p : Prop} : (false = true → p) = True := by simp
theorem imp_true_ {p : Prop} : (true = true → p) = p := by simp
theorem cond_true_l (x y : Bool) : (bif x then true else y) = (x || y) := by cases x <;> rfl
theorem cond_false_r (x y : Bool) : (bif x then y else false) = (x && y) := by cases x <;> rfl
theorem beq_true_ (y : Bool) : (y == true) = y := by simp
theorem beq_false_ (y : Bool) : (y == false) = !y := by simp
theorem retQ_normal (P : Program) (rs : List ResultVar) (r : AV) (T : TT) (H : HH) (nx : Nat) : retQ P rs r .normal T H nx = ∃ v, resA P (lk T) (hk H) rs = some v ∧ cvT (hk H) v = r := rfl
theorem retQ_ret (P : Program) (rs : List ResultVar) (r : AV) (T : TT) (H : HH) (nx : Nat) : retQ P rs r .ret T H nx = ∃ v, resA P (lk T) (hk H) rs = some v ∧ cvT (hk H) v = r := rfl
theorem keq_ (v v' : AV) (rb rb' : List Nat) : KEq v rb ⟨v', [], 0, rb'⟩ = (v' = v ∧ rb' = rb) := by simp [KEq]
attribute [go_sem] acode_skip acode_region acode_seq acode_block acode_loop acode_scope qsc_normal qsc_ret qsc_exit acode_exit acode_label acode_ret abr_bool abr_nb acode_cond kcode_ kbr_ kreg_ dchk_false dchk_true nextQ_normal nextQ_exit nextQ_ret qblk_normal qblk_ret qblk_exit
  arun_cons arun_nil karun_mk retQ_normal retQ_ret keq_ lk_nil lk_cons hk_nil hk_cons
  ash agd gval ast ares_some ares_none aresX_some aresX_none aresGX_some aresGX_eff effG_true effG_false aresGX_none gst aop gate abi setT hputs hput evO ev AV.get AV.cond AV.ok AV.one AV.ptr AV.cells AV.subv AV.setv avOf avCell alen apick abin aint aun argT resA afNext afV afP chunks ones asrc bnd bndc resL resV cvT cvA cvC
  zav zbx zcn aeqs aeq veq akind kindOf Value.oneCell' Value.cells some_and forall_mem_cons_ forall_mem_nil_ forall_mem_arr imp_false_ imp_true_ list_toArray_toList cond_true_l cond_false_r beq_true_ beq_false_
  List.map_cons List.map_nil List.append_nil List.nil_append List.cons_append List.length_cons List.length_nil List.drop_zero List.drop_succ_cons List.take_zero List.take_succ_cons List.getD_cons_zero List.getD_cons_succ List.getElem?_cons_zero List.getElem?_cons_succ
  true_and and_true and_self if_true if_false imp_and Bool.true_and Bool.and_true Bool.false_or Bool.or_false Bool.not_true Bool.not_false Option.getD_some not_false_eq_true false_implies true_implies implies_true imp_self
end Go.AL
/-
  The abstract logic: a callee that is handed boxes of the caller's, walked in its place. Conditions: the program follows the mixed orders.
-/
namespace Go.AL
open Go.RowKit
def bLt0 (n : Nat) : ABox → Prop
  | .var v => Lt n v
  | .nl => True
  | .row _ _ _ es => ∀ e ∈ es, Lt n e
  | .ob _ => True
  | .mq _ vs => ∀ e ∈ vs, Lt n e
theorem BoxRep.reset {w : World} {O : Nat → Prop} {g g' : Nat → List Value} {N b : Nat} {x : ABox} (hg : ∀ b, b < N → g' b = g b) (hb : b < N) (h : BoxRep w O g b x) (hl : bLt0 N x) : BoxRep w O g' b x := by
  cases x with
  | var v =>
    obtain ⟨blk, vs, ty, h1, h2, h3, h4⟩ := h
    exact ⟨blk, vs, ty, by rw [hg b hb]; exact h1, h2, h3, fun j hj => (h4 j hj).reset hg (Lt.cells hl (getD_mem hj))⟩
  | nl => exact (hg b hb).trans h
  | ob o =>
    obtain ⟨blk, h1, h2⟩ := h
    exact ⟨blk, by rw [hg b hb]; exact h1, h2⟩
  | mq F vs =>
    obtain ⟨blk, us, h1, h2, h3, h4⟩ := h
    exact ⟨blk, us, by rw [hg b hb]; exact h1, h2, h3, fun j hj => (h4 j hj).reset hg (hl _ (getD_mem hj))⟩
  | row e z ver es =>
    obtain ⟨sv, xs, h1, h2, h3, h4, h5⟩ := h
    refine ⟨sv, xs, by rw [hg b hb]; exact h1, by rw [hg b hb]; exact h2, h3, h4, fun i hi j hj => (h5 i hi j hj).reset hg (Lt.cells (hl _ (getD_mem hi)) (getD_mem (by rw [h4 _ (getD_mem hi)]; exact hj)))⟩
def retE (P : Program) (rs : List ResultVar) (nx : Nat) (r : Res) : Exit → TT → HH → Nat → Prop
  | .normal, T, H, nx' | .ret, T, H, nx' => ∃ v, resA P (lk T) (hk H) rs = some v ∧ (v = r.v ∧ nx' ≤ nx + r.nw ∧ H = r.wb)
  | _, _, _, _ => False
def keysOk : List (Nat × ABox) → Bool
  | [] => true
  | (k, _) :: r => !(r.map (·.1)).contains k && keysOk r
theorem updL_hk : ∀ (wb : List (Nat × ABox)) (H : Nat → Option ABox) (b : Nat), keysOk wb = true → b ∈ wb.map (·.1) → updL H wb b = hk wb b
  | [], _, _, _, h => by simp at h
  | (k, v) :: r, H, b, hk', h => by
    simp only [keysOk, Bool.and_eq_true, Bool.not_eq_true', List.contains_eq_mem, decide_eq_false_iff_not] at hk'
    simp only [updL, hk]
    by_cases e : b = k
    · subst e
      rw [if_pos rfl, updL_other r _ _ hk'.1, updF_same]
    · rw [if_neg e]
      simp only [List.map_cons, List.mem_cons, e, false_or] at h
      exact updL_hk r _ b hk'.2 h
theorem hk_mem : ∀ (H : HH) (b : Nat) (x : ABox), hk H b = some x → (b, x) ∈ H
  | [], _, _, h => by cases h
  | (k, v) :: r, b, x, h => by
    simp only [hk] at h
    split at h
    · rename_i e; injection h with h; subst h; subst e; exact List.mem_cons_self ..
    · exact List.mem_cons_of_mem _ (hk_mem r b x h)
theorem hk_none : ∀ (H : HH) (b : Nat), b ∉ H.map (·.1) → hk H b = none
  | [], _, _ => rfl
  | (k, v) :: r, b, h => by
    simp only [List.map_cons, List.mem_cons, not_or] at h
    simp only [hk, h.1, if_false]
    exact hk_none r b h.2
inductive Flat : AV → Prop
  | sc (v : Value) : Flat (.sc v)
  | agg (cs : List AV) (h : ∀ c ∈ cs, Flat c) : Flat (.agg cs)
  | tup (cs : List AV) (h : ∀ c ∈ cs, Flat c) : Flat (.tup cs)
theorem Rep.flat {w w' : World} {O O' : Nat → Prop} {g g' : Nat → List Value} {v : AV} {val : Value} (h : Rep w O g v val) : Flat v → Rep w' O' g' v val := by
  induction h with
  | sc v => exact fun _ => .sc v
  | agg cs vs h1 _ ih => exact fun hf => by cases hf with | agg _ hf => exact .agg cs vs h1 fun j hj => ih j hj (hf _ (getD_mem hj))
  | tup cs vs h1 _ ih => exact fun hf => by cases hf with | tup _ hf => exact .tup cs vs h1 fun j hj => ih j hj (hf _ (getD_mem hj))
  | _ => exact fun hf => by cases hf
theorem CallS.of_flat {P : Program} {f nx : Nat} {as as' : List AV} {Hl : HH} {r : AV} (h : PCall P f as' r) (ha : as.map (cvT (hk Hl)) = as') (hf : Flat r) : CallS P (hk Hl) nx f as ⟨r, [], 0, Hl.map (·.1)⟩ := by
  refine ⟨h.1, fun C T' H' D g a w hP hr hH _ vs hvs => ?_⟩
  have hs : ∀ c x, hk Hl c = some x → H' c = some x := by
    intro b x hx
    rw [hH b (List.mem_map.2 ⟨_, hk_mem Hl b x hx, rfl⟩)]; exact hx
  have hr1 := hr.less hs
  refine (h.2 w (fun _ => False) g vs (fun k hk => hk.elim) ⟨by rw [hvs.1, ← ha]; simp, fun j hj => ?_⟩).mono ?_
  · rw [← ha] at hj ⊢
    have hj' : j < as.length := by simpa using hj
    have := rep_cvT hr1 ((hvs.2 j hj').sub fun k hk => Own.less hs hk)
    have e1 : (as.map (cvT (hk Hl))).getD j .und = cvT (hk Hl) (as.getD j .und) := by
      rw [List.getD_eq_getElem?_getD, List.getElem?_map, List.getD_eq_getElem?_getD, List.getElem?_eq_getElem hj']; rfl
    rw [e1]
    exact this.sub fun k hk => hk.elim
  · rintro e w' ⟨v, rfl, hv, hk⟩
    exact ⟨v, g, rfl, (hr.grow hk).dmono fun b hb => .inl hb, hv.flat hf⟩
end Go.AL
/-
  The abstract logic: what a reading says of the values handed in: the shapes of the cells. Conditions: none, over any program.
-/
namespace Go.AL
open Go.ChangeShapes Go.WideShapes Go.ChangeAt Go.RowKit
inductive Sh where
  | int (k : IntKind)
  | bool
  | str
  | sl (ag : Bool) (e : List Sh)
instance : Inhabited Sh := ⟨.bool⟩
def ofC (ag : Bool) (cs : List AV) : AV := if ag then .agg cs else cs.getD 0 .und
inductive InC : Sh → AV → Prop
  | int (k : IntKind) (n : Int) (h : (Lit.int k n).wf = true) : InC (.int k) (.sc (.int k n))
  | bool (b : Bool) : InC .bool (.sc (.bool b))
  | str (s : ByteArray) (h : s.size ≤ maxLen) : InC .str (.sc (.string s))
  | sl (ag : Bool) (e : List Sh) (n : Nat) (c : Nat → List AV) (hn : n ≤ maxLen) (hz : ∀ i, i < n → (c i).length = e.length)
      (h : ∀ i, i < n → ∀ j, j < e.length → InC (e.getD j default) ((c i).getD j .und)) : InC (.sl ag e) (.sl ((List.range n).map fun i => ofC ag (c i)))
def InL (ss : List Sh) (cs : List AV) : Prop := cs.length = ss.length ∧ ∀ j, j < ss.length → InC (ss.getD j default) (cs.getD j .und)
theorem InC.lt {s : Sh} {c : AV} (h : InC s c) (N : Nat) : Lt N c := by
  induction h with
  | int k n h => exact .sc _
  | bool b => exact .sc _
  | str s h => exact .sc _
  | sl ag e n c hn hz _ ih =>
    refine .sl _ fun x hx => ?_
    simp only [List.mem_map, List.mem_range] at hx
    obtain ⟨i, hi, rfl⟩ := hx
    unfold ofC
    split
    · refine .agg _ fun y hy => ?_
      obtain ⟨j, hj, rfl⟩ := List.getElem_of_mem hy
      have := ih i hi j (by rw [← hz i hi]; exact hj)
      rwa [List.getD_eq_getElem?_getD, List.getElem?_eq_getElem hj] at this
    · by_cases h0 : 0 < e.length
      · exact ih i hi 0 h0
      · have : c i = [] := List.eq_nil_of_length_eq_zero (by rw [hz i hi]; omega)
        rw [this]; exact .und
theorem InL.lt {ss : List Sh} {cs : List AV} (h : InL ss cs) (N : Nat) : ∀ c ∈ cs, Lt N c := by
  intro c hc
  obtain ⟨j, hj, rfl⟩ := List.getElem_of_mem hc
  have := (h.2 j (by rw [← h.1]; exact hj)).lt N
  rwa [List.getD_eq_getElem?_getD, List.getElem?_eq_getElem hj] at this
theorem ofC_lt {ag : Bool} {ss : List Sh} {cs : List AV} (h : InL ss cs) (N : Nat) : Lt N (ofC ag cs) := by
  unfold ofC
  split
  · exact .agg _ (h.lt N)
  · cases cs with
    | nil => exact .und
    | cons c cs => exact h.lt N c (by simp)
theorem inL_nil {cs : List AV} : InL [] cs ↔ cs = [] := by
  constructor
  · intro h; exact List.eq_nil_of_length_eq_zero h.1
  · rintro rfl; exact ⟨rfl, fun j hj => by cases hj⟩
theorem inL_cons {s : Sh} {ss : List Sh} {cs : List AV} : InL (s :: ss) cs ↔ ∃ c cs', cs = c :: cs' ∧ InC s c ∧ InL ss cs' := by
  constructor
  · intro h
    cases cs with
    | nil => exact absurd h.1 (by simp)
    | cons c cs => exact ⟨c, cs, rfl, h.2 0 (by simp), by simpa using h.1, fun j hj => h.2 (j + 1) (by simpa using hj)⟩
  · rintro ⟨c, cs', rfl, h, h'⟩
    refine ⟨by simpa using h'.1, fun j hj => ?_⟩
    cases j with
    | zero => exact h
    | succ j => exact h'.2 j (by simpa using hj)
theorem inL_append {ss ss' : List Sh} {cs cs' : List AV} (h : InL ss cs) (h' : InL ss' cs') : InL (ss ++ ss') (cs ++ cs') := by
  induction ss generalizing cs with
  | nil => rw [inL_nil] at h; subst h; exact h'
  | cons s ss ih =>
    obtain ⟨c, cs1, rfl, h1, h2⟩ := inL_cons.1 h
    exact inL_cons.2 ⟨c, cs1 ++ cs', rfl, h1, ih h2⟩
theorem inC_int {k : IntKind} {c : AV} : InC (.int k) c ↔ ∃ n, c = .sc (.int k n) ∧ (Lit.int k n).wf = true :=
  ⟨fun h => by cases h with | int _ n h => exact ⟨n, rfl, h⟩, fun ⟨n, h, h'⟩ => by subst h; exact .int k n h'⟩
theorem inC_sl {ag : Bool} {e : List Sh} {c : AV} {α : Type} {F : α → AV} {Q : α → Prop} (hX : ∀ cs, InL e cs → ∃ x, ofC ag cs = F x ∧ Q x)
    (h : InC (.sl ag e) c) : ∃ xs : List α, c = .sl (xs.map F) ∧ xs.length ≤ maxLen ∧ ∀ x ∈ xs, Q x := by
  cases h with
  | sl _ _ n c hn hz h =>
    have hall : ∀ i, i < n → ∃ x, ofC ag (c i) = F x ∧ Q x := fun i hi => hX _ ⟨hz i hi, h i hi⟩
    clear h hz
    suffices hs : ∀ m, m ≤ n → ∃ xs : List α, (List.range m).map (fun i => ofC ag (c i)) = xs.map F ∧ xs.length = m ∧ ∀ x ∈ xs, Q x by
      obtain ⟨xs, h1, h2, h3⟩ := hs n (Nat.le_refl n)
      exact ⟨xs, by rw [h1], by rw [h2]; exact hn, h3⟩
    intro m
    induction m with
    | zero => exact fun _ => ⟨[], rfl, rfl, fun x hx => by cases hx⟩
    | succ m ih =>
      intro hm
      obtain ⟨xs, h1, h2, h3⟩ := ih (by omega)
      obtain ⟨x, h4, h5⟩ := hall m (by omega)
      refine ⟨xs ++ [x], ?_, by simp [h2], fun y hy => ?_⟩
      · rw [List.range_succ, List.map_append, List.map_append, h1]; simp [h4]
      · simp only [List.mem_append, List.mem_singleton] at hy
        rcases hy with hy | rfl
        · exact h3 y hy
        · exact h5
/-! ### the shape of a type -/
def shL (P : Program) (f : TypeId → Option (List Sh)) : List Field → Nat → Option (List Sh)
  | [], _ => some []
  | fd :: fs, off => if fd.offset = off then match f fd.type with
      | some s => if s.length = P.cellsOf fd.type then (shL P f fs (off + s.length)).map (s ++ ·) else none
      | none => none
    else none
def repS (s : List Sh) : Nat → List Sh
  | 0 => []
  | n + 1 => s ++ repS s n
def shI (P : Program) : Nat → TypeId → Option (List Sh)
  | 0, _ => none
  | n + 1, t => match P.underlying t with
    | some .bool => some [.bool]
    | some (.int k) => some [.int k]
    | some .string => some [.str]
    | some (.slice e) => match shI P n e with
      | some s => if s.length = P.cellsOf e ∧ 0 < s.length ∧ (aggB P e = true ∨ s.length = 1) then some [.sl (aggB P e) s] else none
      | none => none
    | some (.struct fs) => match shL P (shI P n) fs.toList 0 with
      | some s => if s.length = P.cellsOf t then some s else none
      | none => none
    | some (.array m e) => match shI P n e with
      | some s => if s.length = P.cellsOf e ∧ m * s.length = P.cellsOf t then some (repS s m) else none
      | none => none
    | _ => none
def RepL (w : World) (O : Nat → Prop) (g : Nat → List Value) (as : List AV) (cs : List Value) : Prop :=
  as.length = cs.length ∧ ∀ j, j < as.length → Rep w O g (as.getD j .und) (cs.getD j undef)
theorem RepL.append {w : World} {O : Nat → Prop} {g : Nat → List Value} {as as' : List AV} {cs cs' : List Value} (h : RepL w O g as cs) (h' : RepL w O g as' cs') :
    RepL w O g (as ++ as') (cs ++ cs') := by
  refine ⟨by simp [h.1, h'.1], fun j hj => ?_⟩
  by_cases hl : j < as.length
  · simp only [List.getD_eq_getElem?_getD]
    rw [List.getElem?_append_left hl, List.getElem?_append_left (by rw [← h.1]; exact hl), ← List.getD_eq_getElem?_getD, ← List.getD_eq_getElem?_getD]
    exact h.2 j hl
  · simp only [List.getD_eq_getElem?_getD]
    rw [List.getElem?_append_right (by omega), List.getElem?_append_right (by rw [← h.1]; omega), ← h.1, ← List.getD_eq_getElem?_getD, ← List.getD_eq_getElem?_getD]
    exact h'.2 _ (by simp at hj; omega)
theorem in_fields {P : Program} {w : World} {O : Nat → Prop} {g : Nat → List Value} {cs : List Value} (f : TypeId → Option (List Sh)) :
    ∀ (fs : List Field) (off : Nat) (S : List Sh), shL P f fs off = some S →
      (∀ fd ∈ fs, ∀ s, f fd.type = some s → s.length = P.cellsOf fd.type → ∃ as, InL s as ∧ RepL w O g as ((cs.drop fd.offset).take (P.cellsOf fd.type))) →
      ∃ as, InL S as ∧ RepL w O g as ((cs.drop off).take S.length)
  | [], off, S, h, _ => by
    simp [shL] at h; subst h
    exact ⟨[], inL_nil.2 rfl, by simp [RepL]⟩
  | fd :: fs, off, S, h, hf => by
    unfold shL at h
    split at h
    · rename_i ho
      split at h
      · rename_i s hs
        split at h
        · rename_i hl
          obtain ⟨S', h1, rfl⟩ := Option.map_eq_some_iff.1 h
          obtain ⟨as, ha, hr⟩ := hf fd (by simp) s hs hl
          obtain ⟨as', ha', hr'⟩ := in_fields f fs _ _ h1 (fun fd hfd => hf fd (by simp [hfd]))
          refine ⟨as ++ as', inL_append ha ha', ?_⟩
          rw [ho, ← hl] at hr
          have := hr.append hr'
          rwa [show (cs.drop off).take s.length ++ (cs.drop (off + s.length)).take S'.length = (cs.drop off).take (s ++ S').length by
            rw [List.length_append, List.take_add, List.drop_drop]] at this
        · cases h
      · cases h
    · cases h
theorem in_array {w : World} {O : Nat → Prop} {g : Nat → List Value} {cs : List Value} {s : List Sh} :
    ∀ (m i0 : Nat), (∀ i, i0 ≤ i → i < i0 + m → ∃ as, InL s as ∧ RepL w O g as ((cs.drop (i * s.length)).take s.length)) →
      ∃ as, InL (repS s m) as ∧ RepL w O g as ((cs.drop (i0 * s.length)).take (m * s.length))
  | 0, i0, _ => ⟨[], inL_nil.2 rfl, by simp [RepL]⟩
  | m + 1, i0, h => by
    obtain ⟨as, ha, hr⟩ := h i0 (Nat.le_refl _) (by omega)
    obtain ⟨as', ha', hr'⟩ := in_array m (i0 + 1) (fun i h1 h2 => h i (by omega) (by omega))
    refine ⟨as ++ as', inL_append ha ha', ?_⟩
    have := hr.append hr'
    rwa [show (cs.drop (i0 * s.length)).take s.length ++ (cs.drop ((i0 + 1) * s.length)).take (m * s.length) = (cs.drop (i0 * s.length)).take ((m + 1) * s.length) by
      rw [Nat.add_mul m, Nat.one_mul, Nat.add_comm (m * s.length), List.take_add, List.drop_drop, Nat.add_mul, Nat.one_mul]] at this
theorem cell?_lt {w : World} {a : Addr} {v : Value} (h : w.cell? a = some v) : a.block < w.heap.size ∧ a.spot = none := by
  unfold World.cell? at h
  split at h
  · rename_i hh
    refine ⟨(Array.getElem?_eq_some_iff.1 hh).1, ?_⟩
    split at h
    · cases h
    · rename_i hs; simpa using hs
  · cases h
theorem cells?_get {w : World} {base : Nat} {a : Addr} {n : Nat} {cs : List Value} (h : w.cells? base a n = some cs) :
    cs.length = n ∧ ∀ i, i < n → w.cell? (a.add i) = some (cs.getD i undef) := by
  unfold World.cells? at h
  split at h
  · have hl := mapM_some_length h
    simp at hl
    refine ⟨hl, fun i hi => ?_⟩
    have := mapM_some_get h i i (by simp [hi])
    rw [this, List.getD_eq_getElem?_getD, List.getElem?_eq_getElem (by omega)]
    rfl
  · cases h
theorem trod_in {H : Type} {enc : TypeId × Value → H} {P : Program} {w : World} {base : Nat} {spare : Nat → Bool} {held : Bool} {g : Nat → List Value} :
    ∀ (n : Nat) (t : TypeId) (S : List Sh) (fuel : Nat) (cs : List Value) (x : DataW H × List MemPlace), shI P n t = some S →
      DataW.trod enc P w base spare held fuel t cs = some x → ∃ as, InL S as ∧ RepL w (fun _ => False) g as cs
  | 0, t, S, fuel, cs, x, h, _ => by cases h
  | n + 1, t, S, fuel, cs, x, h, hx => by
    unfold shI at h
    split at h
    · rename_i ht
      cases h
      obtain ⟨b, rfl, _⟩ := DataW.trod_bool ht hx
      exact ⟨[.sc (.bool b)], inL_cons.2 ⟨_, _, rfl, .bool b, inL_nil.2 rfl⟩, rfl, fun j hj => by simp at hj; subst hj; exact .sc _⟩
    · rename_i k ht
      cases h
      obtain ⟨m, rfl, _, hw⟩ := DataW.trod_int ht hx
      exact ⟨[.sc (.int k m)], inL_cons.2 ⟨_, _, rfl, .int k m hw, inL_nil.2 rfl⟩, rfl, fun j hj => by simp at hj; subst hj; exact .sc _⟩
    · rename_i ht
      cases h
      obtain ⟨s, rfl, _, hw⟩ := DataW.trod_string ht hx
      exact ⟨[.sc (.string s)], inL_cons.2 ⟨_, _, rfl, .str s hw, inL_nil.2 rfl⟩, rfl, fun j hj => by simp at hj; subst hj; exact .sc _⟩
    · rename_i e ht
      split at h
      · rename_i s hs
        split at h
        · rename_i hl
          cases h
          rcases DataW.trod_slice ht hx with ⟨rfl, _⟩ | ⟨a, len, cap, elems, rest, m, _, rfl, _, _, hlc, hcm, hel, hget, _, _⟩
          · refine ⟨[.sl []], inL_cons.2 ⟨_, _, rfl, ?_, inL_nil.2 rfl⟩, rfl, fun j hj => by simp at hj; subst hj; exact .sl0 _ _⟩
            exact .sl _ _ 0 (fun _ => []) (Nat.zero_le _) (fun i hi => by omega) (fun i hi => by omega)
          · have hall : ∀ i, i < len → ∃ cs' as, w.cells? base (a.add (i * P.cellsOf e)) (P.cellsOf e) = some cs' ∧ InL s as ∧ RepL w (fun _ => False) g as cs' := by
              intro i hi
              have := hget i hi
              rw [List.getElem?_eq_getElem (by omega)] at this
              obtain ⟨cs', h1, h2⟩ := Option.bind_eq_some_iff.1 this
              obtain ⟨as, h3, h4⟩ := trod_in (g := g) n e s m cs' _ hs h2
              exact ⟨cs', as, h1, h3, h4⟩
            cases len with
            | zero =>
              refine ⟨[.sl []], inL_cons.2 ⟨_, _, rfl, ?_, inL_nil.2 rfl⟩, rfl, fun j hj => by simp at hj; subst hj; exact .sl0 _ _⟩
              exact .sl _ _ 0 (fun _ => []) (Nat.zero_le _) (fun i hi => by omega) (fun i hi => by omega)
            | succ len =>
              have hch : ∃ (C : Nat → List Value) (A : Nat → List AV), ∀ i, i < len + 1 → w.cells? base (a.add (i * P.cellsOf e)) (P.cellsOf e) = some (C i) ∧ InL s (A i) ∧ RepL w (fun _ => False) g (A i) (C i) := by
                refine ⟨fun i => if h : i < len + 1 then (hall i h).choose else [], fun i => if h : i < len + 1 then (hall i h).choose_spec.choose else [], fun i hi => ?_⟩
                simp only [hi, dite_true]
                exact (hall i hi).choose_spec.choose_spec
              obtain ⟨C, A, hCA⟩ := hch
              have hz : s.length = P.cellsOf e := hl.1
              obtain ⟨blk, off, spot⟩ := a
              have h00 := (cells?_get (hCA 0 (by omega)).1).2 0 (by omega)
              have hsp := cell?_lt h00
              simp [Addr.add] at hsp
              obtain ⟨hb, rfl⟩ := hsp
              have hmm : (List.map (fun i => ofC (aggB P e) (A i)) (List.range (len + 1))).length = len + 1 := by simp
              have hcells : ∀ i, i < len + 1 → (ofC (aggB P e) (A i)).cells = A i := by
                intro i hi
                have hli := (hCA i hi).2.1.1
                unfold ofC
                split
                · rfl
                · rename_i hag
                  have h1 : s.length = 1 := by
                    rcases hl.2.2 with h | h
                    · exact absurd h hag
                    · exact h
                  rw [h1] at hli
                  match hA : A i, hli with
                  | [c], _ =>
                    have hin := (hCA i hi).2.1
                    rw [hA] at hin
                    match s, h1 with
                    | [s0], _ =>
                      obtain ⟨c', cs', he, hc, _⟩ := inL_cons.1 hin
                      cases he
                      cases hc <;> rfl
              have hgD : ∀ i, i < len + 1 → (List.map (fun i => ofC (aggB P e) (A i)) (List.range (len + 1))).getD i .und = ofC (aggB P e) (A i) := by
                intro i hi
                simp [List.getD_eq_getElem?_getD, hi]
              refine ⟨[.sl ((List.range (len + 1)).map fun i => ofC (aggB P e) (A i))], inL_cons.2 ⟨_, _, rfl, ?_, inL_nil.2 rfl⟩, rfl, fun j hj => ?_⟩
              · exact .sl _ _ (len + 1) A (by omega) (fun i hi => (hCA i hi).2.1.1) (fun i hi => (hCA i hi).2.1.2)
              · simp at hj; subst hj
                show Rep w (fun _ => False) g (.sl _) (.slice (some ⟨blk, off, none⟩) (len + 1) cap)
                have key : Rep w (fun _ => False) g (.sl ((List.range (len + 1)).map fun i => ofC (aggB P e) (A i)))
                    (.slice (some ⟨blk, off, none⟩) (List.map (fun i => ofC (aggB P e) (A i)) (List.range (len + 1))).length cap) := by
                  refine .sl1 s.length _ blk off cap (fun q => (C (q / s.length)).getD (q % s.length) undef) (by rw [hmm]; exact hlc) ?_ id hb ?_ ?_
                  · intro x hx
                    simp only [List.mem_map, List.mem_range] at hx
                    obtain ⟨i, hi, rfl⟩ := hx
                    rw [hcells i hi]
                    exact (hCA i hi).2.1.1
                  · intro q hq
                    rw [hmm] at hq
                    have hi : q / s.length < len + 1 := Nat.div_lt_of_lt_mul (by rw [Nat.mul_comm]; exact hq)
                    have hr : q % s.length < s.length := Nat.mod_lt _ hl.2.1
                    have := (cells?_get (hCA _ hi).1).2 (q % s.length) (by omega)
                    rw [← this]
                    congr 1
                    have hdm := Nat.div_add_mod q s.length
                    rw [Nat.mul_comm] at hdm
                    rw [← hz]
                    simp only [Addr.add]
                    split <;> split <;> simp_all <;> omega
                  · intro i hi j hj
                    rw [hmm] at hi
                    rw [hgD i hi, hcells i hi]
                    have e1 : (i * s.length + j) / s.length = i := by
                      rw [Nat.mul_comm, Nat.mul_add_div hl.2.1, Nat.div_eq_of_lt hj]; rfl
                    have e2 : (i * s.length + j) % s.length = j := by
                      rw [Nat.mul_comm, Nat.mul_add_mod, Nat.mod_eq_of_lt hj]
                    simp only [e1, e2]
                    exact (hCA i hi).2.2.2 j (by rw [(hCA i hi).2.1.1]; exact hj)
                rwa [hmm] at key
        · cases h
      · cases h
    · rename_i fs ht
      split at h
      · rename_i s hs
        split at h
        · rename_i hl
          cases h
          obtain ⟨xs, m, _, _, hc, hxl, hget⟩ := DataW.trod_struct ht hx
          obtain ⟨as, h1, h2⟩ := in_fields (P := P) (w := w) (O := fun _ => False) (g := g) (cs := cs) (shI P n) fs.toList 0 S hs (fun fd hfd s' hs' _ => by
            obtain ⟨i, hi, rfl⟩ := List.getElem_of_mem hfd
            simp only [Array.length_toList] at hi
            have := hget i fs[i] (by simp [hi])
            rw [List.getElem?_eq_getElem (by omega)] at this
            exact trod_in n _ s' m _ _ hs' (by simpa using this))
          refine ⟨as, h1, ?_⟩
          simp only [List.drop_zero] at h2
          rwa [List.take_of_length_le (by omega)] at h2
        · cases h
      · cases h
    · rename_i m e ht
      split at h
      · rename_i s hs
        split at h
        · rename_i hl
          cases h
          obtain ⟨xs, k, _, _, hc, hxl, hget⟩ := DataW.trod_array ht hx
          obtain ⟨as, h1, h2⟩ := in_array (w := w) (O := fun _ => False) (g := g) (cs := cs) (s := s) m 0 (fun i _ hi => by
            have := hget i (by omega)
            rw [List.getElem?_eq_getElem (by omega), ← hl.1] at this
            exact trod_in n e s k _ _ hs this)
          refine ⟨as, h1, ?_⟩
          simp only [Nat.zero_mul, List.drop_zero] at h2
          rwa [List.take_of_length_le (by omega)] at h2
        · cases h
      · cases h
    · cases h
end Go.AL
/-
  The abstract logic: a row 'whatever the input: true; the input reads as it did' out of the law's contract. Conditions: the law reads no package variable.
-/
namespace Go.AL
open Go.ChangeShapes Go.WideShapes Go.ChangeAt Go.RowKit
def shA (P : Program) : List TypeId → Option (List (Bool × List Sh))
  | [] => some []
  | t :: ts => match shI P 20 t, shA P ts with
    | some s, some r => if (aggB P t = true ∨ s.length = 1) ∧ P.readableRec t = true ∧ t < P.types.size then some ((aggB P t, s) :: r) else none
    | _, _ => none
def InA : List (Bool × List Sh) → List AV → Prop
  | [], as => as = []
  | p :: r, as => ∃ cs as', InL p.2 cs ∧ as = ofC p.1 cs :: as' ∧ InA r as'
theorem InA.lt {S : List (Bool × List Sh)} {as : List AV} (h : InA S as) (N : Nat) : ∀ a ∈ as, Lt N a := by
  induction S generalizing as with
  | nil => intro a ha; rw [show as = [] from h] at ha; cases ha
  | cons p r ih =>
    obtain ⟨cs, as', h1, rfl, h2⟩ := h
    intro a ha
    simp only [List.mem_cons] at ha
    rcases ha with rfl | ha
    · exact ofC_lt h1 N
    · exact ih h2 a ha
theorem inA_nil {as : List AV} : InA [] as ↔ as = [] := Iff.rfl
theorem inA_cons {ag : Bool} {s : List Sh} {r : List (Bool × List Sh)} {as : List AV} : InA ((ag, s) :: r) as ↔ ∃ cs as', InL s cs ∧ as = ofC ag cs :: as' ∧ InA r as' := Iff.rfl
theorem arg_in {H : Type} {enc : TypeId × Value → H} {P : Program} {w : World} {sp : Nat → Bool} {held : Bool} {g : Nat → List Value} {n : Nat} {t : TypeId} {S : List Sh} {v : Value} {d : DataW H} {p : List MemPlace}
    (hs : shI P n t = some S) (h1 : aggB P t = true ∨ S.length = 1) {b0 : Nat} (hv : Value.okWide P w .any b0 t v) (h : DataW.Trod enc P w 0 sp held t v d p) :
    ∃ cs, InL S cs ∧ Rep w (fun _ => False) g (ofC (aggB P t) cs) v := by
  obtain ⟨fuel, hf⟩ := h
  obtain ⟨as, ha, hr⟩ := trod_in (g := g) n t S fuel _ _ hs hf
  refine ⟨as, ha, ?_⟩
  by_cases hag : aggB P t = true
  · have : ∃ cs, v = .agg cs := by
      unfold aggB at hag
      unfold Value.okWide at hv
      split at hag
      · rename_i hu; rw [hu] at hv; obtain ⟨cs, hc, _⟩ := hv; exact ⟨cs, hc⟩
      · rename_i hu; rw [hu] at hv; obtain ⟨cs, hc, _⟩ := hv; exact ⟨cs, hc⟩
      · cases hag
    obtain ⟨cs, rfl⟩ := this
    rw [ofC, if_pos hag]
    refine .agg as cs (by simpa [Value.cells] using hr.1.symm) fun j hj => ?_
    have := hr.2 j hj
    simpa [Value.cells, List.getD_eq_getElem?_getD, Array.getD_eq_getD_getElem?] using this
  · rw [ofC, if_neg hag]
    have hl : S.length = 1 := h1.resolve_left hag
    have hc : v.cells = #[v] := by
      have hu : ∀ cs, v ≠ .agg cs := by
        rintro cs rfl
        unfold aggB at hag
        unfold Value.okWide at hv
        cases n with
        | zero => cases hs
        | succ n =>
          unfold shI at hs
          split at hs
          · rename_i hu; simp [hu, Cell.okWide, Cell.ok] at hv
          · rename_i hu; simp [hu, Cell.okWide, Cell.ok] at hv
          · rename_i hu; simp [hu, Cell.okWide, Cell.ok] at hv
          · rename_i hu; simp [hu, Cell.okWide, Cell.ok] at hv
          · rename_i hu; simp [hu] at hag
          · rename_i hu; simp [hu] at hag
          · cases hs
      unfold Value.cells
      split
      · rename_i cs; exact absurd rfl (hu cs)
      · rfl
    rw [hc] at hr
    have := hr.2 0 (by rw [ha.1, hl]; exact Nat.one_pos)
    simpa using this
theorem args_in {H : Type} {enc : TypeId × Value → H} {P : Program} {w : World} {sp : Nat → Bool} {held : Bool} {g : Nat → List Value} {b0 : Nat} :
    ∀ {ts : List TypeId} {vs : List Value} {ds : List (DataW H)} {ps : List MemPlace} {S : List (Bool × List Sh)}, shA P ts = some S →
      (∀ (j : Nat) t v, ts[j]? = some t → vs[j]? = some v → Value.okWide P w .any b0 t v) → DataW.TrodAll enc P w 0 sp held ts vs ds ps →
      ∃ as, InA S as ∧ RepL w (fun _ => False) g as vs
  | [], vs, ds, ps, S, hs, _, h => by
    obtain ⟨rfl, rfl, rfl⟩ := trodAll_nil h
    cases hs
    exact ⟨[], rfl, rfl, fun j hj => by cases hj⟩
  | t :: ts, vs, ds, ps, S, hs, hv, h => by
    obtain ⟨v, vs1, d, ds1, a, b, rfl, rfl, rfl, h1, h2⟩ := trodAll_cons h
    unfold shA at hs
    split at hs
    · rename_i s r hs1 hs2
      split at hs
      · rename_i hc
        cases hs
        obtain ⟨cs, h3, h4⟩ := arg_in (g := g) hs1 hc.1 (hv 0 t v rfl rfl) h1
        obtain ⟨as, h5, h6⟩ := args_in (g := g) hs2 (fun j t v hj hj' => hv (j + 1) t v (by simpa using hj) (by simpa using hj')) h2
        refine ⟨ofC (aggB P t) cs :: as, ⟨cs, as, h3, rfl, h5⟩, by simp [h6.1], fun j hj => ?_⟩
        cases j with
        | zero => exact h4
        | succ j => exact h6.2 j (by simpa using hj)
      · cases hs
    · cases hs
theorem args_keep {H : Type} {enc : TypeId × Value → H} {P : Program} {W W' : World} (hl : laidOutB P = true) (hb : Below W.heap.size W W') {sp : Nat → Bool} :
    ∀ {ts : List TypeId} {vs : List Value} {ds : List (DataW H)} {ps : List MemPlace} {S : List (Bool × List Sh)}, shA P ts = some S →
      DataW.TrodAll enc P W 0 (fun _ => true) true ts vs ds ps → (∀ p ∈ ps, p.block < W.heap.size) → (∀ p ∈ ps, sp p.block = true) → DataW.TrodAll enc P W' 0 sp true ts vs ds ps
  | [], vs, ds, ps, S, _, h, _, _ => by
    obtain ⟨rfl, rfl, rfl⟩ := trodAll_nil h
    exact trodAll_mk0
  | t :: ts, vs, ds, ps, S, hs, h, hlt, hsp => by
    obtain ⟨v, vs1, d, ds1, a, b, rfl, rfl, rfl, h1, h2⟩ := trodAll_cons h
    unfold shA at hs
    split at hs
    · rename_i s r hs1 hs2
      split at hs
      · rename_i hc
        refine ⟨a, b, WideElems.Trod_stays hl hc.2.1 hc.2.2 h1 (fun x hx => hb.same (hlt x (by simp [hx]))) (fun x hx => hsp x (by simp [hx])), ?_, rfl⟩
        exact args_keep hl hb hs2 h2 (fun p hp => hlt p (by simp [hp])) (fun p hp => hsp p (by simp [hp]))
      · cases hs
    · cases hs
def Yes (s : ChangeSpec) (n : Nat) : Prop := s.vars = [] ∧ ∀ (H : Type) (ds : List (DataW H)), ds.length = n → (s.fn H ds).results = [.lit (.bool true)] ∧ (s.fn H ds).args = ds ∧ (s.fn H ds).vars = []
theorem trodAll_length {H : Type} {enc : TypeId × Value → H} {P : Program} {w : World} {base : Nat} {sp : Nat → Bool} {held : Bool} :
    ∀ {ts : List TypeId} {vs : List Value} {ds : List (DataW H)} {ps : List MemPlace}, DataW.TrodAll enc P w base sp held ts vs ds ps → ds.length = ts.length
  | [], vs, ds, ps, h => by obtain ⟨rfl, rfl, rfl⟩ := trodAll_nil h; rfl
  | t :: ts, vs, ds, ps, h => by
    obtain ⟨v, vs1, d, ds1, a, b, rfl, rfl, rfl, h1, h2⟩ := trodAll_cons h
    simp [trodAll_length h2]
theorem row_lifted {C : Checked} {os : Os} {f : FuncId} {fn : Func} {s : ChangeSpec} {conds : List PathCond} {tb : TypeId} {S : List (Bool × List Sh)} (own : ownKnob C.prog.godebug = none) (started : os.Started)
    (hl : laidOutB C.prog = true) (noInit : C.prog.inits.idxOf? f = none) (hfn : C.prog.funcs[f]? = some fn) (hrt : fn.resultTypes = #[tb]) (htb : C.prog.underlying tb = some .bool)
    (hS : shA C.prog fn.params.toList = some S) (hs : Yes s fn.params.toList.length) {H : Type} {enc : TypeId × Value → H} {apart fresh handsOn again : Bool}
    (witness : ∃ (w : World) (tape : Tape) (i : Input), w.os = os ∧ (w.forCall tape i).Shaped C.prog ∧ i.vars = [] ∧ Input.okWide C.prog (w.forCall tape i) .any w.heap.size f i ∧
      s.pre6 enc C.prog fn conds apart (w.forCall tape i).memory i.args ∧ ({} : Assume).holds C.prog (lone (Frame.enter C.prog f i.args .normal) [] (w.forCall tape i)))
    (hp : ∀ as, InA S as → PCall C.prog f as (.b true)) :
    ReturnsInHanded {} C os f .any (s.pre6 enc C.prog fn conds apart) (s.post enc C.prog fn apart fresh handsOn again) := by
  refine returnsInHanded_of_change own started noInit hfn witness ?_
  intro W base args ds gs before hval hW _ _
  have hW' := hW
  obtain ⟨p, q, hA, hV, rfl, hfz, hnd⟩ := hW
  rw [hs.1] at hV
  obtain ⟨rfl, rfl⟩ := trodVars_none hV
  obtain ⟨as, h1, h2⟩ := args_in (g := fun _ => []) hS (fun j t v hj hj' => hval j t v (by simpa using hj) (by simpa using hj')) hA
  have hlen : (ds ++ ([] : List (DataW H))).length = fn.params.toList.length := by simpa using trodAll_length hA
  have hr := hs.2 H _ hlen
  refine ((hp as h1).2 W (fun _ => False) (fun _ => []) args (fun k hk => hk.elim) ⟨by simpa using h2.1.symm, fun j hj => by
    have := h2.2 j hj
    simpa [List.getD_eq_getElem?_getD, Array.getD_eq_getD_getElem?] using this⟩).mono fun e W' => ?_
  rintro ⟨v, rfl, hv, hk⟩
  obtain rfl := hv.sc_inv
  have hb : Below W.heap.size W W' := hk.below
  refine ⟨_, rfl, ?_⟩
  have hlt : ∀ p' ∈ p ++ [], p'.block < W.heap.size := fun p' hp' => hW'.lt p' hp'
  have hkeep : ∀ sp : Nat → Bool, (∀ p' ∈ p ++ [], sp p'.block = true) → DataW.TrodAll enc C.prog W' 0 sp true fn.params.toList args.toList (s.fn H (ds ++ [])).args p := by
    intro sp hsp
    rw [hr.2.1, List.append_nil]
    exact args_keep hl hb hS hA (fun p' hp' => hlt p' (by simp [hp'])) (fun p' hp' => hsp p' (by simp [hp']))
  have hvars : ∀ sp : Nat → Bool, DataW.TrodVars enc C.prog W' sp s.vars (s.fn H (ds ++ [])).vars [] := by
    intro sp
    rw [hs.1, hr.2.2]
    rfl
  have hres : ∀ (b : Nat) (sp : Nat → Bool) (hd : Bool), DataW.TrodAll enc C.prog W' b sp hd fn.resultTypes.toList ((Value.bool true).resultList fn.resultTypes.size) (s.fn H (ds ++ [])).results [] := by
    intro b sp hd
    rw [hrt, hr.1]
    exact trodAll_mk1 ⟨1, by simp [DataW.trod, htb, Value.cells]⟩
  have hold : ∀ p' ∈ p ++ [], (fun b => decide (b < W.heap.size)) p'.block = true := fun p' hp' => by simpa using hlt p' hp'
  refine ⟨ds, [], p ++ [], [], p, [], hW', hres _ _ _, hkeep _ hold, hvars _, World.keptBut_mono (fun p' hp' => ⟨hp', ?_⟩) (hb.frame (· ∈ p ++ [])), fun _ => ?_⟩
  · rw [List.mem_append] at hp'
    exact Or.inr hp'
  · refine ⟨?_, _, _, ([] ++ p) ++ [], ⟨[] ++ p, [], trodAll_append (hkeep _ (fun _ _ => rfl)) (hres _ _ _), hvars _, rfl, ?_, ?_⟩, ?_⟩
    · intro j t r hj hr'
      rw [hrt] at hj hr'
      match j, hj, hr' with
      | 0, hj, hr' =>
        simp [Value.resultList] at hj hr'
        subst hj; subst hr'
        exact okWide_bool_mk htb true
    · intro b off hp'
      have hin : MemPlace.cell b off ∈ p ++ [] := by simpa using hp'
      rw [hb.frozen (hlt _ hin)]
      exact hfz b off hin
    · intro ha
      simpa using hnd ha
    · intro p' hp' _
      simpa using hp'
end Go.AL
/-
  The abstract logic: contracts found by their shape. Conditions: none.
-/
namespace Go.AL
open Go.RowKit
class HasC (P : Program) (f : Nat) (as : List AV) (r : outParam AV) : Prop where
  h : PCall P f as r
theorem cst_go {P : Program} {H : Nat → Option ABox} {nx fid : Nat} {as : List AV} {r : AV} {K : Res → Prop} [h : HasC P fid as r] (hk : K ⟨r, [], 0, []⟩) : cst P H nx (.clo fid []) as K :=
  cst_pure h.h hk
theorem gcst_go {c : Bool} {P : Program} {H : Nat → Option ABox} {nx fid : Nat} {as : List AV} {r : AV} {K : Res → Prop} [h : HasC P fid as r] (hk : K ⟨.gd c r, [], 0, []⟩) : gcst c P H nx (.clo fid []) as K :=
  gcst_pure (fun _ => h.h) hk
theorem regOk_go {ops : List Oper} {fps : List FP} (h : regOk ops fps = true) : regOk ops fps = true := h
def TWk (T : TT) (nx' : Nat) : TT → Prop
  | [] => True
  | (t, v) :: r => (lk T t = v ∧ Lt nx' v) ∧ TWk T nx' r
def bLt (nx' : Nat) : ABox → Prop
  | .var v => Lt nx' v
  | .nl => True
  | .row _ _ _ es => ∀ e ∈ es, Lt nx' e
  | .ob _ => True
  | .mq _ vs => ∀ e ∈ vs, Lt nx' e
def HWk (H : HH) (nx' : Nat) : HH → Prop
  | [] => True
  | (b, x) :: r => (b < nx' ∧ (∃ y, hk H b = some y ∧ bwk y x) ∧ bLt nx' x) ∧ HWk H nx' r
theorem tw_nil {T : TT} {nx' : Nat} : TWk T nx' [] := trivial
theorem tw_cons {T T' : TT} {nx' t : Nat} {v : AV} (h : lk T t = v) (hl : Lt nx' v) (hr : TWk T nx' T') : TWk T nx' ((t, v) :: T') := ⟨⟨h, hl⟩, hr⟩
theorem hw_nil {H : HH} {nx' : Nat} : HWk H nx' [] := trivial
theorem hw_cons {H H' : HH} {nx' b : Nat} {x y : ABox} (hb : b < nx') (h : hk H b = some y) (hw : bwk y x) (hl : bLt nx' x) (hr : HWk H nx' H') : HWk H nx' ((b, x) :: H') := ⟨⟨hb, ⟨y, h, hw⟩, hl⟩, hr⟩
theorem bwk_rfl {x : ABox} : bwk x x := .inl rfl
theorem wk_go {T T' : TT} {H H' : HH} {nx nx' : Nat} (hn : nx' ≤ nx) (hT : TWk T nx' T') (hH : HWk H nx' H') : Wk T H nx T' H' nx' := by
  have h1 : ∀ (T' : TT), TWk T nx' T' → ∀ p ∈ T', lk T p.1 = p.2 ∧ Lt nx' p.2 := by
    intro T'
    induction T' with
    | nil => intro _ p hp; cases hp
    | cons q r ih =>
      intro h p hp
      simp only [List.mem_cons] at hp
      rcases hp with rfl | hp
      · exact h.1
      · exact ih h.2 p hp
  have h2 : ∀ (H' : HH), HWk H nx' H' → ∀ p ∈ H', p.1 < nx' ∧ (∃ y, hk H p.1 = some y ∧ bwk y p.2) ∧ bLt nx' p.2 := by
    intro H'
    induction H' with
    | nil => intro _ p hp; cases hp
    | cons q r ih =>
      intro h p hp
      simp only [List.mem_cons] at hp
      rcases hp with rfl | hp
      · exact h.1
      · exact ih h.2 p hp
  refine wk_of hn (fun p hp => .inr (h1 T' hT p hp).1) (fun p hp => (h1 T' hT p hp).2) (fun p hp => ⟨(h2 H' hH p hp).1, (h2 H' hH p hp).2.1⟩) (fun p hp => ?_)
  have := (h2 H' hH p hp).2.2
  unfold bLt at this
  exact this
theorem lt_agg {N : Nat} {cs : List AV} (h : ∀ c ∈ cs, Lt N c) : Lt N (.agg cs) := .agg _ h
theorem lt_nil {N : Nat} : ∀ c ∈ ([] : List AV), Lt N c := fun _ h => by cases h
theorem lt_cons {N : Nat} {c : AV} {cs : List AV} (h : Lt N c) (h' : ∀ x ∈ cs, Lt N x) : ∀ x ∈ c :: cs, Lt N x := by
  intro x hx
  simp only [List.mem_cons] at hx
  rcases hx with rfl | hx
  · exact h
  · exact h' x hx
theorem lt_map {N : Nat} {α : Type} {f : α → AV} {l : List α} (h : ∀ x, Lt N (f x)) : ∀ x ∈ l.map f, Lt N x := by
  intro x hx
  obtain ⟨y, _, rfl⟩ := List.mem_map.1 hx
  exact h y
theorem lt_i (N : Nat) (n : Int) : Lt N (.i n) := .sc _
theorem lt_b (N : Nat) (n : Bool) : Lt N (.b n) := .sc _
end Go.AL
/-
  The abstract logic: equality of structs of integers and bools. Conditions: none; the types by closed checks.
-/
namespace Go.AL
open Go.RowKit
def eqF (P : Program) (f : TypeId → Option (List (Option IntKind))) : List Field → Nat → Option (List (Option IntKind))
  | [], _ => some []
  | fd :: fs, off => if fd.offset = off ∧ fd.name ≠ "_" then match f fd.type, tyI P fd.type with
      | some ks, some (n, ag) => if ks.length = n ∧ 0 < n ∧ (ag = false → n = 1) then (eqF P f fs (off + n)).map (ks ++ ·) else none
      | _, _ => none
    else none
def eqI (P : Program) : Nat → TypeId → Option (List (Option IntKind))
  | 0, _ => none
  | n + 1, t => match P.underlying t with
    | some .bool => some [none]
    | some (.int k) => some [some k]
    | some (.struct fs) => if P.stoodInHeld t = false then eqF P (eqI P n) fs.toList 0 else none
    | _ => none
def formV (ag : Bool) (cs : List Value) : Value := if ag then .agg cs.toArray else cs.getD 0 undef
theorem veqs_append : ∀ (a b c d : List Value), a.length = b.length → veqs (a ++ c) (b ++ d) = (veqs a b && veqs c d)
  | [], [], c, d, _ => by simp [veqs]
  | x :: a, y :: b, c, d, h => by simp [veqs, veqs_append a b c d (by simpa using h), Bool.and_assoc]
  | [], _ :: _, _, _, h => by cases h
  | _ :: _, [], _, _, h => by cases h
theorem kind_int {v : Value} {k : IntKind} (h : kindOf v = some (some k)) : ∃ n, v = .int k n := by
  unfold kindOf at h; split at h <;> simp_all
theorem kind_bool {v : Value} (h : kindOf v = some none) : ∃ b, v = .bool b := by
  unfold kindOf at h; split at h <;> simp_all
theorem eqFields_run {P : Program} {d : Nat} {xs ys : Array Value} (f : TypeId → Option (List (Option IntKind)))
    (hf : ∀ t ks, f t = some ks → ∀ (w : World) (xs ys : List Value), xs.map kindOf = ks.map some → ys.map kindOf = ks.map some →
      (Op.equalIn d t (formV (aggB P t) xs) (formV (aggB P t) ys)).run P w = .ok (veqs xs ys) w) :
    ∀ (fs : List Field) (off : Nat) (ks : List (Option IntKind)), eqF P f fs off = some ks → ∀ w : World,
      ((xs.toList.drop off).take ks.length).map kindOf = ks.map some → ((ys.toList.drop off).take ks.length).map kindOf = ks.map some →
      (Op.eqFields d xs ys fs).run P w = .ok (veqs ((xs.toList.drop off).take ks.length) ((ys.toList.drop off).take ks.length)) w
  | [], off, ks, h, w, _, _ => by simp [eqF] at h; subst h; simp [Op.eqFields, veqs]
  | fd :: fs, off, ks, h, w, hx, hy => by
    unfold eqF at h
    split at h
    · rename_i ho
      split at h
      · rename_i k1 n ag h1 h2
        split at h
        · rename_i hn
          obtain ⟨k2, h3, rfl⟩ := Option.map_eq_some_iff.1 h
          obtain ⟨hn1, hn0, hn2⟩ := hn
          have hxl := congrArg List.length hx
          have hyl := congrArg List.length hy
          simp only [List.length_map, List.length_take, List.length_drop, Array.length_toList, List.length_append] at hxl hyl
          have ex : (xs.toList.drop off).take (k1 ++ k2).length = (xs.toList.drop off).take n ++ (xs.toList.drop (off + n)).take k2.length := by
            rw [List.length_append, hn1, List.take_add, List.drop_drop]
          have ey : (ys.toList.drop off).take (k1 ++ k2).length = (ys.toList.drop off).take n ++ (ys.toList.drop (off + n)).take k2.length := by
            rw [List.length_append, hn1, List.take_add, List.drop_drop]
          rw [ex, List.map_append, List.map_append] at hx
          rw [ey, List.map_append, List.map_append] at hy
          have hxn : ((xs.toList.drop off).take n).length = n := by simp; omega
          have hyn : ((ys.toList.drop off).take n).length = n := by simp; omega
          obtain ⟨hx1, hx2⟩ := List.append_inj hx (by simp only [List.length_map]; rw [hxn, hn1])
          obtain ⟨hy1, hy2⟩ := List.append_inj hy (by simp only [List.length_map]; rw [hyn, hn1])
          have hag : aggB P fd.type = ag := by
            obtain ⟨i, dd, _, _, _, h4⟩ := tyI_some h2
            exact h4
          have px := run_part h2 hn2 w xs (off := off) (by omega)
          have py := run_part h2 hn2 w ys (off := off) (by omega)
          have fx : (if ag then Value.agg (xs.extract off (off + n)) else xs.getD off undef) = formV (aggB P fd.type) ((xs.toList.drop off).take n) := by
            rw [hag]
            unfold formV
            cases ag with
            | true => simp only [if_true]; congr 1; apply Array.ext'; simp [List.extract_eq_take_drop]
            | false =>
              have := hn2 rfl
              subst this
              simp [List.getD_eq_getElem?_getD, Array.getD_eq_getD_getElem?]
          have fy : (if ag then Value.agg (ys.extract off (off + n)) else ys.getD off undef) = formV (aggB P fd.type) ((ys.toList.drop off).take n) := by
            rw [hag]
            unfold formV
            cases ag with
            | true => simp only [if_true]; congr 1; apply Array.ext'; simp [List.extract_eq_take_drop]
            | false =>
              have := hn2 rfl
              subst this
              simp [List.getD_eq_getElem?_getD, Array.getD_eq_getD_getElem?]
          have he := hf fd.type k1 h1 w _ _ hx1 hy1
          have hr := eqFields_run f hf fs (off + n) k2 h3 w hx2 hy2
          rw [ex, ey, veqs_append _ _ _ _ (by rw [hxn, hyn])]
          simp only [Op.eqFields, if_pos ho.2, ho.1, Sem.run_bind, px, py, fx, fy, Result.andThen_ok, he]
          cases hv : veqs ((xs.toList.drop off).take n) ((ys.toList.drop off).take n) with
          | true => simp only [Bool.not_true, Bool.false_eq_true, if_false, Bool.true_and]; exact hr
          | false => simp
        · cases h
      · cases h
    · cases h
theorem eq_run {P : Program} : ∀ (n : Nat) (t : TypeId) (ks : List (Option IntKind)), eqI P n t = some ks → ∀ d, n ≤ d → ∀ (w : World) (xs ys : List Value),
    xs.map kindOf = ks.map some → ys.map kindOf = ks.map some → (Op.equalIn d t (formV (aggB P t) xs) (formV (aggB P t) ys)).run P w = .ok (veqs xs ys) w
  | 0, t, ks, h, _, _, _, _, _, _, _ => by cases h
  | n + 1, t, ks, h, d, hd, w, xs, ys, hx, hy => by
    obtain ⟨d, rfl⟩ : ∃ d', d = d' + 1 := ⟨d - 1, by omega⟩
    unfold eqI at h
    split at h
    · rename_i ht
      cases h
      obtain ⟨x, rfl⟩ := List.length_eq_one_iff.1 (show xs.length = 1 by simpa using congrArg List.length hx)
      obtain ⟨y, rfl⟩ := List.length_eq_one_iff.1 (show ys.length = 1 by simpa using congrArg List.length hy)
      · obtain ⟨a, rfl⟩ := kind_bool (by simpa using hx)
        obtain ⟨b, rfl⟩ := kind_bool (by simpa using hy)
        have hag : aggB P t = false := by unfold aggB; rw [ht]
        rw [hag]
        simp only [formV, Bool.false_eq_true, if_false, List.getD_cons_zero]
        rw [run_equalIn_bool' w d t a b ht]
        simp [veqs, veq]
    · rename_i k ht
      cases h
      obtain ⟨x, rfl⟩ := List.length_eq_one_iff.1 (show xs.length = 1 by simpa using congrArg List.length hx)
      obtain ⟨y, rfl⟩ := List.length_eq_one_iff.1 (show ys.length = 1 by simpa using congrArg List.length hy)
      · obtain ⟨a, rfl⟩ := kind_int (by simpa using hx)
        obtain ⟨b, rfl⟩ := kind_int (by simpa using hy)
        have hag : aggB P t = false := by unfold aggB; rw [ht]
        rw [hag]
        simp only [formV, Bool.false_eq_true, if_false, List.getD_cons_zero]
        rw [run_equalIn_int w d t k k a b ht]
        simp [veqs, veq]
        rfl
    · rename_i fs ht
      split at h
      · rename_i hs
        have hag : aggB P t = true := by unfold aggB; rw [ht]
        have hf : P.fieldsOf t = fs := by unfold Program.fieldsOf; rw [ht]
        have hxl := congrArg List.length hx
        have hyl := congrArg List.length hy
        simp only [List.length_map] at hxl hyl
        rw [hag]
        simp only [formV, if_true]
        rw [run_equalIn_struct w d t _ _ (by rw [hf]; exact ht) hs, hf]
        have := eqFields_run (P := P) (d := d) (xs := xs.toArray) (ys := ys.toArray) (eqI P n) (fun t ks h w xs ys hx hy => eq_run n t ks h d (by omega) w xs ys hx hy) fs.toList 0 ks h w
          (by simpa [← hxl] using hx) (by simpa [← hyl] using hy)
        rw [this]
        congr 2
        · simp [← hxl]
        · simp [← hyl]
      · cases h
    · cases h
theorem eqt_of {P : Program} {t : TypeId} {ks : List (Option IntKind)} (h : eqI P 20 t = some ks) (hag : aggB P t = true) (hg : P.eqGuardType P.depth t = false) : EqT P t ks := by
  refine ⟨hg, fun w xs ys hx hy => ?_⟩
  have := eq_run 20 t ks h 10000 (by omega) w xs.toList ys.toList hx hy
  rw [hag] at this
  simpa [formV] using this
end Go.AL
/-
  The abstract logic: a loop that keeps some temporaries and boxes as they are. Conditions: none.
-/
namespace Go.AL
open Go.RowKit
def selT (T : TT) : List Nat → TT
  | [] => []
  | t :: r => (t, lk T t) :: selT T r
def selB : Option ABox → Nat → HH → HH
  | some x, b, r => (b, x) :: r
  | none, _, r => r
def selH (H : HH) : List Nat → HH
  | [] => []
  | b :: r => selB (hk H b) b (selH H r)
theorem selT_nil (T : TT) : selT T [] = [] := rfl
theorem selT_cons (T : TT) (t : Nat) (r : List Nat) : selT T (t :: r) = (t, lk T t) :: selT T r := rfl
theorem selH_nil (H : HH) : selH H [] = [] := rfl
theorem selH_cons (H : HH) (b : Nat) (r : List Nat) : selH H (b :: r) = selB (hk H b) b (selH H r) := rfl
theorem selB_some (x : ABox) (b : Nat) (r : HH) : selB (some x) b r = (b, x) :: r := rfl
theorem selB_none (b : Nat) (r : HH) : selB none b r = r := rfl
theorem tr_lp {P : Program} {n : Nat} (hm : P.follows .mixedOrders = true) {X : Type} (ks bs : List Nat) (ch : X → TT) (chH : X → HH) (μ : X → Nat) (x0 : X) {body : Code} {T : TT} {H : HH} {nx : Nat} {Q : Exit → TT → HH → Nat → Prop}
    (h0 : TWk T nx (ch x0 ++ selT T ks)) (h1 : HWk H nx (chH x0 ++ selH H bs))
    (round : ∀ x, acode P n body (ch x ++ selT T ks) (chH x ++ selH H bs) nx (nextQ (fun T' H' nx' => ∃ x', μ x' < μ x ∧ Wk T' H' nx' (ch x' ++ selT T ks) (chH x' ++ selH H bs) nx) Q)) : Tr P n (.loop body) T H nx Q :=
  tr_loop hm (fun x => ch x ++ selT T ks) (fun x => chH x ++ selH H bs) nx μ x0 (wk_go (Nat.le_refl _) h0 h1) round (Nat.le_refl _)
attribute [go_sem] selT_nil selT_cons selH_nil selH_cons selB_some selB_none
end Go.AL
/-
  What a program's head says, out of its first words. Conditions: none, over any program.
-/
namespace Go.AL
open Go Go.RowKit
def sg (l : List Nat) : List Char := l.map Char.ofNat
def sp : Char := Char.ofNat 32
theorem ws_word : ∀ (l r : List Char), l.all (· != sp) = true → wordsSigns (l ++ sp :: r) = l :: wordsSigns r
  | [], r, _ => rfl
  | c :: l, r, h => by
    simp only [List.all_cons, Bool.and_eq_true, bne_iff_ne, ne_eq] at h
    have ih := ws_word l r h.2
    rw [List.cons_append]
    conv => lhs; unfold wordsSigns
    split
    · rename_i e; cases e
    · rename_i e; injection e with e _; exact absurd e h.1
    · rename_i c' r' _ e
      injection e with e1 e2
      subst e1; subst e2
      rw [ih]
def wHarness : List Char := sg [104, 97, 114, 110, 101, 115, 115]
def wCut : List Char := sg [99, 117, 116]
structure Head (P : Program) (sum rest : List Char) : Prop where
  h : P.initOrder = String.ofList (wHarness ++ sp :: (sum ++ sp :: (wCut ++ sp :: rest)))
  hs : isSumSigns sum = true
  hn : sum.all (· != sp) = true
theorem Head.words {P : Program} {sum rest : List Char} (h : Head P sum rest) : behindMainWord (wordsSigns P.initOrder.toList) = wCut :: wordsSigns rest := by
  rw [h.h, String.toList_ofList, ws_word _ _ (by kernel_rfl), ws_word _ _ h.hn, ws_word _ _ (by kernel_rfl)]
  unfold behindMainWord
  have e : (wHarness == "harness".toList || wHarness == "ownmain".toList) = true := by kernel_rfl
  simp only [e, h.hs, Bool.and_self, if_true]
theorem strip_cut (r : List (List Char)) : stripLifts liftWords (wCut :: r) = ([], wCut :: r) := by kernel_rfl
theorem Head.may {P : Program} {sum rest : List Char} (h : Head P sum rest) (h1 : P.laysLater = false) (h2 : P.bearsReflect = false) (h3 : P.doorFits [] = true) : P.mayEnter = true := by
  unfold Program.mayEnter
  rw [h.words]
  have e : (some wCut == some "cut".toList) = true := by kernel_rfl
  simp only [strip_cut, h1, h2, h3, List.head?_cons, e, List.contains_nil, Bool.not_false, Bool.or_true, Bool.true_or, Bool.and_true, Bool.and_self]
theorem Head.lifts {P : Program} {sum rest : List Char} (h : Head P sum rest) : P.headLifts = [] := by
  unfold Program.headLifts
  rw [h.words, strip_cut]
  have e : (some wCut == some "cut".toList) = true := by kernel_rfl
  simp only [List.head?_cons, e, if_true]
theorem Head.final {P : Program} {sum rest : List Char} (h : Head P sum rest) : P.liftsFinal = false := by
  unfold Program.liftsFinal
  rw [h.lifts, h.words]
  have e : (some wCut == some "carried".toList) = false := by kernel_rfl
  simp only [List.head?_cons, e, Bool.false_and, List.contains_nil, Bool.or_self]
theorem Head.made {P : Program} {sum rest : List Char} (h : Head P sum rest) : P.make = some .cut := by
  unfold Program.make
  rw [h.words]
  have e1 : (wCut == "gc".toList || wCut == "spec".toList) = false := by kernel_rfl
  have e2 : (wCut == "cut".toList) = true := by kernel_rfl
  simp only [e1, e2, Bool.true_or, if_true, Bool.false_eq_true, if_false]
end Go.AL
