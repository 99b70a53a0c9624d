/-
  The abstract logic: a callee that is walked in its place, told by what the walk comes to. Conditions: the program follows the mixed orders.
-/
import Derived.Test.YtlkngccfikeaiaaAlB
set_option linter.all false
namespace Go.AL
open Go.RowKit
def endJ (a nx e : Nat) : Prop := a ≤ nx + (e - nx)
def retJ (P : Program) (rs : List ResultVar) (nx : Nat) (v : AV) (wb : HH) (e : Nat) (rb : List Nat) : Exit → TT → HH → Nat → Prop := retE P rs nx ⟨v, wb, e - nx, rb⟩
theorem retJ_normal (P : Program) (rs : List ResultVar) (v : AV) (wb : HH) (e n : Nat) (rb : List Nat) (T : TT) (H : HH) (nx : Nat) : retJ P rs n v wb e rb .normal T H nx = ∃ u, resA P (lk T) (hk H) rs = some u ∧ (u = v ∧ endJ nx n e ∧ H = wb) := rfl
theorem retJ_ret (P : Program) (rs : List ResultVar) (v : AV) (wb : HH) (e n : Nat) (rb : List Nat) (T : TT) (H : HH) (nx : Nat) : retJ P rs n v wb e rb .ret T H nx = ∃ u, resA P (lk T) (hk H) rs = some u ∧ (u = v ∧ endJ nx n e ∧ H = wb) := rfl
attribute [go_sem] retJ_normal retJ_ret
def keepB (Hl wb : HH) : Bool := Hl.all fun p => (wb.map (·.1)).contains p.1
inductive BOk (n : Nat) : ABox → Prop
  | var {v : AV} (h : Lt n v) : BOk n (.var v)
  | nl : BOk n .nl
  | ob {o : Obj} : BOk n (.ob o)
  | mq {F : List Value → Obj} {vs : List AV} (h : ∀ x ∈ vs, Lt n x) : BOk n (.mq F vs)
  | row {e z ver : Nat} {es : List AV} (h : ∀ x ∈ es, Lt n x) : BOk n (.row e z ver es)
inductive HBs (n : Nat) : HH → Prop
  | nil : HBs n []
  | cons {b : Nat} {x : ABox} {H : HH} (h : b < n) (hx : BOk n x) (hr : HBs n H) : HBs n ((b, x) :: H)
theorem BOk.blt {n : Nat} {x : ABox} (h : BOk n x) : bLt0 n x := by
  cases h with
  | var h => exact h
  | nl => trivial
  | ob => trivial
  | mq h => exact h
  | row h => exact h
theorem HBs.all {n : Nat} {H : HH} (h : HBs n H) : ∀ p ∈ H, p.1 < n ∧ bLt0 n p.2 := by
  induction h with
  | nil => intro p hp; cases hp
  | cons h hx _ ih =>
    intro p hp
    rcases List.mem_cons.1 hp with rfl | hp
    · exact ⟨h, hx.blt⟩
    · exact ih p hp
inductive Lts (n : Nat) : List AV → Prop
  | nil : Lts n []
  | cons {v : AV} {l : List AV} (h : Lt n v) (hr : Lts n l) : Lts n (v :: l)
theorem Lts.all {n : Nat} {l : List AV} (h : Lts n l) : ∀ v ∈ l, Lt n v := by
  induction h with
  | nil => intro p hp; cases hp
  | cons h _ ih =>
    intro p hp
    rcases List.mem_cons.1 hp with rfl | hp
    · exact h
    · exact ih p hp
/-! ### a loop, round by round -/
inductive Fu where
  | z
  | s (f : Fu)
def aloop (P : Program) (n : Nat) (body : Code) : Fu → TT → HH → Nat → (Exit → TT → HH → Nat → Prop) → Prop
  | .z, T, H, nx, Q => acode P n body T H nx (nextQ (fun _ _ _ => False) Q)
  | .s k, T, H, nx, Q => acode P n body T H nx (nextQ (fun T' H' nx' => aloop P n body k T' H' nx' Q) Q)
def KLoop (P : Program) (n : Nat) (body : Code) (k : Fu) (Q : Exit → TT → HH → Nat → Prop) (T : TT) (H : HH) (nx : Nat) : Prop := aloop P n body k T H nx Q
def KNo (_ : TT) (_ : HH) (_ : Nat) : Prop := False
theorem aloop_s (P : Program) (n : Nat) (body : Code) (k : Fu) (T : TT) (H : HH) (nx : Nat) (Q : Exit → TT → HH → Nat → Prop) : aloop P n body (.s k) T H nx Q = acode P n body T H nx (nextQ (KLoop P n body k Q) Q) := rfl
theorem aloop_z (P : Program) (n : Nat) (body : Code) (T : TT) (H : HH) (nx : Nat) (Q : Exit → TT → HH → Nat → Prop) : aloop P n body .z T H nx Q = acode P n body T H nx (nextQ KNo Q) := rfl
theorem kloop_ (P : Program) (n : Nat) (body : Code) (k : Fu) (T : TT) (H : HH) (nx : Nat) (Q : Exit → TT → HH → Nat → Prop) : KLoop P n body k Q T H nx = aloop P n body k T H nx Q := rfl
attribute [go_sem] aloop_s aloop_z kloop_
theorem tr_rounds {P : Program} {n : Nat} (hm : P.follows .mixedOrders = true) (k : Fu) {body : Code} {T : TT} {H : HH} {nx : Nat} {Q : Exit → TT → HH → Nat → Prop} (h : aloop P n body k T H nx Q) : Tr P n (.loop body) T H nx Q := by
  intro C g a w hP hn hr
  have key : ∀ (f : Fu) (T : TT) (H : HH) (nx : Nat) (g : Nat → List Value) (a : Act) (w : World), aloop P n body f T H nx Q → Rel C (lk T) (hk H) (fun c => c < nx) g a w →
      ∀ (b : Frame) (k : List Item) (cs : List Frame), ∃ e a' w', (∃ T' H' nx' g', Q e T' H' nx' ∧ Rel C (lk T') (hk H') (fun c => c < nx') g' a' w') ∧
        Arrives P (lone (b.at a (.code body :: .inLoop body :: k)) cs w) b k cs e a' w' := by
    intro f
    induction f with
    | z =>
      intro T H nx g a w ha hr b k cs
      obtain ⟨e, a₁, w₁, ⟨T', H', nx', g', hq, hr'⟩, harr⟩ := acode_sound hm body _ _ _ _ ha C g a w hP hn hr b (.inLoop body :: k) cs
      cases e with
      | normal => exact hq.elim
      | exit id => exact ⟨_, a₁, w₁, ⟨T', H', nx', g', hq, hr'⟩, .pass (x := .inLoop body) rfl (fun _ _ => .inl (by simp)) harr⟩
      | goto l => exact ⟨_, a₁, w₁, ⟨T', H', nx', g', hq, hr'⟩, .pass (x := .inLoop body) rfl (fun _ _ => .inl (by simp)) harr⟩
      | ret => exact ⟨_, a₁, w₁, ⟨T', H', nx', g', hq, hr'⟩, .pass (x := .inLoop body) rfl (fun _ _ => .inl (by simp)) harr⟩
      | panic ch => exact ⟨_, a₁, w₁, ⟨T', H', nx', g', hq, hr'⟩, .pass (x := .inLoop body) rfl (fun _ _ => .inl (by simp)) harr⟩
      | outgrown => exact ⟨_, a₁, w₁, ⟨T', H', nx', g', hq, hr'⟩, .pass (x := .inLoop body) rfl (fun _ _ => .inl (by simp)) harr⟩
    | s f ih =>
      intro T H nx g a w ha hr b k cs
      obtain ⟨e, a₁, w₁, ⟨T', H', nx', g', hq, hr'⟩, harr⟩ := acode_sound hm body _ _ _ _ ha C g a w hP hn hr b (.inLoop body :: k) cs
      cases e with
      | normal =>
        obtain ⟨e₂, a₂, w₂, hq₂, harr₂⟩ := ih T' H' nx' g' a₁ w₁ hq hr' b k cs
        exact ⟨e₂, a₂, w₂, hq₂, .of_steps (Steps.trans harr (.one step_inLoop)) harr₂⟩
      | exit id => exact ⟨_, a₁, w₁, ⟨T', H', nx', g', hq, hr'⟩, .pass (x := .inLoop body) rfl (fun _ _ => .inl (by simp)) harr⟩
      | goto l => exact ⟨_, a₁, w₁, ⟨T', H', nx', g', hq, hr'⟩, .pass (x := .inLoop body) rfl (fun _ _ => .inl (by simp)) harr⟩
      | ret => exact ⟨_, a₁, w₁, ⟨T', H', nx', g', hq, hr'⟩, .pass (x := .inLoop body) rfl (fun _ _ => .inl (by simp)) harr⟩
      | panic ch => exact ⟨_, a₁, w₁, ⟨T', H', nx', g', hq, hr'⟩, .pass (x := .inLoop body) rfl (fun _ _ => .inl (by simp)) harr⟩
      | outgrown => exact ⟨_, a₁, w₁, ⟨T', H', nx', g', hq, hr'⟩, .pass (x := .inLoop body) rfl (fun _ _ => .inl (by simp)) harr⟩
  intro b k' cs
  obtain ⟨e, a', w', hq, harr⟩ := key k T H nx g a w h hr b k' cs
  exact ⟨e, a', w', hq, .of_steps (.one step_loop) harr⟩
end Go.AL
/-
  The abstract logic: a callee that is walked in its place, whose boxes need not all be told. Conditions: the program follows the mixed orders.
-/
namespace Go.AL
open Go.RowKit
def HSub (H wb : HH) : Prop := ∀ c x, hk wb c = some x → hk H c = some x
theorem HSub.refl (H : HH) : HSub H H := fun _ _ h => h
theorem HSub.nil {H : HH} : HSub H [] := fun _ _ h => by cases h
theorem HSub.cons {H wb : HH} {b : Nat} {x : ABox} (h : hk H b = some x) (hr : HSub H wb) : HSub H ((b, x) :: wb) := by
  intro c y hy
  simp only [hk] at hy
  split at hy
  · rename_i e; injection hy with hy; subst hy; subst e; exact h
  · exact hr c y hy
def retF (P : Program) (rs : List ResultVar) (nx : Nat) (r : Res) : Exit → TT → HH → Nat → Prop
  | .normal, T, H, nx' | .ret, T, H, nx' => ∃ v, resA P (lk T) (hk H) rs = some v ∧ (v = r.v ∧ nx' ≤ nx + r.nw ∧ HSub H r.wb)
  | _, _, _, _ => False
theorem calls_inf {P : Program} {f : Nat} {fn : Func} {c : Code} {as : List AV} {Hl : HH} {nx : Nat} {r : Res} (hm : P.follows .mixedOrders = true) (hf : P.funcs[f]? = some fn) (hb : fn.body = some c) (he : entB P f = true)
    (hn : as.length ≤ fn.ntmps) (hlt : ∀ v ∈ as, Lt nx v) (hHl : ∀ p ∈ Hl, p.1 < nx ∧ bLt0 nx p.2) (hltr : Lt (nx + r.nw) r.v) (hwl : ∀ p ∈ r.wb, p.1 < nx + r.nw ∧ bLt0 (nx + r.nw) p.2) (hko : keysOk r.wb = true)
    (hrb : r.rb = Hl.map (·.1)) (hkeep : ∀ p ∈ Hl, p.1 ∈ r.wb.map (·.1)) (h : acode P fn.ntmps c (argT as 0) Hl nx (retF P fn.results.toList nx r)) : CallS P (hk Hl) nx f as r := by
  refine ⟨he, fun C T' H' D g a w hP hr hH hnew vs hvs => ?_⟩
  subst hP
  obtain ⟨hsz, hrep⟩ := hvs
  refine calls_of_wp hf hb ?_
  have hkH : ∀ b x, hk Hl b = some x → H' b = some x := by
    intro b x hx
    rw [hH b (by rw [hrb]; exact List.mem_map.2 ⟨_, hk_mem Hl b x hx, rfl⟩)]; exact hx
  have hklt : ∀ b x, hk Hl b = some x → b < nx ∧ bLt0 nx x := fun b x hx => hHl _ (hk_mem Hl b x hx)
  let g1 : Nat → List Value := fun b => if b < nx then g b else []
  have hg1 : ∀ b, b < nx → g1 b = g b := fun b hb => if_pos hb
  let O' : Nat → Prop := fun k => C.O k ∨ ∃ b x, H' b = some x ∧ hk Hl b = none ∧ ownBlk g b x = some k
  let F' : Nat → Prop := fun k => ∃ b x, hk Hl b = some x ∧ ownBlk g b x = some k
  let C' : Cx := ⟨C.P, fn.ntmps, w, F', O', nx, g1, fun b => b < nx ∧ hk Hl b = none, []⟩
  have hob : ∀ b x, hk Hl b = some x → ownBlk g1 b x = ownBlk g b x := fun b x hx => ownBlk_congr x (hg1 b (hklt b x hx).1)
  have hOwn1 : ∀ k, Own O' g1 (hk Hl) k → Own C.O g H' k := by
    rintro k ((hk' | ⟨b, x, hx, _, hk'⟩) | ⟨b, x, hx, hk'⟩)
    · exact .inl hk'
    · exact .inr ⟨b, x, hx, hk'⟩
    · rw [hob b x hx] at hk'; exact .inr ⟨b, x, hkH b x hx, hk'⟩
  have hrel : Rel C' (lk (argT as 0)) (hk Hl) (fun c => c < nx) g1 { tmps := vs ++ Array.replicate (fn.ntmps - vs.size) undef, defers := [] } w := by
    refine ⟨rfl, ?_, fun t => ?_, fun b x hx => ?_, fun b hb => if_neg hb, fun b x hx => (hklt b x hx).1, fun b b' x x' k hx hx' hk1 hk2 => ?_, fun b x k hx hk1 => ?_, ?_, Kept.refl w _, ?_⟩
    · simp [C']; omega
    · rw [lk_argT, if_pos (Nat.zero_le t), Nat.sub_zero]
      by_cases ht : t < as.length
      · have h1 := hrep t ht
        have e1 : (vs ++ Array.replicate (fn.ntmps - vs.size) undef).getD t undef = vs.getD t undef := by
          rw [Array.getD_eq_getD_getElem?, Array.getElem?_append_left (by omega), Array.getD_eq_getD_getElem?]
        rw [e1]
        exact (h1.reset hg1 (hlt _ (getD_mem ht))).sub hOwn1
      · rw [List.getD_eq_getElem?_getD, List.getElem?_eq_none (by omega)]; exact .und _
    · exact ((hr.bx b x (hkH b x hx)).reset hg1 (hklt b x hx).1 (hklt b x hx).2).sub hOwn1
    · rw [hob b x hx] at hk1; rw [hob b' x' hx'] at hk2
      exact hr.sep b b' x x' k (hkH b x hx) (hkH b' x' hx') hk1 hk2
    · rw [hob b x hx] at hk1
      have h1 := hr.own b x k (hkH b x hx) hk1
      refine ⟨?_, .inl ⟨b, x, hx, hk1⟩, h1.2.2⟩
      rintro (ho | ⟨b', x', hx', hn', hk'⟩)
      · exact h1.1 ho
      · have := hr.sep b b' x x' k (hkH b x hx) hx' hk1 hk'
        subst this
        rw [hx] at hn'; cases hn'
    · rintro k (ho | ⟨b', x', hx', _, hk'⟩)
      · exact Nat.lt_of_lt_of_le (hr.oo k ho) hr.kept.size
      · exact (hr.own b' x' k hx' hk').2.2
    · exact ⟨fun b _ ver v hv => hv, fun b hb => hb, fun b hb => ⟨hb.1, rfl⟩, fun b x hx hf => by have h2 : b < nx ∧ hk Hl b = none := hf; rw [hx] at h2; cases h2.2⟩
  refine wp_mono (acode_sound hm c _ _ _ _ h C' _ _ w rfl rfl hrel) ?_
  rintro e a' w' ⟨T1, H1, nx1, g2, hq, hr1⟩
  have fin : (∃ v, resA C.P (lk T1) (hk H1) fn.results.toList = some v ∧ (v = r.v ∧ nx1 ≤ nx + r.nw ∧ HSub H1 r.wb)) → a'.defers = [] ∧ ∃ v, (results fn a'.tmps).run C.P w' = .ok v w' ∧
      ∃ v_1 g', Ending.returned v = .returned v_1 ∧ Rel C T' (updL H' r.wb) (fun c => D c ∨ (nx ≤ c ∧ c < nx + r.nw)) g' a w' ∧ Rep w' (Own C.O g' (updL H' r.wb)) g' r.v v_1 := by
    rintro ⟨v, hv, rfl, hnx1, hs⟩
    obtain ⟨val, h1, h2⟩ := rep_resA (C := C') hr1 hv
    replace hr1 := hr1.less hs
    replace h2 := h2.sub (fun k hk => Own.less hs hk)
    let g' : Nat → List Value := fun b => if b < nx + r.nw then g2 b else g b
    have hg'2 : ∀ b, b < nx + r.nw → g' b = g2 b := fun b hb => if_pos hb
    have hcase : ∀ b x, updL H' r.wb b = some x → (b ∈ r.wb.map (·.1) ∧ hk r.wb b = some x ∧ b < nx + r.nw ∧ bLt0 (nx + r.nw) x) ∨ (b ∉ r.wb.map (·.1) ∧ H' b = some x ∧ hk Hl b = none) := by
      intro b x hx
      by_cases hm' : b ∈ r.wb.map (·.1)
      · rw [updL_hk r.wb H' b hko hm'] at hx
        exact .inl ⟨hm', hx, hwl _ (hk_mem r.wb b x hx)⟩
      · rw [updL_other r.wb H' b hm'] at hx
        refine .inr ⟨hm', hx, hk_none Hl b fun hk' => hm' ?_⟩
        obtain ⟨p, hp, rfl⟩ := List.mem_map.1 hk'
        exact hkeep p hp
    have hext : Ext g g' := by
      intro b ver v hv
      show (g' b)[ver]? = some v
      by_cases hlt' : b < nx + r.nw
      · rw [hg'2 b hlt']
        by_cases hb : b < nx
        · exact hr1.old.ge b hb ver v (by show (g1 b)[ver]? = some v; rw [hg1 b hb]; exact hv)
        · rw [hr.fresh b (by have := hnew (b - nx) (by omega); rwa [show nx + (b - nx) = b by omega] at this)] at hv; simp at hv
      · have : g' b = g b := if_neg hlt'
        rw [this]; exact hv
    have hgo : ∀ b, hk Hl b = none → (b < nx + r.nw → b < nx ∨ ¬ D b) → g' b = g b ∨ (nx ≤ b ∧ b < nx + r.nw) := by
      intro b hn' _
      by_cases hlt' : b < nx + r.nw
      · by_cases hb : b < nx
        · left
          rw [hg'2 b hlt', (hr1.old.gx b ⟨hb, hn'⟩).2]
          exact hg1 b hb
        · exact .inr ⟨by omega, hlt'⟩
      · exact .inl (if_neg hlt')
    have hnd : ∀ b, nx ≤ b → b < nx + r.nw → ¬ D b := fun b h1 h2 => by
      have := hnew (b - nx) (by omega); rwa [show nx + (b - nx) = b by omega] at this
    have hgo' : ∀ b x, H' b = some x → hk Hl b = none → g' b = g b := by
      intro b x hx hn'
      rcases hgo b hn' (fun _ => by
        rcases Nat.lt_or_ge b nx with h | h
        · exact .inl h
        · exact .inr (hnd b h (by assumption))) with h | h
      · exact h
      · exact absurd (hr.dom b x hx) (hnd b h.1 h.2)
    have hF : ∀ k, F' k → Own C.O g H' k := by
      rintro k ⟨b, x, hx, hk'⟩
      exact .inr ⟨b, x, hkH b x hx, hk'⟩
    have hkp : ∀ k, k < w.heap.size → ¬ Own C.O g H' k → w'.heap[k]? = w.heap[k]? := fun k hk hn' => hr1.kept.block k hk (fun hf => hn' (hF k hf))
    have hsub : ∀ k, k < w.heap.size → Own C.O g' (updL H' r.wb) k → Own C.O g H' k := by
      rintro k hk' (ho | ⟨b, x, hx, hob'⟩)
      · exact .inl ho
      · rcases hcase b x hx with ⟨_, hx1, hlt', _⟩ | ⟨_, hx1, hn'⟩
        · rw [ownBlk_congr x (hg'2 b hlt')] at hob'
          rcases (hr1.own b x k hx1 hob').2.1 with hf | hf
          · exact hF k hf
          · have : w.heap.size ≤ k := hf
            omega
        · rw [ownBlk_congr x (hgo' b x hx1 hn')] at hob'
          exact .inr ⟨b, x, hx1, hob'⟩
    have hl : Later w (Own C.O g H') w' (Own C.O g' (updL H' r.wb)) := ⟨hr1.kept.size, hkp, hsub⟩
    have hsub1 : ∀ k, Own C.O g' (updL H' r.wb) k → Own O' g2 (hk r.wb) k := by
      rintro k (ho | ⟨b, x, hx, hob'⟩)
      · exact .inl (.inl ho)
      · rcases hcase b x hx with ⟨_, hx1, hlt', _⟩ | ⟨_, hx1, hn'⟩
        · rw [ownBlk_congr x (hg'2 b hlt')] at hob'; exact .inr ⟨b, x, hx1, hob'⟩
        · rw [ownBlk_congr x (hgo' b x hx1 hn')] at hob'; exact .inl (.inr ⟨b, x, hx1, hn', hob'⟩)
    have hlow : ∀ b x, hk r.wb b = some x → b < nx → ∃ y, hk Hl b = some y := by
      intro b x hx hb
      cases hy : hk Hl b with
      | some y => exact ⟨y, rfl⟩
      | none => exact absurd ⟨hb, hy⟩ (hr1.old.gh b x hx)
    refine ⟨hr1.df, val, h1, val, g', rfl, ?_, (h2.reset hg'2 hltr).sub hsub1⟩
    refine ⟨hr.df, hr.sz, fun t => (hr.tm t).later hl hext, fun b x hx => ?_, fun b hb => ?_, fun b x hx => ?_, fun b b' x x' k hx hx' hk1 hk2 => ?_, fun b x k hx hk1 => ?_, hr.oo, ?_, ?_⟩
    · rcases hcase b x hx with ⟨_, hx1, hlt', hbl⟩ | ⟨_, hx1, hn'⟩
      · exact ((hr1.bx b x hx1).reset hg'2 hlt' hbl).sub hsub1
      · refine (hr.bx b x hx1).later hl hext (fun k hk' => ?_) (hgo' b x hx1 hn')
        refine hr1.kept.block k (hr.own b x k hx1 hk').2.2 ?_
        rintro ⟨b', x', hx', hk2⟩
        have := hr.sep b b' x x' k hx1 (hkH b' x' hx') hk' hk2
        subst this
        rw [hx'] at hn'; cases hn'
    · have hbd : ¬ D b := fun h => hb (.inl h)
      have hg0 := hr.fresh b hbd
      rcases Nat.lt_or_ge b (nx + r.nw) with hlt' | hlt'
      · have hbx : b < nx := by
          rcases Nat.lt_or_ge b nx with h | h
          · exact h
          · exact absurd (.inr ⟨h, hlt'⟩) hb
        have hn' : hk Hl b = none := by
          cases hy : hk Hl b with
          | none => rfl
          | some y => exact absurd (hr.dom b y (hkH b y hy)) hbd
        rw [hg'2 b hlt', (hr1.old.gx b ⟨hbx, hn'⟩).2]
        show g1 b = []
        rw [hg1 b hbx, hg0]
      · show g' b = []
        have : g' b = g b := if_neg (by omega)
        rw [this, hg0]
    · rcases hcase b x hx with ⟨_, hx1, hlt', _⟩ | ⟨_, hx1, hn'⟩
      · rcases Nat.lt_or_ge b nx with h | h
        · obtain ⟨y, hy⟩ := hlow b x hx1 h
          exact .inl (hr.dom b y (hkH b y hy))
        · exact .inr ⟨h, hlt'⟩
      · exact .inl (hr.dom b x hx1)
    · rcases hcase b x hx with ⟨_, hx1, hlt', _⟩ | ⟨_, hx1, hn'⟩ <;> rcases hcase b' x' hx' with ⟨_, hx1', hlt'', _⟩ | ⟨_, hx1', hn''⟩
      · rw [ownBlk_congr x (hg'2 b hlt')] at hk1; rw [ownBlk_congr x' (hg'2 b' hlt'')] at hk2
        exact hr1.sep b b' x x' k hx1 hx1' hk1 hk2
      · rw [ownBlk_congr x (hg'2 b hlt')] at hk1; rw [ownBlk_congr x' (hgo' b' x' hx1' hn'')] at hk2
        exact absurd (.inr ⟨b', x', hx1', hn'', hk2⟩) (hr1.own b x k hx1 hk1).1
      · rw [ownBlk_congr x (hgo' b x hx1 hn')] at hk1; rw [ownBlk_congr x' (hg'2 b' hlt'')] at hk2
        exact absurd (.inr ⟨b, x, hx1, hn', hk1⟩) (hr1.own b' x' k hx1' hk2).1
      · rw [ownBlk_congr x (hgo' b x hx1 hn')] at hk1; rw [ownBlk_congr x' (hgo' b' x' hx1' hn'')] at hk2
        exact hr.sep b b' x x' k hx1 hx1' hk1 hk2
    · rcases hcase b x hx with ⟨_, hx1, hlt', _⟩ | ⟨_, hx1, hn'⟩
      · rw [ownBlk_congr x (hg'2 b hlt')] at hk1
        obtain ⟨p1, p2, p3⟩ := hr1.own b x k hx1 hk1
        refine ⟨fun ho => p1 (.inl ho), ?_, p3⟩
        rcases p2 with ⟨b', x', hx', hk'⟩ | p2
        · exact (hr.own b' x' k (hkH b' x' hx') hk').2.1
        · exact .inr (Nat.le_trans hr.kept.size p2)
      · rw [ownBlk_congr x (hgo' b x hx1 hn')] at hk1
        obtain ⟨p1, p2, p3⟩ := hr.own b x k hx1 hk1
        exact ⟨p1, p2, Nat.lt_of_lt_of_le p3 hr1.kept.size⟩
    · refine hr.kept.trans hr1.kept (fun k hk' hf => ?_)
      obtain ⟨b, x, hx, hob'⟩ := hf
      rcases (hr.own b x k (hkH b x hx) hob').2.1 with h | h
      · exact h
      · omega
    · refine ⟨fun b hb ver v hv => hext b ver v (hr.old.ge b hb ver v hv), fun b hb => .inl (hr.old.gm b hb), fun b hb => ?_, fun b x hx => ?_⟩
      · obtain ⟨h1, h2⟩ := hr.old.gx b hb
        refine ⟨h1, ?_⟩
        have hHb : H' b = none := by
          cases hy : H' b with
          | none => rfl
          | some y => exact absurd hb (hr.old.gh b y hy)
        have hn' : hk Hl b = none := by
          cases hy : hk Hl b with
          | none => rfl
          | some y => rw [hkH b y hy] at hHb; cases hHb
        rcases hgo b hn' (fun _ => by
          rcases Nat.lt_or_ge b nx with h | h
          · exact .inl h
          · exact .inr (hnd b h (by assumption))) with h | h
        · rw [h]; exact h2
        · exact absurd (hr.old.gm b h1) (hnd b h.1 h.2)
      · rcases hcase b x hx with ⟨_, hx1, hlt', _⟩ | ⟨_, hx1, hn'⟩
        · rcases Nat.lt_or_ge b nx with h | h
          · obtain ⟨y, hy⟩ := hlow b x hx1 h
            exact hr.old.gh b y (hkH b y hy)
          · intro hf
            exact hnd b h hlt' (hr.old.gm b (hr.old.gx b hf).1)
        · exact hr.old.gh b x hx1
  cases e with
  | normal => exact fin hq
  | ret => exact fin hq
  | _ => exact hq.elim
theorem cst_inf {P : Program} {f : Nat} {fn : Func} {c : Code} {as cap as' : List AV} {Hl : HH} {nx : Nat} {K : Res → Prop} (r : Res) (hm : P.follows .mixedOrders = true) (hf : P.funcs[f]? = some fn) (hb : fn.body = some c) (he : entB P f = true)
    (ha : as ++ cap = as') (hn : as'.length ≤ fn.ntmps) (hlt : ∀ v ∈ as', Lt nx v) (hHl : ∀ p ∈ Hl, p.1 < nx ∧ bLt0 nx p.2) (hltr : Lt (nx + r.nw) r.v) (hwl : ∀ p ∈ r.wb, p.1 < nx + r.nw ∧ bLt0 (nx + r.nw) p.2) (hko : keysOk r.wb = true)
    (hrb : r.rb = Hl.map (·.1)) (hkeep : ∀ p ∈ Hl, p.1 ∈ r.wb.map (·.1)) (h : acode P fn.ntmps c (argT as' 0) Hl nx (retF P fn.results.toList nx r)) (hK : K r) : cst P (hk Hl) nx (.clo f cap) as K :=
  ⟨r, by rw [ha]; exact calls_inf hm hf hb he hn hlt hHl hltr hwl hko hrb hkeep h, hK⟩
theorem Lt.mono {n m : Nat} {v : AV} (h : Lt n v) (hnm : n ≤ m) : Lt m v := by
  induction h with
  | sc v => exact .sc v
  | agg cs _ ih => exact .agg cs ih
  | tup cs _ ih => exact .tup cs ih
  | sl cs _ ih => exact .sl cs ih
  | cp cs _ ih => exact .cp cs ih
  | pt b off h => exact .pt b off (by omega)
  | ow b ver h => exact .ow b ver (by omega)
  | rp b ver z i off h => exact .rp b ver z i off (by omega)
  | rs b ver z i h => exact .rs b ver z i (by omega)
  | px b ver n h => exact .px b ver n (by omega)
  | e0 => exact .e0
  | mp b h => exact .mp b (by omega)
  | clo f cs _ ih => exact .clo f cs ih
  | gd x v _ ih => exact .gd x v ih
  | nb k v => exact .nb k v
  | und => exact .und
theorem BOk.mono {n m : Nat} {x : ABox} (h : BOk n x) (hnm : n ≤ m) : BOk m x := by
  cases h with
  | var h => exact .var (h.mono hnm)
  | nl => exact .nl
  | ob => exact .ob
  | mq h => exact .mq fun y hy => (h y hy).mono hnm
  | row h => exact .row fun y hy => (h y hy).mono hnm
theorem lt_app {n : Nat} {l m : List AV} (h : ∀ x ∈ l, Lt n x) (h' : ∀ x ∈ m, Lt n x) : ∀ x ∈ l ++ m, Lt n x := by
  intro x hx
  rcases List.mem_append.1 hx with hx | hx
  · exact h x hx
  · exact h' x hx
theorem blt_row {n e z ver : Nat} {es : List AV} (h : ∀ x ∈ es, Lt n x) : bLt n (.row e z ver es) := h
theorem HBs.mono {n m : Nat} {H : HH} (h : HBs n H) (hnm : n ≤ m) : HBs m H := by
  induction h with
  | nil => exact .nil
  | cons h hx _ ih => exact .cons (by omega) (hx.mono hnm) ih
def retG (P : Program) (rs : List ResultVar) (nx : Nat) (v : AV) (wb : HH) (e : Nat) (rb : List Nat) : Exit → TT → HH → Nat → Prop := retF P rs nx ⟨v, wb, e - nx, rb⟩
theorem retG_normal (P : Program) (rs : List ResultVar) (v : AV) (wb : HH) (e n : Nat) (rb : List Nat) (T : TT) (H : HH) (nx : Nat) : retG P rs n v wb e rb .normal T H nx = ∃ u, resA P (lk T) (hk H) rs = some u ∧ (u = v ∧ endJ nx n e ∧ HSub H wb) := rfl
theorem retG_ret (P : Program) (rs : List ResultVar) (v : AV) (wb : HH) (e n : Nat) (rb : List Nat) (T : TT) (H : HH) (nx : Nat) : retG P rs n v wb e rb .ret T H nx = ∃ u, resA P (lk T) (hk H) rs = some u ∧ (u = v ∧ endJ nx n e ∧ HSub H wb) := rfl
attribute [go_sem] retG_normal retG_ret
theorem endJ_le {a nx e : Nat} (h : nx.ble e = true) (h' : a.ble e = true) : endJ a nx e := by
  have := Nat.le_of_ble_eq_true h
  have := Nat.le_of_ble_eq_true h'
  unfold endJ; omega
theorem cst_wb {P : Program} {f : Nat} {fn : Func} {c : Code} {as cap : List AV} {Hl : HH} {nx n : Nat} {rs : Array ResultVar} {K : Res → Prop} (v : AV) (wb : HH) (e : Nat) (hm : P.follows .mixedOrders = true) (hf : P.funcs[f]? = some fn) (hb : fn.body = some c) (he : entB P f = true)
    (hn : fn.ntmps = n) (hrs : fn.results = rs) (hle : (as ++ cap).length.ble n = true) (h : acode P n c (argT (as ++ cap) 0) Hl nx (retG P rs.toList nx v wb e (Hl.map (·.1)))) (h1 : Lts nx (as ++ cap)) (h2 : HBs nx Hl) (h3 : Lt e v) (h4 : HBs e wb)
    (h5 : keysOk wb = true) (h6 : keepB Hl wb = true) (h7 : nx ≤ e) (hK : K ⟨v, wb, e - nx, Hl.map (·.1)⟩) : cst P (hk Hl) nx (.clo f cap) as K := by
  subst hn
  subst hrs
  have hee : nx + (e - nx) = e := by omega
  refine cst_inf ⟨v, wb, e - nx, Hl.map (·.1)⟩ hm hf hb he rfl (Nat.le_of_ble_eq_true hle) h1.all h2.all (by rw [hee]; exact h3) (by rw [hee]; exact h4.all) h5 rfl (fun p hp => ?_) ?_ hK
  · have := List.all_eq_true.1 h6 p hp
    simpa using this
  · exact h
end Go.AL
/-
  The abstract logic: nil slices of one's own, handed to a callee, are empty slices. Conditions: none.
-/
namespace Go.AL
open Go.RowKit
inductive NR (H : Nat → Option ABox) : AV → AV → Prop
  | refl (v : AV) : NR H v v
  | nl {b ver : Nat} (h : H b = some .nl) : NR H (.ow b ver) (.sl [])
  | agg {cs cs' : List AV} (hl : cs'.length = cs.length) (h : ∀ j, j < cs.length → NR H (cs.getD j .und) (cs'.getD j .und)) : NR H (.agg cs) (.agg cs')
  | sl {es es' : List AV} (hl : es'.length = es.length) (h : ∀ j, j < es.length → NR H (es.getD j .und) (es'.getD j .und)) : NR H (.sl es) (.sl es')
inductive NRs (H : Nat → Option ABox) : List AV → List AV → Prop
  | nil : NRs H [] []
  | cons {v v' : AV} {l l' : List AV} (h : NR H v v') (hr : NRs H l l') : NRs H (v :: l) (v' :: l')
theorem NRs.len {H : Nat → Option ABox} {l l' : List AV} (h : NRs H l l') : l'.length = l.length := by
  induction h with
  | nil => rfl
  | cons _ _ ih => simp [ih]
theorem NRs.get {H : Nat → Option ABox} {l l' : List AV} (h : NRs H l l') : ∀ j, j < l.length → NR H (l.getD j .und) (l'.getD j .und) := by
  induction h with
  | nil => intro j hj; simp at hj
  | cons h _ ih =>
    intro j hj
    cases j with
    | zero => exact h
    | succ j => exact ih j (by simpa using hj)
theorem NR.cells {H : Nat → Option ABox} {v v' : AV} (h : NR H v v') : v'.cells.length = v.cells.length ∧ ∀ j, j < v.cells.length → NR H (v.cells.getD j .und) (v'.cells.getD j .und) := by
  cases h with
  | refl v => exact ⟨rfl, fun _ _ => .refl _⟩
  | nl h =>
    refine ⟨rfl, fun j hj => ?_⟩
    obtain rfl : j = 0 := by simp [AV.cells] at hj; exact hj
    exact .nl h
  | agg hl h => exact ⟨hl, h⟩
  | sl hl h =>
    refine ⟨rfl, fun j hj => ?_⟩
    obtain rfl : j = 0 := by simp [AV.cells] at hj; exact hj
    exact .sl hl h
section
variable {C : Cx} {T : Nat → AV} {H : Nat → Option ABox} {D : Nat → Prop} {g : Nat → List Value} {a : Act} {w : World}
end
end Go.AL
