/-
  The abstract logic: the statement that ranges over a function, and a function that holds one. Conditions: the program follows the mixed orders.
-/
import Derived.Test.YtfhpalfchhinlaaAl42
set_option linter.all false
namespace Go.AL
open Go.RowKit

/-- how the function that yields comes out: with these boxes. -/
def retY (e : Nat) (wb : HH) : Exit → TT → HH → Nat → Prop
  | .normal, _, H, nx' | .ret, _, H, nx' => nx' ≤ e ∧ HSub H wb
  | _, _, _, _ => False
theorem lts_lk {N : Nat} : ∀ {T : TT}, Lts N (T.map (·.2)) → ∀ t, Lt N (lk T t)
  | [], _, t => Lt.und
  | (k, v) :: r, h, t => by
    cases h with
    | cons h1 h2 =>
      simp only [lk]
      split
      · exact h1
      · exact lts_lk h2 t
abbrev mark (dk : Nat) : Deferred := { target := .collected dk, args := #[] }
theorem range_wp {C : Cx} (hds : C.ds = []) {T : TT} {H : HH} {nx : Nat} {g : Nat → List Value} {a : Act} {w : World} (hr : Rel C (lk T) (hk H) (fun c => c < nx) g a w) {gop : Operand} {p0 p1 f : Nat} {asn bdy c : Code} {fn : Func} {cap : List AV} {n e : Nat} {wb : HH}
    (hg : evO (lk T) gop = .clo f cap) (hf : C.P.funcs[f]? = some fn) (hb : fn.body = some c) (he : entB C.P f = true) (hnt : fn.ntmps = n) (hrs : fn.results.toList = []) (hle : cap.length + 1 ≤ n)
    (hT : Lts nx (T.map (·.2))) (hcap : Lts nx cap) (hH : HBs nx H) (hW : HBs e wb) (hko : keysOk wb = true) (hkp : keepB H wb = true) (hne : nx ≤ e)
    (hwalk : ∀ L dk fnn (tm : Array Value), tm.size = C.n → TrY C.P n (fun C2 => YC C2 L dk fnn p0 p1 asn bdy tm T) c (argT (.sc (Value.func (Fn.yield L) #[] #[]) :: cap) 0) H nx (retY e wb))
    {Q : Exit → Act → World → Prop}
    (hQ : ∀ (C1 : Cx) (dk : Nat) (g1 : Nat → List Value) (w1 : World), C1.P = C.P → C1.n = C.n → C1.ds = [mark dk] → (∀ k, C.O k → C1.O k) → C1.O dk → ¬ C1.F0 dk → C1.w0.heap[dk]? = some (.deferred (some [])) → C.w0.heap.size ≤ dk → Kept C.w0 C.F0 C1.w0 →
      (∀ k, C1.F0 k → C.F0 k ∨ C.w0.heap.size ≤ k) → Rel C1 (lk T) (hk (hputs H wb)) (fun c => c < e) g1 { tmps := a.tmps, defers := [mark dk] } w1 → Q .normal { tmps := a.tmps, defers := [mark dk] } w1) :
    (Code.rangeFunc gop #[p0, p1] asn bdy).wp C.P Q a w := by
  have had : a.defers = [] := hr.df.trans hds
  have rg := hr.evO gop
  rw [hg] at rg
  obtain ⟨cvs, hgv, hcl, hcr⟩ := rg.clo_inv
  refine (wpIn_wide (n := 0)).1 (wpIn_rangeFunc ?_)
  intro fnn _
  obtain ⟨w1, hw1⟩ : ∃ w1, (w.alloc (.deferred (some []))).alloc (.loop { state := .ready, pending := none, fn := fnn, tmps := a.tmps, params := #[p0, p1], assign := asn, body := bdy, defers := w.heap.size }) = w1 := ⟨_, rfl⟩
  have hsz1 : w1.heap.size = w.heap.size + 2 := by rw [← hw1]; simp
  have hL1 : w1.heap[w.heap.size + 1]? = some (.loop (yRec fnn a.tmps p0 p1 asn bdy w.heap.size)) := by
    rw [← hw1]
    have h1 := World.alloc_heap_new (w.alloc (.deferred (some []))) (.loop (yRec fnn a.tmps p0 p1 asn bdy w.heap.size))
    rw [World.size_alloc] at h1
    exact h1
  have hD1 : w1.heap[w.heap.size]? = some (.deferred (some [])) := by
    rw [← hw1]; exact (Below.heap_alloc _ _ _ (by simp)).trans (World.alloc_heap_new w _)
  have hk1 : Kept w (fun _ => False) w1 := by
    rw [← hw1]
    exact ⟨rfl, rfl, rfl, by simp; omega, fun k hk _ => (Below.heap_alloc _ _ k (by simp; omega)).trans (Below.heap_alloc w _ k hk), Nat.le_refl _⟩
  have eg : ∀ args W, (callFunc f args).run C.P W = .ok (.enter f args) W := fun args W => run_callFunc he args W
  refine ⟨w.heap.size + 1, [{ target := .collected w.heap.size, args := #[] }], w1, { target := .fn (.func f) cvs, args := #[Value.func (Fn.yield (w.heap.size + 1)) #[] #[]] }, w1, f, #[Value.func (Fn.yield (w.heap.size + 1)) #[] #[]] ++ cvs, w1, ?_, ?_, fun _ _ => trivial, ?_, fun hd => (by cases hd), callsIn_wide.2 ?_⟩
  · rw [← hw1]; exact run_enterLoop_outer _ _ _ _ _
  · simp only [resolve, hgv]
    simp [go_sem]
  · simp [invoke, go_sem, eg]
  · refine calls_of_wp hf hb ?_
    rw [hnt]
    generalize hX : (fun k => k = w.heap.size ∨ k = w.heap.size + 1) = X
    have hXi : ∀ k, X k ↔ k = w.heap.size ∨ k = w.heap.size + 1 := fun k => by rw [← hX]
    have hXb : ∀ k, X k → w.heap.size ≤ k ∧ k < w1.heap.size := fun k hk => by rcases (hXi k).1 hk with h | h <;> omega
    have hTl := lts_lk hT
    have hown : ∀ b x k, hk H b = some x → ownBlk g b x = some k → k < w.heap.size := fun b x k hx hb => (hr.own b x k hx hb).2.2
    have hrel := in_rel (n := n) (X := X) (E := fun _ => False) hr hH.all (fun _ _ h => h) hk1 hXb (T3 := argT (.sc (Value.func (Fn.yield (w.heap.size + 1)) #[] #[]) :: cap) 0)
      (a3 := { tmps := #[Value.func (Fn.yield (w.heap.size + 1)) #[] #[]] ++ cvs ++ Array.replicate (n - (#[Value.func (Fn.yield (w.heap.size + 1)) #[] #[]] ++ cvs).size) undef, defers := [] }) rfl (by simp [hcl]; omega)
      (fun t => by
        rw [lk_argT, if_pos (Nat.zero_le t), Nat.sub_zero]
        by_cases ht : t < cap.length + 1
        · have e1 : (#[Value.func (Fn.yield (w.heap.size + 1)) #[] #[]] ++ cvs ++ Array.replicate (n - (#[Value.func (Fn.yield (w.heap.size + 1)) #[] #[]] ++ cvs).size) undef).getD t undef = (#[Value.func (Fn.yield (w.heap.size + 1)) #[] #[]] ++ cvs).getD t undef := by
            rw [Array.getD_eq_getD_getElem?, Array.getElem?_append_left (by simp [hcl]; omega), Array.getD_eq_getD_getElem?]
          rw [e1]
          cases t with
          | zero =>
            rw [Array.getD_eq_getD_getElem?, Array.getElem?_append_left (by simp)]
            exact .sc _
          | succ t =>
            have e2 : (#[Value.func (Fn.yield (w.heap.size + 1)) #[] #[]] ++ cvs).getD (t + 1) undef = cvs.getD t undef := by
              rw [Array.getD_eq_getD_getElem?, Array.getElem?_append_right (by simp), Array.getD_eq_getD_getElem?]; simp
            rw [e2]
            exact hcr t (by omega)
        · rw [List.getD_eq_getElem?_getD, List.getElem?_eq_none (by simp; omega)]; exact .und _)
      (fun t => by
        rw [lk_argT, if_pos (Nat.zero_le t), Nat.sub_zero]
        cases t with
        | zero => exact .sc _
        | succ t =>
          by_cases ht : t < cap.length
          · exact hcap.all _ (by rw [List.getD_cons_succ]; exact getD_mem ht)
          · rw [List.getD_cons_succ, List.getD_eq_getElem?_getD, List.getElem?_eq_none (by omega)]; exact .und)
    have hl : Later w (Own C.O g (hk H)) w1 (fun k => Own C.O g (hk H) k ∨ X k) := ⟨hk1.size, fun k hk _ => hk1.block k hk id, fun k hk ho => by
      rcases ho with ho | ho
      · exact ho
      · have := (hXb k ho).1; omega⟩
    generalize hC2 : inCx C n w1 g (hk H) H nx X (fun _ => False) = C2 at hrel
    have hP2 : C2.P = C.P := by rw [← hC2]; rfl
    have hn2 : C2.n = n := by rw [← hC2]; rfl
    have hw2 : C2.w0 = w1 := by rw [← hC2]; rfl
    have hF2 : ∀ k, w.heap.size ≤ k → ¬ C2.F0 k := by
      intro k hk
      rw [← hC2]
      rintro (⟨b, x, hx, ho⟩ | hf)
      · have := hown b x k hx ho; omega
      · exact hf
    have hOX : ∀ k, X k → C2.O k := fun k hk => by rw [← hC2]; exact .inl (.inr hk)
    have hY : YC C2 (w.heap.size + 1) w.heap.size fnn p0 p1 asn bdy a.tmps T := by
      refine ⟨by rw [hw2]; exact hL1, hOX _ ((hXi _).2 (.inr rfl)), hF2 _ (by omega), fun b hb => ?_, fun t => ?_, fun t => ?_⟩
      · rw [← hC2] at hb ⊢
        have hb' : ¬ b < nx := by have : nx ≤ b := hb; omega
        exact if_neg hb'
      · rw [hw2]
        have h1 := ((hr.tm t).later hl (Ext.refl g)).reset (g' := fun b => if b < nx then g b else []) (fun b hb => if_pos hb) (hTl t)
        have hg2 : C2.g0 = fun b => if b < nx then g b else [] := by rw [← hC2]; rfl
        rw [hg2]
        refine h1.sub fun k hk => ?_
        rw [← hC2] at hk
        rcases hk with ((hk | hk) | ⟨b, x, hx, hn, hk⟩) | (⟨b, x, hx, hk⟩ | hk)
        · exact .inl (.inl hk)
        · exact .inr hk
        · exact .inl (.inr ⟨b, x, hx, hk⟩)
        · exact .inl (.inr ⟨b, x, hx, hk⟩)
        · exact hk.elim
      · have hm2 : C2.m = nx := by rw [← hC2]; rfl
        rw [hm2]; exact hTl t
    have hw' := hwalk (w.heap.size + 1) w.heap.size fnn a.tmps hr.sz
    rw [← hP2] at hw' ⊢
    refine wp_mono (hw' C2 _ _ w1 rfl hn2 hY hrel) ?_
    rintro ex a' w' ⟨T1, H1, nx1, g2, hq, hr1⟩
    have fin : (nx1 ≤ e ∧ HSub H1 wb) → a'.defers = [] ∧ ∃ v, (results fn a'.tmps).run C2.P w' = .ok v w' ∧ rangePost Fence.wide 0 C2.P (w.heap.size + 1) Q { a with defers := [{ target := .collected w.heap.size, args := #[] }] ++ a.defers } (.returned v) w' := by
      rintro ⟨h1, h2⟩
      have hds2 : C2.ds = [] := by rw [← hC2]; rfl
      obtain ⟨v, hv, _⟩ := rep_resA (C := C2) (fn := fn) (v := .tup []) hr1 (by rw [hrs]; rfl)
      refine ⟨hr1.df.trans hds2, v, hv, ?_⟩
      have k1 := hr1.kept
      rw [hw2] at k1
      have hLw : w'.heap[w.heap.size + 1]? = some (.loop (yRec fnn a.tmps p0 p1 asn bdy w.heap.size)) := (k1.block _ (by omega) (hF2 _ (by omega))).trans hL1
      have hDw : w'.heap[w.heap.size]? = some (.deferred (some [])) := (k1.block _ (by omega) (hF2 _ (by omega))).trans hD1
      have hszw : w.heap.size + 1 < w'.heap.size := (Array.getElem?_eq_some_iff.1 hLw).1
      refine ⟨none, _, run_endLoop hLw (by simp [yRec]), ?_⟩
      generalize hw4 : w'.putObj (w.heap.size + 1) (.loop { yRec fnn a.tmps p0 p1 asn bdy w.heap.size with state := .exhausted }) = w4
      have hsz4 : w4.heap.size = w'.heap.size := by rw [← hw4]; simp [World.putObj]
      have hoth4 : ∀ k, k ≠ w.heap.size + 1 → w4.heap[k]? = w'.heap[k]? := fun k hk => by rw [← hw4]; exact World.putObj_heap_other hk
      have e1 : w4.os = w'.os := by rw [← hw4]; rfl
      have e2 : w4.tape = w'.tape := by rw [← hw4]; rfl
      have e3 : w4.output = w'.output := by rw [← hw4]; rfl
      have e4 : w4.drawn = w'.drawn := by rw [← hw4]; rfl
      have hA : ∀ k, k < w.heap.size → (∀ b x, hk H b = some x → ownBlk g b x ≠ some k) → w4.heap[k]? = w.heap[k]? := by
        intro k hk hn
        rw [hoth4 k (by omega)]
        have h3 : ¬ C2.F0 k := by
          rw [← hC2]
          rintro (⟨b, x, hx, ho⟩ | hf)
          · exact hn b x hx ho
          · exact hf
        exact (k1.block k (by omega) h3).trans (hk1.block k hk id)
      have hK4 : Kept w (fun k => ∃ b x, hk H b = some x ∧ ownBlk g b x = some k) w4 := by
        refine ⟨by rw [e1, k1.os, hk1.os], by rw [e2, k1.tape, hk1.tape], by rw [e3, k1.output, hk1.output], by have := k1.size; omega, fun k hk hn => hA k hk (fun b x hx ho => hn ⟨b, x, hx, ho⟩), by have := k1.drawn; have := hk1.drawn; omega⟩
      obtain ⟨g1, _, hr8⟩ := out_rel (X := X) (E := fun _ => False) (nw := e - nx) (wb := wb) (w3 := w4)
        (C1 := ⟨C.P, C.n, w4, fun k => (C.F0 k ∨ C.w0.heap.size ≤ k) ∧ ¬ X k, fun k => C.O k ∨ X k, C.m, C.g0, C.fx, [mark w.heap.size]⟩) (a1 := { tmps := a.tmps, defers := [mark w.heap.size] })
        hr hH.all (fun _ _ h => h) (fun i _ hd => by omega) (by rw [show nx + (e - nx) = e by omega]; exact hW.all) hko (keepB_spec hkp) (fun k hk => (hXb k hk).1) hk1 (by rw [hC2]; exact hr1) h2 (by omega) (by omega)
        (fun k _ hn => hoth4 k (fun hek => hn (by rw [hC2]; exact hOX k ((hXi k).2 (.inr hek))))) hA (fun k h => h.elim) rfl rfl rfl rfl rfl rfl (fun k h => h) (fun k hk => by
          show k < w4.heap.size
          rcases hk with h | h
          · have := hr.oo k h; have := hr.kept.size; omega
          · have := (hXb k h).2; have := k1.size; omega) (fun k hn h _ => .inl ⟨h, fun hx => hn (.inr hx)⟩) (Kept.refl w4 _)
      have hr9 := hr8.dmono (D' := fun c => c < e) (fun b hb => by omega)
      rw [← hk_hputs] at hr9
      have := hQ ⟨C.P, C.n, w4, fun k => (C.F0 k ∨ C.w0.heap.size ≤ k) ∧ ¬ X k, fun k => C.O k ∨ X k, C.m, C.g0, C.fx, [mark w.heap.size]⟩ w.heap.size g1 w4 rfl rfl rfl (fun k h => .inl h) (.inr ((hXi _).2 (.inl rfl)))
        (fun hf => hf.2 ((hXi _).2 (.inl rfl))) (by show w4.heap[w.heap.size]? = _; rw [hoth4 _ (by omega)]; exact hDw) hr.kept.size (hr.kept.trans hK4 (fun k hk hf => by
          obtain ⟨b, x, hx, ho⟩ := hf
          rcases (hr.own b x k hx ho).2.1 with h | h
          · exact h
          · omega)) (fun k h => h.1) hr9
      rw [had]
      exact this
    cases ex with
    | normal => exact fin hq
    | ret => exact fin hq
    | _ => exact hq.elim

/-- how a function that holds a range over a function comes out. -/
def MkQ (P : Program) (rs : List ResultVar) (r : AV) (C : Cx) (e : Exit) (a' : Act) (w' : World) : Prop :=
  (e = .normal ∨ e = .ret) ∧ ∃ (C1 : Cx) (dk : Nat) (T' : TT) (H' : HH) (nx' : Nat) (g' : Nat → List Value), C1.P = P ∧ C1.ds = [mark dk] ∧ (∀ k, C.O k → C1.O k) ∧ C1.O dk ∧ ¬ C1.F0 dk ∧ C1.w0.heap[dk]? = some (.deferred (some [])) ∧ C.w0.heap.size ≤ dk ∧
    Kept C.w0 C.F0 C1.w0 ∧ (∀ k, C1.F0 k → C.F0 k ∨ C.w0.heap.size ≤ k) ∧ Rel C1 (lk T') (hk H') (fun c => c < nx') g' a' w' ∧ ∃ v, resA P (lk T') (hk H') rs = some v ∧ cvT (hk H') v = r
def TrD (P : Program) (n : Nat) (rs : List ResultVar) (r : AV) (c : Code) (T : TT) (H : HH) (nx : Nat) : Prop :=
  ∀ (C : Cx) (g : Nat → List Value) (a : Act) (w : World), C.P = P → C.n = n → C.ds = [] → Rel C (lk T) (hk H) (fun c => c < nx) g a w → c.wp P (MkQ P rs r C) a w
def TrDK (P : Program) (n : Nat) (rs : List ResultVar) (r : AV) (y z : Code) (T : TT) (H : HH) (nx : Nat) : Prop :=
  ∀ (C : Cx) (g : Nat → List Value) (a : Act) (w : World), C.P = P → C.n = n → C.ds = [] → Rel C (lk T) (hk H) (fun c => c < nx) g a w → y.wp P (Exit.then (z.wp P (MkQ P rs r C)) (MkQ P rs r C)) a w
def QNo : Exit → TT → HH → Nat → Prop := fun _ _ _ _ => False
theorem trd_seq {P : Program} {n : Nat} {rs : List ResultVar} {r : AV} (hm : P.follows .mixedOrders = true) {x y : Code} {T : TT} {H : HH} {nx : Nat} (h : acode P n x T H nx (nextQ (TrD P n rs r y) QNo)) : TrD P n rs r (.seq x y) T H nx := by
  intro C g a w hP hn hd hr
  refine wp_seq (wp_mono (acode_sound hm x _ _ _ _ h C g a w hP hn hr) ?_)
  rintro e a' w' ⟨T', H', nx', g', hq, hr'⟩
  cases e with
  | normal => exact hq C g' a' w' hP hn hd hr'
  | _ => exact hq.elim
theorem trd_seq3 {P : Program} {n : Nat} {rs : List ResultVar} {r : AV} (hm : P.follows .mixedOrders = true) {x y z : Code} {T : TT} {H : HH} {nx : Nat} (h : acode P n x T H nx (nextQ (TrDK P n rs r y z) QNo)) : TrD P n rs r (.seq (.seq x y) z) T H nx := by
  intro C g a w hP hn hd hr
  refine wp_seq (wp_seq (wp_mono (acode_sound hm x _ _ _ _ h C g a w hP hn hr) ?_))
  rintro e a' w' ⟨T', H', nx', g', hq, hr'⟩
  cases e with
  | normal => exact hq C g' a' w' hP hn hd hr'
  | _ => exact hq.elim
theorem trdk_range {P : Program} {n : Nat} {rs : List ResultVar} {r : AV} (hm : P.follows .mixedOrders = true) {id : Nat} {z : Code} {T : TT} {H : HH} {nx : Nat} {gop : Operand} {p0 p1 f : Nat} {asn bdy c : Code} {fn : Func} {cap : List AV} {k e : Nat} {wb : HH}
    (hg : evO (lk T) gop = .clo f cap) (hf : P.funcs[f]? = some fn) (hb : fn.body = some c) (he : entB P f = true) (hnt : fn.ntmps = k) (hrs : fn.results.toList = []) (hle : cap.length + 1 ≤ k)
    (hT : Lts nx (T.map (·.2))) (hcap : Lts nx cap) (hH : HBs nx H) (hW : HBs e wb) (hko : keysOk wb = true) (hkp : keepB H wb = true) (hne : nx ≤ e)
    (hwalk : ∀ L dk fnn (tm : Array Value), tm.size = n → TrY P k (fun C2 => YC C2 L dk fnn p0 p1 asn bdy tm T) c (argT (.sc (Value.func (Fn.yield L) #[] #[]) :: cap) 0) H nx (retY e wb))
    (hz : acode P n z T (hputs H wb) e (retQ P rs r)) : TrDK P n rs r (.block id (.rangeFunc gop #[p0, p1] asn bdy)) z T H nx := by
  intro C g a w hP hn hd hr
  subst hP; subst hn
  refine wp_block (range_wp hd hr hg hf hb he hnt hrs hle hT hcap hH hW hko hkp hne hwalk fun C1 dk g1 w1 c1 c2 c3 c4 c5 c6 c7 c8 c9 c10 hr1 => ?_)
  show z.wp C.P (MkQ C.P rs r C) _ w1
  rw [← c1]
  refine wp_mono (acode_sound (by rw [c1]; exact hm) z _ _ _ _ (by rw [c1]; exact hz) C1 g1 _ w1 rfl c2 hr1) ?_
  rintro ex a' w' ⟨T', H', nx', g', hq, hr'⟩
  have fin : (∃ v, resA C.P (lk T') (hk H') rs = some v ∧ cvT (hk H') v = r) → (ex = .normal ∨ ex = .ret) → MkQ C1.P rs r C ex a' w' := fun hq hx => by
    rw [c1]; exact ⟨hx, C1, dk, T', H', nx', g', c1, c3, c4, c5, c6, c7, c8, c9, c10, hr', hq⟩
  cases ex with
  | normal => exact fin hq (.inl rfl)
  | ret => exact fin hq (.inr rfl)
  | _ => exact hq.elim
/-- the contract of a function that holds a range over a function. -/
theorem pcall_rng {P : Program} {f : Nat} {fn : Func} {c : Code} {vl : List AV} {r : AV} {n : Nat} {rs : Array ResultVar} (hf : P.funcs[f]? = some fn) (hb : fn.body = some c) (he : entB P f = true) (hnt : fn.ntmps = n) (hrs : fn.results = rs)
    (hn : vl.length.ble n = true) (hlt : ∀ v ∈ vl, Lt 0 v) (hltr : Lt 0 r) (h : TrD P n rs.toList r c (argT vl 0) [] 0) : PCall P f vl r := by
  subst hnt; subst hrs
  refine ⟨he, fun w O g vs hO hvs => ?_⟩
  obtain ⟨hsz, hrep⟩ := hvs
  have hn' : vl.length ≤ fn.ntmps := Nat.le_of_ble_eq_true hn
  refine (callsIn_wide (n := 0)).1 (callsIn_of_wp_marks (F := Fence.wide) hf hb trivial ?_)
  let C : Cx := ⟨P, fn.ntmps, w, fun _ => False, O, 0, fun _ => [], fun _ => False, []⟩
  have hrel : Rel C (lk (argT vl 0)) (hk []) (fun c => c < 0) (fun _ => []) { tmps := vs ++ Array.replicate (fn.ntmps - vs.size) undef, defers := [] } w := by
    refine ⟨rfl, ?_, fun t => ?_, (fun b x hx => by cases hx), fun _ _ => rfl, (fun b x hx => by cases hx), (fun b b' x x' k hx => by cases hx), (fun b x k hx => by cases hx), fun k hk => hO k hk, Kept.refl w _, ⟨fun b hb => absurd hb (Nat.not_lt_zero b), fun b hb => absurd hb (Nat.not_lt_zero b), fun b hb => hb.elim, fun b x hx => by cases hx⟩⟩
    · simp [C]; omega
    · rw [lk_argT, if_pos (Nat.zero_le t), Nat.sub_zero]
      by_cases ht : t < vl.length
      · have h1 := hrep t ht
        have e1 : (vs ++ Array.replicate (fn.ntmps - vs.size) undef).getD t undef = vs.getD t undef := by
          rw [Array.getD_eq_getD_getElem?, Array.getElem?_append_left (by omega), Array.getD_eq_getD_getElem?]
        rw [e1]
        refine (h1.reset (fun b hb => by omega) (hlt _ (getD_mem ht))).sub ?_
        rintro k (hk' | ⟨b, x, hx, _⟩)
        · exact hk'
        · cases hx
      · rw [List.getD_eq_getElem?_getD, List.getElem?_eq_none (by omega)]; exact .und _
  refine wpIn_mono ((wpIn_wide (n := 0)).2 (h C _ _ w rfl rfl rfl hrel)) ?_
  rintro e a' w' ⟨hex, C1, dk, T', H', nx', g', c1, c3, c4, c5, c6, c7, c8, c9, c10, hr1, v, hv, rfl⟩
  have fin : LeavesInM Fence.wide 0 P fn a'.tmps (fun e w' => ∃ v_1, e = .returned v_1 ∧ Rep w' O g (cvT (hk H') v) v_1 ∧ Kept w (fun _ => False) w') a'.defers .returning w' := by
    rw [hr1.df, c3]
    have hdk : dk < C1.w0.heap.size := (Array.getElem?_eq_some_iff.1 c7).1
    have hD : w'.heap[dk]? = some (.deferred (some [])) := (hr1.kept.block dk hdk c6).trans c7
    have hdk' : dk < w'.heap.size := (Array.getElem?_eq_some_iff.1 hD).1
    refine ⟨by simp, .inl ⟨dk, w'.putObj dk (.deferred none), rfl, run_takeDeferred hD, ?_⟩⟩
    generalize hw4 : w'.putObj dk (.deferred none) = w4
    have hsz4 : w4.heap.size = w'.heap.size := by rw [← hw4]; simp [World.putObj]
    have hoth4 : ∀ k, k ≠ dk → w4.heap[k]? = w'.heap[k]? := fun k hk => by rw [← hw4]; exact World.putObj_heap_other hk
    have hr2 := hr1.rebase (C' := { C1 with w0 := w4, F0 := fun k => C1.F0 k ∨ C1.w0.heap.size ≤ k }) (w' := w4) (a' := a') rfl rfl rfl rfl rfl hr1.df rfl (by omega) (fun k _ hn => hoth4 k (fun e => hn (e ▸ c5)))
      (fun k _ h _ => .inl h) (fun k hk => by show k < w4.heap.size; have := hr1.oo k hk; have := hr1.kept.size; omega) (Kept.refl w4 _)
    obtain ⟨val, h1, h2⟩ := rep_resA (C := { C1 with w0 := w4, F0 := fun k => C1.F0 k ∨ C1.w0.heap.size ≤ k }) (fn := fn) (v := v) hr2 (by
      show resA C1.P (lk T') (hk H') fn.results.toList = some v
      rw [c1]; exact hv)
    have h3 := rep_cvT hr2 h2
    refine ⟨val, ?_, val, rfl, ?_, ?_⟩
    · have h1' : (results fn a'.tmps).run C1.P w4 = .ok val w4 := h1
      rw [c1] at h1'; exact h1'
    · exact (h3.reset (fun b hb => by omega) hltr).sub (fun k hk => c4 k hk)
    · have k1 := hr1.kept
      have e1 : w4.os = w'.os := by rw [← hw4]; rfl
      have e2 : w4.tape = w'.tape := by rw [← hw4]; rfl
      have e3 : w4.output = w'.output := by rw [← hw4]; rfl
      have e4 : w4.drawn = w'.drawn := by rw [← hw4]; rfl
      have c9' : Kept w (fun _ => False) C1.w0 := c9
      have c8' : w.heap.size ≤ dk := c8
      refine c9'.trans (F' := fun k => C1.F0 k ∨ k = dk) ⟨by rw [e1]; exact k1.os, by rw [e2]; exact k1.tape, by rw [e3]; exact k1.output, by have := k1.size; omega, fun k hk hn => ?_, by have := k1.drawn; omega⟩ (fun k hk hf => ?_)
      · rw [hoth4 k (fun e => hn (.inr e))]
        exact k1.block k hk (fun h => hn (.inl h))
      · rcases hf with hf | hf
        · rcases c10 k hf with h | h
          · exact h
          · have h' : w.heap.size ≤ k := h
            omega
        · omega
  rcases hex with rfl | rfl
  · exact fin
  · exact fin
end Go.AL
