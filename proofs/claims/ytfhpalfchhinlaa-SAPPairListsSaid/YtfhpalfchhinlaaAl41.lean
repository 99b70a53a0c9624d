/-
  The abstract logic: the call of yield, and the statement that ranges over a function. Conditions: the program follows the mixed orders.
-/
import Derived.Test.YtfhpalfchhinlaaAl40
set_option linter.all false
namespace Go.AL
open Go.RowKit

section
variable {C : Cx} {T : Nat → AV} {H : Nat → Option ABox} {D : Nat → Prop} {g : Nat → List Value} {a : Act} {w : World}
/-- what was known at the frame's start stands. -/
theorem old_rep (hr : Rel C T H D g a w) (h0 : ∀ b, C.m ≤ b → C.g0 b = []) {v : AV} {val : Value} (h : Rep C.w0 (fun k => C.O k ∨ C.F0 k) C.g0 v val) : Rep w (Own C.O g H) g v val := by
  refine h.later ⟨hr.kept.size, fun k hk hn => hr.kept.block k hk (fun hf => hn (.inr hf)), fun k hk ho => ?_⟩ ?_
  · rcases ho with ho | ⟨b, x, hx, hb⟩
    · exact .inl ho
    · rcases (hr.own b x k hx hb).2.1 with hf | hf
      · exact .inr hf
      · omega
  · intro b ver u hv
    by_cases hb : b < C.m
    · exact hr.old.ge b hb ver u hv
    · rw [h0 b (by omega)] at hv; simp at hv
/-- the same frame, told from another world on; what is another's may have turned. -/
theorem Rel.rebase (hr : Rel C T H D g a w) {C' : Cx} {w' : World} {a' : Act} (hn : C'.n = C.n) (hm : C'.m = C.m) (hg : C'.g0 = C.g0) (hf : C'.fx = C.fx) (hO : C'.O = C.O) (hd : a'.defers = C'.ds) (ht : a'.tmps = a.tmps)
    (hsz : w.heap.size ≤ w'.heap.size) (hB : ∀ k, k < w.heap.size → ¬ C.O k → w'.heap[k]? = w.heap[k]?) (hF : ∀ k, ¬ C.O k → (C.F0 k ∨ C.w0.heap.size ≤ k) → k < w'.heap.size → C'.F0 k ∨ C'.w0.heap.size ≤ k)
    (hoo : ∀ k, C'.O k → k < C'.w0.heap.size) (hK : Kept C'.w0 C'.F0 w') : Rel C' T H D g a' w' := by
  have hl : Later w (Own C.O g H) w' (Own C.O g H) := ⟨hsz, fun k hk hn' => hB k hk (fun ho => hn' (.inl ho)), fun k _ h => h⟩
  refine ⟨hd, by rw [ht, hn]; exact hr.sz, fun t => by rw [ht, hO]; exact (hr.tm t).later hl (Ext.refl g), fun b x hx => ?_, hr.fresh, hr.dom, hr.sep, fun b x k hx hk => ?_, hoo, hK, ?_⟩
  · rw [hO]
    exact (hr.bx b x hx).later hl (Ext.refl g) (fun k hk => hB k (hr.own b x k hx hk).2.2 (hr.own b x k hx hk).1) rfl
  · obtain ⟨h1, h2, h3⟩ := hr.own b x k hx hk
    have h4 := Nat.lt_of_lt_of_le h3 hsz
    exact ⟨by rw [hO]; exact h1, hF k h1 h2 h4, h4⟩
  · exact ⟨fun b hb => by rw [hm] at hb; rw [hg]; exact hr.old.ge b hb, fun b hb => by rw [hm] at hb; exact hr.old.gm b hb, fun b hb => by rw [hf] at hb; rw [hm, hg]; exact hr.old.gx b hb, fun b x hx => by rw [hf]; exact hr.old.gh b x hx⟩
end

/-- the record of a loop that is ready. -/
def yRec (fn : Nat) (tm : Array Value) (p0 p1 : Nat) (asn bdy : Code) (dk : Nat) : Loop := { state := .ready, pending := none, fn, tmps := tm, params := #[p0, p1], assign := asn, body := bdy, defers := dk }
/-- what is known of the loop, in the frame of the function that yields. -/
structure YC (C : Cx) (L dk fn p0 p1 : Nat) (asn bdy : Code) (tm : Array Value) (T1 : TT) : Prop where
  hL : C.w0.heap[L]? = some (.loop (yRec fn tm p0 p1 asn bdy dk))
  oL : C.O L
  fL : ¬ C.F0 L
  g0 : ∀ b, C.m ≤ b → C.g0 b = []
  rep : ∀ t, Rep C.w0 (fun k => C.O k ∨ C.F0 k) C.g0 (lk T1 t) (tm.getD t undef)
  lt : ∀ t, Lt C.m (lk T1 t)
/-- how the round's code comes out: in the end, with these boxes. -/
def endQ (nx nw : Nat) (wb : HH) : Exit → TT → HH → Nat → Prop
  | .normal, _, H, nx' => nx' ≤ nx + nw ∧ HSub H wb
  | _, _, _, _ => False
theorem put2 (tm : Array Value) (p0 p1 : Nat) (x0 x1 : Value) : ((#[p0, p1].zip #[x0, x1]).foldl (fun t (x : Nat × Value) => t.setIfInBounds x.1 x.2) tm) = (tm.setIfInBounds p0 x0).setIfInBounds p1 x1 := by simp
theorem yield_round {C : Cx} {L dk fn p0 p1 : Nat} {asn bdy : Code} {tm : Array Value} {T1 : TT} (hY : YC C L dk fn p0 p1 asn bdy tm T1) {T2 : Nat → AV} {H2 : Nat → Option ABox} {D2 : Nat → Prop} {g2 : Nat → List Value} {a2 : Act} {w2 : World} (hr : Rel C T2 H2 D2 g2 a2 w2)
    {Hl : HH} {nx nw : Nat} {wb : HH} {v0 v1 : AV} {x0 x1 : Value} (h0 : Rep w2 (Own C.O g2 H2) g2 v0 x0) (h1 : Rep w2 (Own C.O g2 H2) g2 v1 x1) (hHl : ∀ p ∈ Hl, p.1 < nx ∧ bLt0 nx p.2) (hkH : ∀ b x, hk Hl b = some x → H2 b = some x) (hl0 : Lt nx v0) (hl1 : Lt nx v1) (hm : C.m ≤ nx)
    (hnew : ∀ i, i < nw → ¬ D2 (nx + i)) (hwl : ∀ p ∈ wb, p.1 < nx + nw ∧ bLt0 (nx + nw) p.2) (hko : keysOk wb = true) (hkeep : ∀ p ∈ Hl, p.1 ∈ wb.map (·.1)) (hok : okR asn = true) (hob : okR bdy = true) (hp0 : p0 < tm.size) (hp1 : p1 < tm.size)
    (h : acode C.P tm.size (.seq asn bdy) ((p1, v1) :: (p0, v0) :: T1) Hl nx (endQ nx nw wb)) :
    (Instr.yield L #[x0, x1]).run C.P w2 = .ok (.round L fn ((tm.setIfInBounds p0 x0).setIfInBounds p1 x1) asn bdy) w2 ∧
    RoundIn Fence.wide 0 C.P L fn ((tm.setIfInBounds p0 x0).setIfInBounds p1 x1) asn bdy w2 fun e w3 => e = .returned (.bool true) ∧ ∃ g3, Rel C T2 (updL H2 wb) (fun c => D2 c ∨ (nx ≤ c ∧ c < nx + nw)) g3 a2 w3 := by
  have hLlt : L < C.w0.heap.size := (Array.getElem?_eq_some_iff.1 hY.hL).1
  have hLw : w2.heap[L]? = some (.loop (yRec fn tm p0 p1 asn bdy dk)) := (hr.kept.block L hLlt hY.fL).trans hY.hL
  have hLlt2 : L < w2.heap.size := (Array.getElem?_eq_some_iff.1 hLw).1
  have hnoL : ∀ b x, hk Hl b = some x → ownBlk g2 b x ≠ some L := fun b x hx ho => (hr.own b x L (hkH b x hx) ho).1 hY.oL
  refine ⟨?_, ?_⟩
  · rw [run_yield hLw rfl]
    unfold yRec
    simp only [put2]
  · refine roundIn_of_wpIn trivial ?_
    generalize hC3 : inCx C tm.size w2 g2 H2 Hl nx (fun _ => False) (fun _ => False) = C3
    have hrel := in_rel (n := tm.size) (X := fun _ => False) (E := fun _ => False) hr hHl hkH (Kept.refl w2 _) (fun _ h => h.elim) (T3 := (p1, v1) :: (p0, v0) :: T1) (a3 := { tmps := (tm.setIfInBounds p0 x0).setIfInBounds p1 x1, defers := [] }) rfl (by simp) (fun t => by
        simp only [lk]
        rw [Array.getD_eq_getD_getElem?, Array.getElem?_setIfInBounds]
        by_cases ht1 : t = p1
        · subst ht1
          rw [if_pos rfl, if_pos rfl, if_pos (by simpa using hp1)]
          exact h1
        · rw [if_neg ht1, if_neg (show ¬ p1 = t from fun e => ht1 e.symm), Array.getElem?_setIfInBounds]
          by_cases ht0 : t = p0
          · subst ht0
            rw [if_pos rfl, if_pos rfl, if_pos hp0]
            exact h0
          · rw [if_neg ht0, if_neg (show ¬ p0 = t from fun e => ht0 e.symm), ← Array.getD_eq_getD_getElem?]
            exact old_rep hr hY.g0 (hY.rep t)) (fun t => by
        simp only [lk]
        split
        · exact hl1
        · split
          · exact hl0
          · exact (hY.lt t).mono hm)
    have hP3 : C3.P = C.P := by rw [← hC3]; rfl
    have hn3 : C3.n = tm.size := by rw [← hC3]; rfl
    have hO3 : C3.O L := by rw [← hC3]; exact .inl (.inl hY.oL)
    have hF3 : ¬ C3.F0 L := by
      rw [← hC3]
      rintro (⟨b, x, hx, ho⟩ | hf)
      · exact hnoL b x hx ho
      · exact hf
    have hw3 : C3.w0 = w2 := by rw [← hC3]; rfl
    rw [hC3] at hrel
    refine wpIn_mono (acodeR_sound (n := 0) (ro := some L) asn _ _ _ _ hok h C3 _ _ w2 hP3 hn3 hrel) ?_
    rintro e a4 w4 ⟨T4, H4, nx4, g4, hq, hr4⟩
    cases e with
    | normal =>
      have hL4 : w4.heap[L]? = some (.loop (yRec fn tm p0 p1 asn bdy dk)) := (hr4.kept.block L (by rw [hw3]; exact hLlt2) hF3).trans (by rw [hw3]; exact hLw)
      have hLlt4 : L < w4.heap.size := (Array.getElem?_eq_some_iff.1 hL4).1
      refine ⟨_, run_beginRound hL4 rfl, ?_⟩
      generalize hw5 : w4.putObj L (.loop { yRec fn tm p0 p1 asn bdy dk with state := .busy }) = w5
      have hsz5 : w5.heap.size = w4.heap.size := by rw [← hw5]; simp [World.putObj]
      have hoth5 : ∀ k, k ≠ L → w5.heap[k]? = w4.heap[k]? := fun k hk => by rw [← hw5]; exact World.putObj_heap_other hk
      have hr5 := hr4.rebase (C' := { C3 with w0 := w5, F0 := fun k => C3.F0 k ∨ (C3.w0.heap.size ≤ k) }) (w' := w5) (a' := a4) rfl rfl rfl rfl rfl hr4.df rfl (by omega) (fun k _ hn => hoth5 k (fun e => hn (e ▸ hO3)))
        (fun k _ h _ => .inl h) (fun k hk => Nat.lt_of_lt_of_le (hr4.oo k hk) (by rw [hsz5]; exact hr4.kept.size)) (Kept.refl w5 _)
      refine wpIn_mono (acodeR_sound (n := 0) (ro := some L) bdy _ _ _ _ hob hq { C3 with w0 := w5, F0 := fun k => C3.F0 k ∨ (C3.w0.heap.size ≤ k) } _ _ w5 hP3 hn3 hr5) ?_
      rintro e a6 w6 ⟨T6, H6, nx6, g6, hq6, hr6⟩
      cases e with
      | normal =>
        obtain ⟨hq6, hs6⟩ := hq6
        have hF5 : ¬ (C3.F0 L ∨ C3.w0.heap.size ≤ L) := by
          rintro (hf | hf)
          · exact hF3 hf
          · rw [hw3] at hf; omega
        have hL5 : w5.heap[L]? = some (.loop { yRec fn tm p0 p1 asn bdy dk with state := .busy }) := by rw [← hw5]; exact World.putObj_heap_same hLlt4
        have hL6 : w6.heap[L]? = some (.loop { yRec fn tm p0 p1 asn bdy dk with state := .busy }) := (hr6.kept.block L (by show L < w5.heap.size; omega) hF5).trans hL5
        have hLlt6 : L < w6.heap.size := (Array.getElem?_eq_some_iff.1 hL6).1
        refine ⟨_, _, run_endRound none hL6, rfl, ?_⟩
        generalize hw7 : w6.putObj L _ = w7
        have hsz7 : w7.heap.size = w6.heap.size := by rw [← hw7]; simp [World.putObj]
        have hoth7 : ∀ k, k ≠ L → w7.heap[k]? = w6.heap[k]? := fun k hk => by rw [← hw7]; exact World.putObj_heap_other hk
        have hL7 : w7.heap[L]? = some (.loop (yRec fn tm p0 p1 asn bdy dk)) := by rw [← hw7]; exact World.putObj_heap_same hLlt6
        have hos : w7.os = w2.os ∧ w7.tape = w2.tape ∧ w7.output = w2.output ∧ w2.drawn ≤ w7.drawn := by
          have k4 := hr4.kept; have k6 := hr6.kept
          rw [hw3] at k4
          have e1 : w7.os = w6.os := by rw [← hw7]; rfl
          have e2 : w7.tape = w6.tape := by rw [← hw7]; rfl
          have e3 : w7.output = w6.output := by rw [← hw7]; rfl
          have e4 : w7.drawn = w6.drawn := by rw [← hw7]; rfl
          have f1 : w5.os = w4.os := by rw [← hw5]; rfl
          have f2 : w5.tape = w4.tape := by rw [← hw5]; rfl
          have f3 : w5.output = w4.output := by rw [← hw5]; rfl
          have f4 : w5.drawn = w4.drawn := by rw [← hw5]; rfl
          have g1 : w6.os = w5.os := k6.os
          have g2' : w6.tape = w5.tape := k6.tape
          have g3 : w6.output = w5.output := k6.output
          have g4' : w5.drawn ≤ w6.drawn := k6.drawn
          refine ⟨by rw [e1, g1, f1, k4.os], by rw [e2, g2', f2, k4.tape], by rw [e3, g3, f3, k4.output], ?_⟩
          have := k4.drawn
          omega
        have hk7 : ∀ k, k < w2.heap.size → ¬ C3.F0 k → w7.heap[k]? = w2.heap[k]? := by
          intro k hk hf
          by_cases hkL : k = L
          · subst hkL; rw [hL7, hLw]
          · rw [hoth7 k hkL]
            have e1 : w6.heap[k]? = w5.heap[k]? := hr6.kept.block k (by show k < w5.heap.size; have := hr4.kept.size; rw [hw3] at this; omega) (by
              rintro (h | h)
              · exact hf h
              · rw [hw3] at h; omega)
            have e2 : w4.heap[k]? = w2.heap[k]? := by have := hr4.kept.block k (by rw [hw3]; exact hk) hf; rw [hw3] at this; exact this
            rw [e1, hoth5 k hkL, e2]
        have hsz27 : w2.heap.size ≤ w7.heap.size := by
          have h1 := hr4.kept.size; rw [hw3] at h1
          have h2 : w5.heap.size ≤ w6.heap.size := hr6.kept.size
          omega
        have hr7 := hr6.rebase (C' := C3) (w' := w7) (a' := a6) rfl rfl rfl rfl rfl hr6.df rfl (by omega) (fun k _ hn => hoth7 k (fun e => hn (e ▸ hO3)))
          (fun k _ h _ => by
            rcases h with (h | h) | h
            · exact .inl h
            · exact .inr h
            · right
              have h' : w5.heap.size ≤ k := h
              rw [hw3]
              have h1 := hr4.kept.size; rw [hw3] at h1
              omega) hrel.oo (by rw [hw3]; exact ⟨hos.1, hos.2.1, hos.2.2.1, hsz27, hk7, hos.2.2.2⟩)
        rw [← hC3] at hr7
        obtain ⟨g3, _, hr8⟩ := out_rel (X := fun _ => False) (E := fun _ => False) (C1 := C) (a1 := a2) (w3 := w7) hr hHl hkH hnew hwl hko hkeep (fun _ h => h.elim) (Kept.refl w2 _) hr7 hs6 hq6 (Nat.le_refl _) (fun _ _ _ => rfl)
          (fun k hk hn => hk7 k hk (by
            rw [← hC3]
            rintro (⟨b, x, hx, ho⟩ | hf)
            · exact hn b x hx ho
            · exact hf)) (fun k h => h.elim) rfl rfl rfl rfl hr.df rfl (fun k h => .inl h) hr.oo (fun k _ h _ => h) (by
            refine hr.kept.trans (F' := C3.F0) ⟨hos.1, hos.2.1, hos.2.2.1, hsz27, hk7, hos.2.2.2⟩ (fun k hk hf => ?_)
            rw [← hC3] at hf
            rcases hf with ⟨b, x, hx, ho⟩ | hf
            · rcases (hr.own b x k (hkH b x hx) ho).2.1 with h | h
              · exact h
              · omega
            · exact hf.elim)
        exact ⟨g3, hr8⟩
      | _ => exact hq6.elim
    | _ => exact hq.elim
end Go.AL
