/-
  The abstract logic: a body walked in parts; a row of one's own told as content; slices.Grow of nil. Conditions: none (slices.Grow: the library's function is the shelf's).
-/
import Derived.Test.YtlkngccfikeaiaaAlC
import Derived.Test.YtlkngccfikeaiaaAlD
import Derived.Shelf.Spec.SlicesGrow
import Derived.RangeFuncCalls
import Derived.RangeFuncLeaves
import Derived.RangeFuncRecord
import Derived.Laws.Small
set_option linter.all false
namespace Go.AL
open Go.RowKit Go.Proofs Go.Shelf Go.Lib
section
variable {P : Program} {n : Nat} {T : TT} {H : HH} {nx : Nat} {Q : Exit → TT → HH → Nat → Prop}
theorem tr_ac (hm : P.follows .mixedOrders = true) {b : Code} (h : acode P n b T H nx Q) : Tr P n b T H nx Q := acode_sound hm _ _ _ _ _ h
end
section
variable {P : Program} {n : Nat} {T T' : TT} {H H' : HH} {nx nx' : Nat} {Q : Exit → TT → HH → Nat → Prop}
end
section
variable {C : Cx} {P : Program} {ρ : Ren}
end
end Go.AL
/-
  The abstract logic: a variable of one cell, told by that cell. Conditions: none.
-/
namespace Go.AL
open Go.RowKit
section
variable {C : Cx} {T : Nat → AV} {H : Nat → Option ABox} {D : Nat → Prop} {g : Nat → List Value} {a : Act} {w : World}
theorem Rel.un1 {b : Nat} {c : AV} (h : Rel C T H D g a w) (hb : H b = some (.var (.agg [c]))) (hc : c.cells = [c]) : Rel C T (updF H b (some (.var c))) D g a w := by
  have hother : ∀ d x, updF H b (some (.var c)) d = some x → (d = b ∧ x = .var c) ∨ (d ≠ b ∧ H d = some x) := by
    intro d x hx
    by_cases hd : d = b
    · subst hd; rw [updF_same] at hx; left; exact ⟨rfl, by injection hx with hx; exact hx.symm⟩
    · rw [updF_other hd] at hx; exact .inr ⟨hd, hx⟩
  have hob : ownBlk g b (.var c) = ownBlk g b (.var (.agg [c])) := rfl
  have hOwn : ∀ k, Own C.O g (updF H b (some (.var c))) k → Own C.O g H k := by
    rintro k (hk' | ⟨d, x, hx, hk'⟩)
    · exact .inl hk'
    · rcases hother d x hx with ⟨rfl, rfl⟩ | ⟨_, hx⟩
      · exact .inr ⟨d, _, hb, hk'⟩
      · exact .inr ⟨d, x, hx, hk'⟩
  refine ⟨h.df, h.sz, fun t => (h.tm t).sub hOwn, fun d x hx => ?_, h.fresh, fun d x hx => ?_, fun d d' x x' k hx hx' hk hk' => ?_, fun d x k hx hk => ?_, h.oo, h.kept, h.old.set hb _⟩
  · rcases hother d x hx with ⟨rfl, rfl⟩ | ⟨_, hx⟩
    · obtain ⟨blk, vs, ty, h1, h2, h3, h4⟩ := h.bx d _ hb
      refine ⟨blk, vs, ty, h1, h2, by rw [h3, hc]; rfl, fun j hj => ?_⟩
      have h5 := (h4 j (by rw [hc] at hj; exact hj)).sub hOwn
      rw [hc]; exact h5
    · exact (h.bx d x hx).sub hOwn
  · rcases hother d x hx with ⟨rfl, _⟩ | ⟨_, hx⟩
    · exact h.dom _ _ hb
    · exact h.dom d x hx
  · rcases hother d x hx with ⟨e1, e2⟩ | ⟨_, h1⟩ <;> rcases hother d' x' hx' with ⟨e3, e4⟩ | ⟨_, h2⟩
    · exact e1.trans e3.symm
    · rw [e1]; rw [e1, e2] at hk; exact h.sep _ _ _ _ k hb h2 hk hk'
    · rw [e3]; rw [e3, e4] at hk'; exact h.sep _ _ _ _ k h1 hb hk hk'
    · exact h.sep _ _ _ _ k h1 h2 hk hk'
  · rcases hother d x hx with ⟨rfl, rfl⟩ | ⟨_, hx⟩
    · exact h.own _ _ k hb hk
    · exact h.own d x k hx hk
end
variable {P : Program} {n : Nat} {c : Code} {T : TT} {H : HH} {nx : Nat} {Q : Exit → TT → HH → Nat → Prop}
end Go.AL
/-
  The abstract logic: a body within a round of a range over a function; a frame within another's boxes. Conditions: the program follows the mixed orders.
-/
namespace Go.AL
open Go.RowKit
def fen (ro : Option Nat) : Fence := { Fence.wide with round := ro }
def nodef (o : Oper) : Bool := match o.op with
  | .defer _ => false
  | _ => true
theorem nodef_ne {o : Oper} (h : nodef o = true) : ∀ c, o.op ≠ .defer c := by
  intro c hc; unfold nodef at h; rw [hc] at h; cases h
section
variable {P : Program} {n : Nat} {ro : Option Nat}
theorem callsIn_fen {f : FuncId} {args : Array Value} {w : World} {R : Ending → World → Prop} (h : Calls P f args w R) : CallsIn (fen ro) n P f args w R := callsIn_wide.2 h
theorem rowsIn_fen {row : String} {args : Array Value} {w : World} {R : Value → World → Prop} (h : Rows P row args w R) : RowsIn (fen ro) n P row args w R :=
  fun c cs _ => let ⟨v, w', r, s⟩ := h c cs; ⟨v, w', r, stepsIn_wide.2 s⟩
theorem upon_in {o : Oper} {a : Act} {next : Act → World → Prop} {Q : Exit → Act → World → Prop} {r : Result Next} (h : o.upon P a next Q r) : o.uponIn (fen ro) n P a next Q r := by
  unfold Oper.upon at h
  split at h
  · exact h
  · exact h
  · exact h
  · exact ⟨fun hd => (by cases hd), callsIn_fen h⟩
  · exact ⟨fun hd => (by cases hd), rowsIn_fen h⟩
  · exact h
  · exact h.elim
theorem wp_in {o : Oper} {a : Act} {w : World} {next : Act → World → Prop} {Q : Exit → Act → World → Prop} (hnd : nodef o = true) (h : o.wp P a w next Q) : o.wpIn (fen ro) n P a w next Q :=
  ⟨fun f _ => trivial, by rw [Oper.semAt_eq _ _ _ (nodef_ne hnd)]; exact upon_in h⟩
theorem wpOpsIn_of {o : Oper} {ops : Array Oper} {i : Nat} {rest : List Nat} {a : Act} {w : World} {Q : Exit → Act → World → Prop} (ho : ops[i]? = some o) (hnd : nodef o = true)
    (h : if Region.wanted o (yielded ops a.tmps) = true then o.wp P a w (wpOpsIn (fen ro) n P ops Q rest) Q else wpOpsIn (fen ro) n P ops Q rest (a.put o.dst undef) w) : wpOpsIn (fen ro) n P ops Q (i :: rest) a w := by
  simp only [wpOpsIn, ho]
  split
  · rename_i hw; rw [if_pos hw] at h; exact wp_in hnd h
  · rename_i hw; rw [if_neg hw] at h; exact ⟨fun _ _ => trivial, h⟩
end
section
variable {C : Cx} {n : Nat} {ro : Option Nat}
theorem chain_in {ops : Array Oper} {Q : Exit → Act → World → Prop} {rest : List Nat} : ∀ (os : List Oper) (rs : List Res) (T : List (Nat × AV)) (H : List (Nat × ABox)) (nx i : Nat) (g : Nat → List Value) (a : Act) (w : World),
    Chain C (ops.toList.map (·.dst)) os rs T H nx → (∀ j o, os[j]? = some o → ops[i + j]? = some o ∧ nodef o = true) → Rel C (lk T) (hk H) (fun c => c < nx) g a w →
    (∀ g' a' w', Rel C (lk (endT C.n os rs T)) (hk (endH rs H)) (fun c => c < endN rs nx) g' a' w' → wpOpsIn (fen ro) n C.P ops Q rest a' w') → wpOpsIn (fen ro) n C.P ops Q (List.range' i os.length ++ rest) a w
  | [], [], T, H, nx, i, g, a, w, _, _, hr, hq => by simpa using hq g a w hr
  | [], _ :: _, _, _, _, _, _, _, _, h, _, _, _ => h.elim
  | _ :: _, [], _, _, _, _, _, _, _, h, _, _, _ => h.elim
  | o :: os, r :: rs, T, H, nx, i, g, a, w, hc, hd, hr, hq => by
    obtain ⟨hs, hc⟩ := hc
    obtain ⟨ho, hnd⟩ := hd 0 o rfl
    rw [Nat.add_zero] at ho
    rw [List.length_cons, List.range'_succ, List.cons_append]
    refine wpOpsIn_of ho hnd ?_
    refine hs _ _ _ g a w hr (fun _ _ => rfl) (fun _ _ _ _ _ => rfl) (fun _ _ => rfl) (fun j _ hd => by omega) ops rfl _ Q fun v w' g' h1 h2 => ?_
    have hrel := (h1.put o.dst h2).dmono (D' := fun c => c < nx + r.nw) (fun b hb => by omega)
    rw [← lk_setT, ← hk_hputs] at hrel
    exact chain_in os rs _ _ _ (i + 1) g' _ w' hc (fun j o' hj => by rw [show i + 1 + j = i + (j + 1) by omega]; exact hd (j + 1) o' hj) hrel hq
theorem region_in {id m : Nat} {P : Program} {ops : Array Oper} {T : List (Nat × AV)} {H : List (Nat × ABox)} {nx : Nat} {K : List (Nat × AV) → List (Nat × ABox) → Nat → List FP → Prop} {Q : Exit → Act → World → Prop}
    {g : Nat → List Value} {a : Act} {w : World} (hP : C.P = P) (hn : C.n = m) (hnd : ops.toList.all nodef = true) (h : arun P m (ops.toList.map (·.dst)) ops.toList T H nx [] K) (hr : Rel C (lk T) (hk H) (fun c => c < nx) g a w)
    (hq : ∀ T' H' nx' fps g' a' w', K T' H' nx' fps → Rel C (lk T') (hk H') (fun c => c < nx') g' a' w' → Q .normal a' w') : (Code.region id ops false).wpIn (fen ro) n P Q a w := by
  subst hP; subst hn
  obtain ⟨rs, hl, hc, hK⟩ := arun_chain _ _ _ _ _ h
  refine wpIn_region ?_
  have := chain_in (Q := Q) (n := n) (ro := ro) (ops := ops) (rest := []) ops.toList rs T H nx 0 g a w hc (fun j o hj => by
    rw [Nat.zero_add, ← Array.getElem?_toList]
    exact ⟨hj, List.all_eq_true.1 hnd o (List.mem_of_getElem? hj)⟩) hr (fun g' a' w' hr' => hq _ _ _ _ g' a' w' hK hr')
  rwa [List.append_nil, Array.length_toList, ← List.range_eq_range'] at this
end
def okR : Code → Bool
  | .skip => true
  | .region _ ops draw => !draw && ops.toList.all nodef
  | .seq a b => okR a && okR b
  | .cond _ a b => okR a && okR b
  | .block _ c => okR c
  | .exit _ => true
  | _ => false
theorem acodeR_sound {P : Program} {m n : Nat} {ro : Option Nat} : ∀ (c : Code) (T : TT) (H : HH) (nx : Nat) (Q : Exit → TT → HH → Nat → Prop), okR c = true → acode P m c T H nx Q →
    ∀ (C : Cx) (g : Nat → List Value) (a : Act) (w : World), C.P = P → C.n = m → Rel C (lk T) (hk H) (fun c => c < nx) g a w →
      c.wpIn (fen ro) n P (fun e a' w' => ∃ T' H' nx' g', Q e T' H' nx' ∧ Rel C (lk T') (hk H') (fun c => c < nx') g' a' w') a w
  | .skip, T, H, nx, Q, _, h => fun C g a w _ _ hr => wpIn_skip ⟨T, H, nx, g, h, hr⟩
  | .region id ops draw, T, H, nx, Q, ho, h => fun C g a w hP hn hr => by
    cases draw with
    | false => exact region_in hP hn (by simpa [okR] using ho) h hr (fun T' H' nx' fps g' a' w' hK hr' => ⟨T', H', nx', g', hK.2, hr'⟩)
    | true => simp [okR] at ho
  | .seq x y, T, H, nx, Q, ho, h => fun C g a w hP hn hr => by
    simp only [okR, Bool.and_eq_true] at ho
    refine wpIn_seq (wpIn_mono (acodeR_sound x T H nx _ ho.1 h C g a w hP hn hr) ?_)
    rintro e a' w' ⟨T', H', nx', g', hq, hr'⟩
    cases e with
    | normal => exact acodeR_sound y T' H' nx' Q ho.2 hq C g' a' w' hP hn hr'
    | _ => exact ⟨T', H', nx', g', hq, hr'⟩
  | .cond c x y, T, H, nx, Q, ho, h => fun C g a w hP hn hr => by
    simp only [okR, Bool.and_eq_true] at ho
    simp only [acode] at h
    split at h
    · rename_i b hb
      have hc := hr.evO c
      rw [hb] at hc
      exact wpIn_cond_split hc.sc_inv (fun ht => acodeR_sound x T H nx Q ho.1 (h.1 ht) C g a w hP hn hr) (fun hf => acodeR_sound y T H nx Q ho.2 (h.2 hf) C g a w hP hn hr)
    · rename_i k v hb
      have hc := hr.evO c
      rw [hb] at hc
      obtain ⟨b, hv, hk⟩ := hc.nb_inv
      exact wpIn_cond_split hv (fun ht => acodeR_sound x T H nx Q ho.1 (h.1 fun h => (hk h).symm.trans ht) C g a w hP hn hr) (fun hf => acodeR_sound y T H nx Q ho.2 (h.2 fun h => (hk h).symm.trans hf) C g a w hP hn hr)
    · exact h.elim
  | .block id c, T, H, nx, Q, ho, h => fun C g a w hP hn hr => by
    refine wpIn_block (wpIn_mono (acodeR_sound c T H nx _ ho h C g a w hP hn hr) ?_)
    rintro e a' w' ⟨T', H', nx', g', hq, hr'⟩
    cases e with
    | exit id' =>
      simp only [inB] at hq
      unfold Exit.inBlock
      by_cases hid : id' = id
      · rw [if_pos hid] at hq; simp only [hid, if_true]; exact ⟨T', H', nx', g', hq, hr'⟩
      · rw [if_neg hid] at hq; simp only [hid, if_false]; exact ⟨T', H', nx', g', hq, hr'⟩
    | _ => exact ⟨T', H', nx', g', hq, hr'⟩
  | .exit id, T, H, nx, Q, _, h => fun C g a w _ _ hr => wpIn_exit ⟨T, H, nx, g, h, hr⟩
  | .loop _, _, _, _, _, ho, _ => by simp [okR] at ho
  | .label _, _, _, _, _, ho, _ => by simp [okR] at ho
  | .ret, _, _, _, _, ho, _ => by simp [okR] at ho
  | .rangeFunc _ _ _ _, _, _, _, _, ho, _ => by simp [okR] at ho
  | .scope _, _, _, _, _, ho, _ => by simp [okR] at ho
  | .goto _, _, _, _, _, ho, _ => by simp [okR] at ho
  | .refuse _, _, _, _, _, ho, _ => by simp [okR] at ho
/-! ### a frame within another's boxes -/
def inCx (C : Cx) (n : Nat) (w1 : World) (g : Nat → List Value) (H' : Nat → Option ABox) (Hl : HH) (nx : Nat) (X E : Nat → Prop) : Cx :=
  ⟨C.P, n, w1, fun k => (∃ b x, hk Hl b = some x ∧ ownBlk g b x = some k) ∨ E k, fun k => (C.O k ∨ X k) ∨ ∃ b x, H' b = some x ∧ hk Hl b = none ∧ ownBlk g b x = some k, nx,
    fun b => if b < nx then g b else [], fun b => b < nx ∧ hk Hl b = none, []⟩
section
variable {C : Cx} {T' : Nat → AV} {H' : Nat → Option ABox} {D : Nat → Prop} {g : Nat → List Value} {a : Act} {w w1 : World} {Hl : HH} {nx n : Nat} {X E : Nat → Prop}
theorem in_rel (hr : Rel C T' H' D g a w) (hHl : ∀ p ∈ Hl, p.1 < nx ∧ bLt0 nx p.2) (hkH : ∀ b x, hk Hl b = some x → H' b = some x) (hk1 : Kept w (fun _ => False) w1) (hX : ∀ k, X k → w.heap.size ≤ k ∧ k < w1.heap.size)
    {T3 : TT} {a3 : Act} (hd3 : a3.defers = []) (hs3 : a3.tmps.size = n) (hT3 : ∀ t, Rep w (Own C.O g H') g (lk T3 t) (a3.tmps.getD t undef)) (hl3 : ∀ t, Lt nx (lk T3 t)) :
    Rel (inCx C n w1 g H' Hl nx X E) (lk T3) (hk Hl) (fun c => c < nx) (fun b => if b < nx then g b else []) a3 w1 := by
  have hklt : ∀ b x, hk Hl b = some x → b < nx ∧ bLt0 nx x := fun b x hx => hHl _ (hk_mem Hl b x hx)
  have hg1 : ∀ b, b < nx → (fun b => if b < nx then g b else []) b = g b := fun b hb => if_pos hb
  have hl : Later w (Own C.O g H') w1 (fun k => Own C.O g H' k ∨ X k) := ⟨hk1.size, fun k hk _ => hk1.block k hk id, fun k hk ho => by
    rcases ho with ho | ho
    · exact ho
    · have := (hX k ho).1; omega⟩
  have hob : ∀ b x, hk Hl b = some x → ownBlk (fun b => if b < nx then g b else []) b x = ownBlk g b x := fun b x hx => ownBlk_congr x (hg1 b (hklt b x hx).1)
  have hOwn1 : ∀ k, Own (inCx C n w1 g H' Hl nx X E).O (fun b => if b < nx then g b else []) (hk Hl) k → Own C.O g H' k ∨ X k := by
    rintro k (((hk' | hk') | ⟨b, x, hx, _, hk'⟩) | ⟨b, x, hx, hk'⟩)
    · exact .inl (.inl hk')
    · exact .inr hk'
    · exact .inl (.inr ⟨b, x, hx, hk'⟩)
    · rw [hob b x hx] at hk'; exact .inl (.inr ⟨b, x, hkH b x hx, hk'⟩)
  refine ⟨hd3, hs3, fun t => ?_, fun b x hx => ?_, fun b hb => if_neg hb, fun b x hx => (hklt b x hx).1, fun b b' x x' k hx hx' hk1 hk2 => ?_, fun b x k hx hk1' => ?_, ?_, Kept.refl w1 _, ?_⟩
  · exact (((hT3 t).later hl (Ext.refl g)).reset hg1 (hl3 t)).sub hOwn1
  · refine (((hr.bx b x (hkH b x hx)).later hl (Ext.refl g) (fun k hk => ?_) rfl).reset hg1 (hklt b x hx).1 (hklt b x hx).2).sub hOwn1
    exact hk1.block k (hr.own b x k (hkH b x hx) hk).2.2 id
  · rw [hob b x hx] at hk1; rw [hob b' x' hx'] at hk2
    exact hr.sep b b' x x' k (hkH b x hx) (hkH b' x' hx') hk1 hk2
  · rw [hob b x hx] at hk1'
    have h1 := hr.own b x k (hkH b x hx) hk1'
    refine ⟨?_, .inl (.inl ⟨b, x, hx, hk1'⟩), Nat.lt_of_lt_of_le h1.2.2 hk1.size⟩
    rintro ((ho | ho) | ⟨b', x', hx', hn', hk'⟩)
    · exact h1.1 ho
    · have := (hX k ho).1; have := h1.2.2; omega
    · have := hr.sep b b' x x' k (hkH b x hx) hx' hk1' hk'
      subst this
      rw [hx] at hn'; cases hn'
  · rintro k ((ho | ho) | ⟨b', x', hx', _, hk'⟩)
    · exact Nat.lt_of_lt_of_le (hr.oo k ho) (Nat.le_trans hr.kept.size hk1.size)
    · exact (hX k ho).2
    · exact Nat.lt_of_lt_of_le (hr.own b' x' k hx' hk').2.2 hk1.size
  · exact ⟨fun b _ ver v hv => hv, fun b hb => hb, fun b hb => ⟨hb.1, rfl⟩, fun b x hx hf => by have h2 : b < nx ∧ hk Hl b = none := hf; rw [hx] at h2; cases h2.2⟩
theorem out_rel (hr : Rel C T' H' D g a w) {nw : Nat} {wb : HH} (hHl : ∀ p ∈ Hl, p.1 < nx ∧ bLt0 nx p.2) (hkH : ∀ b x, hk Hl b = some x → H' b = some x) (hnew : ∀ i, i < nw → ¬ D (nx + i))
    (hwl : ∀ p ∈ wb, p.1 < nx + nw ∧ bLt0 (nx + nw) p.2) (hko : keysOk wb = true) (hkeep : ∀ p ∈ Hl, p.1 ∈ wb.map (·.1)) (hX : ∀ k, X k → w.heap.size ≤ k)
    (hk1 : Kept w (fun _ => False) w1) {T1 : TT} {H1 : HH} {nx1 : Nat} {g2 : Nat → List Value} {a' : Act} {w2 w3 : World} (hr1' : Rel (inCx C n w1 g H' Hl nx X E) (lk T1) (hk H1) (fun c => c < nx1) g2 a' w2) (hs : HSub H1 wb) (hnx1 : nx1 ≤ nx + nw)
    (h23 : w2.heap.size ≤ w3.heap.size) (hB : ∀ k, k < w2.heap.size → ¬ (inCx C n w1 g H' Hl nx X E).O k → w3.heap[k]? = w2.heap[k]?)
    (hA : ∀ k, k < w.heap.size → (∀ b x, hk Hl b = some x → ownBlk g b x ≠ some k) → w3.heap[k]? = w.heap[k]?) (hE : ∀ k, E k → k < w.heap.size → C.O k)
    {C1 : Cx} {a1 : Act} (hn1 : C1.n = C.n) (hm1 : C1.m = C.m) (hg1' : C1.g0 = C.g0) (hf1 : C1.fx = C.fx) (hd1 : a1.defers = C1.ds) (ht1 : a1.tmps = a.tmps) (hO1 : ∀ k, C1.O k → C.O k ∨ X k) (hoo : ∀ k, C1.O k → k < C1.w0.heap.size)
    (hF1 : ∀ k, ¬ C1.O k → (C.F0 k ∨ C.w0.heap.size ≤ k) → k < w3.heap.size → C1.F0 k ∨ C1.w0.heap.size ≤ k) (hK1 : Kept C1.w0 C1.F0 w3) :
    ∃ g', Ext g g' ∧ Rel C1 T' (updL H' wb) (fun c => D c ∨ (nx ≤ c ∧ c < nx + nw)) g' a1 w3 := by
  have hklt : ∀ b x, hk Hl b = some x → b < nx ∧ bLt0 nx x := fun b x hx => hHl _ (hk_mem Hl b x hx)
  have hr1 := hr1'.less hs
  have hg1 : ∀ b, b < nx → (fun b => if b < nx then g b else []) b = g b := fun b hb => if_pos hb
  let g' : Nat → List Value := fun b => if b < nx + nw then g2 b else g b
  have hg'2 : ∀ b, b < nx + nw → g' b = g2 b := fun b hb => if_pos hb
  have hcase : ∀ b x, updL H' wb b = some x → (b ∈ wb.map (·.1) ∧ hk wb b = some x ∧ b < nx + nw ∧ bLt0 (nx + nw) x) ∨ (b ∉ wb.map (·.1) ∧ H' b = some x ∧ hk Hl b = none) := by
    intro b x hx
    by_cases hm' : b ∈ wb.map (·.1)
    · rw [updL_hk wb H' b hko hm'] at hx
      exact .inl ⟨hm', hx, hwl _ (hk_mem wb b x hx)⟩
    · rw [updL_other wb H' b hm'] at hx
      refine .inr ⟨hm', hx, hk_none Hl b fun hk' => hm' ?_⟩
      obtain ⟨p, hp, rfl⟩ := List.mem_map.1 hk'
      exact hkeep p hp
  have hext : Ext g g' := by
    intro b ver v hv
    show (g' b)[ver]? = some v
    by_cases hlt' : b < nx + nw
    · rw [hg'2 b hlt']
      by_cases hb : b < nx
      · exact hr1.old.ge b hb ver v (by show ((fun b => if b < nx then g b else []) b)[ver]? = some v; rw [hg1 b hb]; exact hv)
      · rw [hr.fresh b (by have := hnew (b - nx) (by omega); rwa [show nx + (b - nx) = b by omega] at this)] at hv; simp at hv
    · have : g' b = g b := if_neg hlt'
      rw [this]; exact hv
  have hgo : ∀ b, hk Hl b = none → g' b = g b ∨ (nx ≤ b ∧ b < nx + nw) := by
    intro b hn'
    by_cases hlt' : b < nx + nw
    · by_cases hb : b < nx
      · left
        rw [hg'2 b hlt', (hr1.old.gx b ⟨hb, hn'⟩).2]
        exact hg1 b hb
      · exact .inr ⟨by omega, hlt'⟩
    · exact .inl (if_neg hlt')
  have hnd : ∀ b, nx ≤ b → b < nx + nw → ¬ D b := fun b h1 h2 => by
    have := hnew (b - nx) (by omega); rwa [show nx + (b - nx) = b by omega] at this
  have hgo' : ∀ b x, H' b = some x → hk Hl b = none → g' b = g b := by
    intro b x hx hn'
    rcases hgo b hn' with h | h
    · exact h
    · exact absurd (hr.dom b x hx) (hnd b h.1 h.2)
  have hsub : ∀ k, k < w.heap.size → Own C1.O g' (updL H' wb) k → Own C.O g H' k := by
    rintro k hk' (ho | ⟨b, x, hx, hob'⟩)
    · rcases hO1 k ho with h | h
      · exact .inl h
      · have := hX k h; omega
    · rcases hcase b x hx with ⟨_, hx1, hlt', _⟩ | ⟨_, hx1, hn'⟩
      · rw [ownBlk_congr x (hg'2 b hlt')] at hob'
        rcases (hr1.own b x k hx1 hob').2.1 with (⟨b', x', hx', hk2⟩ | hf) | hf
        · exact .inr ⟨b', x', hkH b' x' hx', hk2⟩
        · exact .inl (hE k hf hk')
        · have h5 : w1.heap.size ≤ k := hf
          have := hk1.size; omega
      · rw [ownBlk_congr x (hgo' b x hx1 hn')] at hob'
        exact .inr ⟨b, x, hx1, hob'⟩
  have hl : Later w (Own C.O g H') w3 (Own C1.O g' (updL H' wb)) :=
    ⟨Nat.le_trans hk1.size (Nat.le_trans hr1.kept.size h23), fun k hk hn' => hA k hk (fun b x hx ho => hn' (.inr ⟨b, x, hkH b x hx, ho⟩)), hsub⟩
  have hsub1 : ∀ k, Own C1.O g' (updL H' wb) k → Own (inCx C n w1 g H' Hl nx X E).O g2 (hk wb) k := by
    rintro k (ho | ⟨b, x, hx, hob'⟩)
    · exact .inl (.inl (hO1 k ho))
    · rcases hcase b x hx with ⟨_, hx1, hlt', _⟩ | ⟨_, hx1, hn'⟩
      · rw [ownBlk_congr x (hg'2 b hlt')] at hob'; exact .inr ⟨b, x, hx1, hob'⟩
      · rw [ownBlk_congr x (hgo' b x hx1 hn')] at hob'; exact .inl (.inr ⟨b, x, hx1, hn', hob'⟩)
  have hl2 : Later w2 (Own (inCx C n w1 g H' Hl nx X E).O g2 (hk wb)) w3 (Own (inCx C n w1 g H' Hl nx X E).O g2 (hk wb)) :=
    ⟨h23, fun k hk hn' => hB k hk (fun ho => hn' (.inl ho)), fun k _ h => h⟩
  have hlow : ∀ b x, hk wb b = some x → b < nx → ∃ y, hk Hl b = some y := by
    intro b x hx hb
    cases hy : hk Hl b with
    | some y => exact ⟨y, rfl⟩
    | none => exact absurd ⟨hb, hy⟩ (hr1.old.gh b x hx)
  refine ⟨g', hext, ⟨hd1, by rw [ht1, hn1]; exact hr.sz, fun t => by rw [ht1]; exact (hr.tm t).later hl hext, fun b x hx => ?_, fun b hb => ?_, fun b x hx => ?_, fun b b' x x' k hx hx' hk1 hk2 => ?_, fun b x k hx hk1' => ?_, hoo, hK1, ?_⟩⟩
  · rcases hcase b x hx with ⟨_, hx1, hlt', hbl⟩ | ⟨_, hx1, hn'⟩
    · refine (((hr1.bx b x hx1).later hl2 (Ext.refl g2) (fun k hk' => ?_) rfl).reset hg'2 hlt' hbl).sub hsub1
      exact hB k (hr1.own b x k hx1 hk').2.2 (hr1.own b x k hx1 hk').1
    · refine (hr.bx b x hx1).later hl hext (fun k hk' => ?_) (hgo' b x hx1 hn')
      refine hA k (hr.own b x k hx1 hk').2.2 ?_
      intro b' x' hx' hk2
      have := hr.sep b b' x x' k hx1 (hkH b' x' hx') hk' hk2
      subst this
      rw [hx'] at hn'; cases hn'
  · have hbd : ¬ D b := fun h => hb (.inl h)
    have hg0 := hr.fresh b hbd
    rcases Nat.lt_or_ge b (nx + nw) with hlt' | hlt'
    · have hbx : b < nx := by
        rcases Nat.lt_or_ge b nx with h | h
        · exact h
        · exact absurd (.inr ⟨h, hlt'⟩) hb
      have hn' : hk Hl b = none := by
        cases hy : hk Hl b with
        | none => rfl
        | some y => exact absurd (hr.dom b y (hkH b y hy)) hbd
      rw [hg'2 b hlt', (hr1.old.gx b ⟨hbx, hn'⟩).2]
      show (fun b => if b < nx then g b else []) b = []
      rw [hg1 b hbx, hg0]
    · show g' b = []
      have : g' b = g b := if_neg (by omega)
      rw [this, hg0]
  · rcases hcase b x hx with ⟨_, hx1, hlt', _⟩ | ⟨_, hx1, hn'⟩
    · rcases Nat.lt_or_ge b nx with h | h
      · obtain ⟨y, hy⟩ := hlow b x hx1 h
        exact .inl (hr.dom b y (hkH b y hy))
      · exact .inr ⟨h, hlt'⟩
    · exact .inl (hr.dom b x hx1)
  · rcases hcase b x hx with ⟨_, hx1, hlt', _⟩ | ⟨_, hx1, hn'⟩ <;> rcases hcase b' x' hx' with ⟨_, hx1', hlt'', _⟩ | ⟨_, hx1', hn''⟩
    · rw [ownBlk_congr x (hg'2 b hlt')] at hk1; rw [ownBlk_congr x' (hg'2 b' hlt'')] at hk2
      exact hr1.sep b b' x x' k hx1 hx1' hk1 hk2
    · rw [ownBlk_congr x (hg'2 b hlt')] at hk1; rw [ownBlk_congr x' (hgo' b' x' hx1' hn'')] at hk2
      exact absurd (.inr ⟨b', x', hx1', hn'', hk2⟩) (hr1.own b x k hx1 hk1).1
    · rw [ownBlk_congr x (hgo' b x hx1 hn')] at hk1; rw [ownBlk_congr x' (hg'2 b' hlt'')] at hk2
      exact absurd (.inr ⟨b, x, hx1, hn', hk1⟩) (hr1.own b' x' k hx1' hk2).1
    · rw [ownBlk_congr x (hgo' b x hx1 hn')] at hk1; rw [ownBlk_congr x' (hgo' b' x' hx1' hn'')] at hk2
      exact hr.sep b b' x x' k hx1 hx1' hk1 hk2
  · rcases hcase b x hx with ⟨_, hx1, hlt', _⟩ | ⟨_, hx1, hn'⟩
    · rw [ownBlk_congr x (hg'2 b hlt')] at hk1'
      obtain ⟨p1, p2, p3⟩ := hr1.own b x k hx1 hk1'
      refine ⟨fun ho => p1 (.inl (hO1 k ho)), hF1 k (fun ho => p1 (.inl (hO1 k ho))) ?_ (Nat.lt_of_lt_of_le p3 h23), Nat.lt_of_lt_of_le p3 h23⟩
      rcases p2 with (⟨b', x', hx', hk'⟩ | p2) | p2
      · exact (hr.own b' x' k (hkH b' x' hx') hk').2.1
      · by_cases hkw : k < w.heap.size
        · exact absurd (.inl (.inl (hE k p2 hkw))) p1
        · exact .inr (Nat.le_trans hr.kept.size (by omega))
      · exact .inr (Nat.le_trans hr.kept.size (Nat.le_trans hk1.size p2))
    · rw [ownBlk_congr x (hgo' b x hx1 hn')] at hk1'
      obtain ⟨p1, p2, p3⟩ := hr.own b x k hx1 hk1'
      have hlt3 : k < w3.heap.size := Nat.lt_of_lt_of_le p3 (Nat.le_trans hk1.size (Nat.le_trans hr1.kept.size h23))
      have hno : ¬ C1.O k := fun ho => by
        rcases hO1 k ho with h | h
        · exact p1 h
        · have := hX k h; omega
      exact ⟨hno, hF1 k hno p2 hlt3, hlt3⟩
  · refine ⟨fun b hb ver v hv => ?_, fun b hb => .inl (hr.old.gm b (by rw [← hm1]; exact hb)), fun b hb => ?_, fun b x hx => ?_⟩
    · rw [hg1'] at hv; rw [hm1] at hb
      exact hext b ver v (hr.old.ge b hb ver v hv)
    · rw [hf1] at hb
      obtain ⟨h1, h2⟩ := hr.old.gx b hb
      rw [hm1, hg1']
      refine ⟨h1, ?_⟩
      have hHb : H' b = none := by
        cases hy : H' b with
        | none => rfl
        | some y => exact absurd hb (hr.old.gh b y hy)
      have hn' : hk Hl b = none := by
        cases hy : hk Hl b with
        | none => rfl
        | some y => rw [hkH b y hy] at hHb; cases hHb
      rcases hgo b hn' with h3 | h3
      · rw [h3, h2]
      · exact absurd (hr.old.gm b h1) (hnd b h3.1 h3.2)
    · rw [hf1]
      rcases hcase b x hx with ⟨_, hx1, hlt', _⟩ | ⟨_, hx1, hn'⟩
      · intro hfx
        rcases Nat.lt_or_ge b nx with h | h
        · obtain ⟨y, hy⟩ := hlow b x hx1 h
          exact hr.old.gh b y (hkH b y hy) hfx
        · exact absurd (hr.old.gm b (hr.old.gx b hfx).1) (hnd b h hlt')
      · exact hr.old.gh b x hx1
end
end Go.AL
/-
  The abstract logic: the call of yield, and the statement that ranges over a function. Conditions: the program follows the mixed orders.
-/
namespace Go.AL
open Go.RowKit
section
variable {C : Cx} {T : Nat → AV} {H : Nat → Option ABox} {D : Nat → Prop} {g : Nat → List Value} {a : Act} {w : World}
theorem old_rep (hr : Rel C T H D g a w) (h0 : ∀ b, C.m ≤ b → C.g0 b = []) {v : AV} {val : Value} (h : Rep C.w0 (fun k => C.O k ∨ C.F0 k) C.g0 v val) : Rep w (Own C.O g H) g v val := by
  refine h.later ⟨hr.kept.size, fun k hk hn => hr.kept.block k hk (fun hf => hn (.inr hf)), fun k hk ho => ?_⟩ ?_
  · rcases ho with ho | ⟨b, x, hx, hb⟩
    · exact .inl ho
    · rcases (hr.own b x k hx hb).2.1 with hf | hf
      · exact .inr hf
      · omega
  · intro b ver u hv
    by_cases hb : b < C.m
    · exact hr.old.ge b hb ver u hv
    · rw [h0 b (by omega)] at hv; simp at hv
theorem Rel.rebase (hr : Rel C T H D g a w) {C' : Cx} {w' : World} {a' : Act} (hn : C'.n = C.n) (hm : C'.m = C.m) (hg : C'.g0 = C.g0) (hf : C'.fx = C.fx) (hO : C'.O = C.O) (hd : a'.defers = C'.ds) (ht : a'.tmps = a.tmps)
    (hsz : w.heap.size ≤ w'.heap.size) (hB : ∀ k, k < w.heap.size → ¬ C.O k → w'.heap[k]? = w.heap[k]?) (hF : ∀ k, ¬ C.O k → (C.F0 k ∨ C.w0.heap.size ≤ k) → k < w'.heap.size → C'.F0 k ∨ C'.w0.heap.size ≤ k)
    (hoo : ∀ k, C'.O k → k < C'.w0.heap.size) (hK : Kept C'.w0 C'.F0 w') : Rel C' T H D g a' w' := by
  have hl : Later w (Own C.O g H) w' (Own C.O g H) := ⟨hsz, fun k hk hn' => hB k hk (fun ho => hn' (.inl ho)), fun k _ h => h⟩
  refine ⟨hd, by rw [ht, hn]; exact hr.sz, fun t => by rw [ht, hO]; exact (hr.tm t).later hl (Ext.refl g), fun b x hx => ?_, hr.fresh, hr.dom, hr.sep, fun b x k hx hk => ?_, hoo, hK, ?_⟩
  · rw [hO]
    exact (hr.bx b x hx).later hl (Ext.refl g) (fun k hk => hB k (hr.own b x k hx hk).2.2 (hr.own b x k hx hk).1) rfl
  · obtain ⟨h1, h2, h3⟩ := hr.own b x k hx hk
    have h4 := Nat.lt_of_lt_of_le h3 hsz
    exact ⟨by rw [hO]; exact h1, hF k h1 h2 h4, h4⟩
  · exact ⟨fun b hb => by rw [hm] at hb; rw [hg]; exact hr.old.ge b hb, fun b hb => by rw [hm] at hb; exact hr.old.gm b hb, fun b hb => by rw [hf] at hb; rw [hm, hg]; exact hr.old.gx b hb, fun b x hx => by rw [hf]; exact hr.old.gh b x hx⟩
end
def yRec (fn : Nat) (tm : Array Value) (p0 p1 : Nat) (asn bdy : Code) (dk : Nat) : Loop := { state := .ready, pending := none, fn, tmps := tm, params := #[p0, p1], assign := asn, body := bdy, defers := dk }
structure YC (C : Cx) (L dk fn p0 p1 : Nat) (asn bdy : Code) (tm : Array Value) (T1 : TT) : Prop where
  hL : C.w0.heap[L]? = some (.loop (yRec fn tm p0 p1 asn bdy dk))
  oL : C.O L
  fL : ¬ C.F0 L
  g0 : ∀ b, C.m ≤ b → C.g0 b = []
  rep : ∀ t, Rep C.w0 (fun k => C.O k ∨ C.F0 k) C.g0 (lk T1 t) (tm.getD t undef)
  lt : ∀ t, Lt C.m (lk T1 t)
def endQ (nx nw : Nat) (wb : HH) : Exit → TT → HH → Nat → Prop
  | .normal, _, H, nx' => nx' ≤ nx + nw ∧ HSub H wb
  | _, _, _, _ => False
theorem put2 (tm : Array Value) (p0 p1 : Nat) (x0 x1 : Value) : ((#[p0, p1].zip #[x0, x1]).foldl (fun t (x : Nat × Value) => t.setIfInBounds x.1 x.2) tm) = (tm.setIfInBounds p0 x0).setIfInBounds p1 x1 := by simp
theorem yield_round {C : Cx} {L dk fn p0 p1 : Nat} {asn bdy : Code} {tm : Array Value} {T1 : TT} (hY : YC C L dk fn p0 p1 asn bdy tm T1) {T2 : Nat → AV} {H2 : Nat → Option ABox} {D2 : Nat → Prop} {g2 : Nat → List Value} {a2 : Act} {w2 : World} (hr : Rel C T2 H2 D2 g2 a2 w2)
    {Hl : HH} {nx nw : Nat} {wb : HH} {v0 v1 : AV} {x0 x1 : Value} (h0 : Rep w2 (Own C.O g2 H2) g2 v0 x0) (h1 : Rep w2 (Own C.O g2 H2) g2 v1 x1) (hHl : ∀ p ∈ Hl, p.1 < nx ∧ bLt0 nx p.2) (hkH : ∀ b x, hk Hl b = some x → H2 b = some x) (hl0 : Lt nx v0) (hl1 : Lt nx v1) (hm : C.m ≤ nx)
    (hnew : ∀ i, i < nw → ¬ D2 (nx + i)) (hwl : ∀ p ∈ wb, p.1 < nx + nw ∧ bLt0 (nx + nw) p.2) (hko : keysOk wb = true) (hkeep : ∀ p ∈ Hl, p.1 ∈ wb.map (·.1)) (hok : okR asn = true) (hob : okR bdy = true) (hp0 : p0 < tm.size) (hp1 : p1 < tm.size)
    (h : acode C.P tm.size (.seq asn bdy) ((p1, v1) :: (p0, v0) :: T1) Hl nx (endQ nx nw wb)) :
    (Instr.yield L #[x0, x1]).run C.P w2 = .ok (.round L fn ((tm.setIfInBounds p0 x0).setIfInBounds p1 x1) asn bdy) w2 ∧
    RoundIn Fence.wide 0 C.P L fn ((tm.setIfInBounds p0 x0).setIfInBounds p1 x1) asn bdy w2 fun e w3 => e = .returned (.bool true) ∧ ∃ g3, Rel C T2 (updL H2 wb) (fun c => D2 c ∨ (nx ≤ c ∧ c < nx + nw)) g3 a2 w3 := by
  have hLlt : L < C.w0.heap.size := (Array.getElem?_eq_some_iff.1 hY.hL).1
  have hLw : w2.heap[L]? = some (.loop (yRec fn tm p0 p1 asn bdy dk)) := (hr.kept.block L hLlt hY.fL).trans hY.hL
  have hLlt2 : L < w2.heap.size := (Array.getElem?_eq_some_iff.1 hLw).1
  have hnoL : ∀ b x, hk Hl b = some x → ownBlk g2 b x ≠ some L := fun b x hx ho => (hr.own b x L (hkH b x hx) ho).1 hY.oL
  refine ⟨?_, ?_⟩
  · rw [run_yield hLw rfl]
    unfold yRec
    simp only [put2]
  · refine roundIn_of_wpIn trivial ?_
    generalize hC3 : inCx C tm.size w2 g2 H2 Hl nx (fun _ => False) (fun _ => False) = C3
    have hrel := in_rel (n := tm.size) (X := fun _ => False) (E := fun _ => False) hr hHl hkH (Kept.refl w2 _) (fun _ h => h.elim) (T3 := (p1, v1) :: (p0, v0) :: T1) (a3 := { tmps := (tm.setIfInBounds p0 x0).setIfInBounds p1 x1, defers := [] }) rfl (by simp) (fun t => by
        simp only [lk]
        rw [Array.getD_eq_getD_getElem?, Array.getElem?_setIfInBounds]
        by_cases ht1 : t = p1
        · subst ht1
          rw [if_pos rfl, if_pos rfl, if_pos (by simpa using hp1)]
          exact h1
        · rw [if_neg ht1, if_neg (show ¬ p1 = t from fun e => ht1 e.symm), Array.getElem?_setIfInBounds]
          by_cases ht0 : t = p0
          · subst ht0
            rw [if_pos rfl, if_pos rfl, if_pos hp0]
            exact h0
          · rw [if_neg ht0, if_neg (show ¬ p0 = t from fun e => ht0 e.symm), ← Array.getD_eq_getD_getElem?]
            exact old_rep hr hY.g0 (hY.rep t)) (fun t => by
        simp only [lk]
        split
        · exact hl1
        · split
          · exact hl0
          · exact (hY.lt t).mono hm)
    have hP3 : C3.P = C.P := by rw [← hC3]; rfl
    have hn3 : C3.n = tm.size := by rw [← hC3]; rfl
    have hO3 : C3.O L := by rw [← hC3]; exact .inl (.inl hY.oL)
    have hF3 : ¬ C3.F0 L := by
      rw [← hC3]
      rintro (⟨b, x, hx, ho⟩ | hf)
      · exact hnoL b x hx ho
      · exact hf
    have hw3 : C3.w0 = w2 := by rw [← hC3]; rfl
    rw [hC3] at hrel
    refine wpIn_mono (acodeR_sound (n := 0) (ro := some L) asn _ _ _ _ hok h C3 _ _ w2 hP3 hn3 hrel) ?_
    rintro e a4 w4 ⟨T4, H4, nx4, g4, hq, hr4⟩
    cases e with
    | normal =>
      have hL4 : w4.heap[L]? = some (.loop (yRec fn tm p0 p1 asn bdy dk)) := (hr4.kept.block L (by rw [hw3]; exact hLlt2) hF3).trans (by rw [hw3]; exact hLw)
      have hLlt4 : L < w4.heap.size := (Array.getElem?_eq_some_iff.1 hL4).1
      refine ⟨_, run_beginRound hL4 rfl, ?_⟩
      generalize hw5 : w4.putObj L (.loop { yRec fn tm p0 p1 asn bdy dk with state := .busy }) = w5
      have hsz5 : w5.heap.size = w4.heap.size := by rw [← hw5]; simp [World.putObj]
      have hoth5 : ∀ k, k ≠ L → w5.heap[k]? = w4.heap[k]? := fun k hk => by rw [← hw5]; exact World.putObj_heap_other hk
      have hr5 := hr4.rebase (C' := { C3 with w0 := w5, F0 := fun k => C3.F0 k ∨ (C3.w0.heap.size ≤ k) }) (w' := w5) (a' := a4) rfl rfl rfl rfl rfl hr4.df rfl (by omega) (fun k _ hn => hoth5 k (fun e => hn (e ▸ hO3)))
        (fun k _ h _ => .inl h) (fun k hk => Nat.lt_of_lt_of_le (hr4.oo k hk) (by rw [hsz5]; exact hr4.kept.size)) (Kept.refl w5 _)
      refine wpIn_mono (acodeR_sound (n := 0) (ro := some L) bdy _ _ _ _ hob hq { C3 with w0 := w5, F0 := fun k => C3.F0 k ∨ (C3.w0.heap.size ≤ k) } _ _ w5 hP3 hn3 hr5) ?_
      rintro e a6 w6 ⟨T6, H6, nx6, g6, hq6, hr6⟩
      cases e with
      | normal =>
        obtain ⟨hq6, hs6⟩ := hq6
        have hF5 : ¬ (C3.F0 L ∨ C3.w0.heap.size ≤ L) := by
          rintro (hf | hf)
          · exact hF3 hf
          · rw [hw3] at hf; omega
        have hL5 : w5.heap[L]? = some (.loop { yRec fn tm p0 p1 asn bdy dk with state := .busy }) := by rw [← hw5]; exact World.putObj_heap_same hLlt4
        have hL6 : w6.heap[L]? = some (.loop { yRec fn tm p0 p1 asn bdy dk with state := .busy }) := (hr6.kept.block L (by show L < w5.heap.size; omega) hF5).trans hL5
        have hLlt6 : L < w6.heap.size := (Array.getElem?_eq_some_iff.1 hL6).1
        refine ⟨_, _, run_endRound none hL6, rfl, ?_⟩
        generalize hw7 : w6.putObj L _ = w7
        have hsz7 : w7.heap.size = w6.heap.size := by rw [← hw7]; simp [World.putObj]
        have hoth7 : ∀ k, k ≠ L → w7.heap[k]? = w6.heap[k]? := fun k hk => by rw [← hw7]; exact World.putObj_heap_other hk
        have hL7 : w7.heap[L]? = some (.loop (yRec fn tm p0 p1 asn bdy dk)) := by rw [← hw7]; exact World.putObj_heap_same hLlt6
        have hos : w7.os = w2.os ∧ w7.tape = w2.tape ∧ w7.output = w2.output ∧ w2.drawn ≤ w7.drawn := by
          have k4 := hr4.kept; have k6 := hr6.kept
          rw [hw3] at k4
          have e1 : w7.os = w6.os := by rw [← hw7]; rfl
          have e2 : w7.tape = w6.tape := by rw [← hw7]; rfl
          have e3 : w7.output = w6.output := by rw [← hw7]; rfl
          have e4 : w7.drawn = w6.drawn := by rw [← hw7]; rfl
          have f1 : w5.os = w4.os := by rw [← hw5]; rfl
          have f2 : w5.tape = w4.tape := by rw [← hw5]; rfl
          have f3 : w5.output = w4.output := by rw [← hw5]; rfl
          have f4 : w5.drawn = w4.drawn := by rw [← hw5]; rfl
          have g1 : w6.os = w5.os := k6.os
          have g2' : w6.tape = w5.tape := k6.tape
          have g3 : w6.output = w5.output := k6.output
          have g4' : w5.drawn ≤ w6.drawn := k6.drawn
          refine ⟨by rw [e1, g1, f1, k4.os], by rw [e2, g2', f2, k4.tape], by rw [e3, g3, f3, k4.output], ?_⟩
          have := k4.drawn
          omega
        have hk7 : ∀ k, k < w2.heap.size → ¬ C3.F0 k → w7.heap[k]? = w2.heap[k]? := by
          intro k hk hf
          by_cases hkL : k = L
          · subst hkL; rw [hL7, hLw]
          · rw [hoth7 k hkL]
            have e1 : w6.heap[k]? = w5.heap[k]? := hr6.kept.block k (by show k < w5.heap.size; have := hr4.kept.size; rw [hw3] at this; omega) (by
              rintro (h | h)
              · exact hf h
              · rw [hw3] at h; omega)
            have e2 : w4.heap[k]? = w2.heap[k]? := by have := hr4.kept.block k (by rw [hw3]; exact hk) hf; rw [hw3] at this; exact this
            rw [e1, hoth5 k hkL, e2]
        have hsz27 : w2.heap.size ≤ w7.heap.size := by
          have h1 := hr4.kept.size; rw [hw3] at h1
          have h2 : w5.heap.size ≤ w6.heap.size := hr6.kept.size
          omega
        have hr7 := hr6.rebase (C' := C3) (w' := w7) (a' := a6) rfl rfl rfl rfl rfl hr6.df rfl (by omega) (fun k _ hn => hoth7 k (fun e => hn (e ▸ hO3)))
          (fun k _ h _ => by
            rcases h with (h | h) | h
            · exact .inl h
            · exact .inr h
            · right
              have h' : w5.heap.size ≤ k := h
              rw [hw3]
              have h1 := hr4.kept.size; rw [hw3] at h1
              omega) hrel.oo (by rw [hw3]; exact ⟨hos.1, hos.2.1, hos.2.2.1, hsz27, hk7, hos.2.2.2⟩)
        rw [← hC3] at hr7
        obtain ⟨g3, _, hr8⟩ := out_rel (X := fun _ => False) (E := fun _ => False) (C1 := C) (a1 := a2) (w3 := w7) hr hHl hkH hnew hwl hko hkeep (fun _ h => h.elim) (Kept.refl w2 _) hr7 hs6 hq6 (Nat.le_refl _) (fun _ _ _ => rfl)
          (fun k hk hn => hk7 k hk (by
            rw [← hC3]
            rintro (⟨b, x, hx, ho⟩ | hf)
            · exact hn b x hx ho
            · exact hf)) (fun k h => h.elim) rfl rfl rfl rfl hr.df rfl (fun k h => .inl h) hr.oo (fun k _ h _ => h) (by
            refine hr.kept.trans (F' := C3.F0) ⟨hos.1, hos.2.1, hos.2.2.1, hsz27, hk7, hos.2.2.2⟩ (fun k hk hf => ?_)
            rw [← hC3] at hf
            rcases hf with ⟨b, x, hx, ho⟩ | hf
            · rcases (hr.own b x k (hkH b x hx) ho).2.1 with h | h
              · exact h
              · omega
            · exact hf.elim)
        exact ⟨g3, hr8⟩
      | _ => exact hq6.elim
    | _ => exact hq.elim
end Go.AL
/-
  The abstract logic: the function that yields, walked in its place; the statement that ranges over it; a function that holds such a statement. Conditions: the program follows the mixed orders.
-/
namespace Go.AL
open Go.RowKit
def TrY (P : Program) (n : Nat) (Y : Cx → Prop) (c : Code) (T : TT) (H : HH) (nx : Nat) (Q : Exit → TT → HH → Nat → Prop) : Prop :=
  ∀ (C : Cx) (g : Nat → List Value) (a : Act) (w : World), C.P = P → C.n = n → Y C → Rel C (lk T) (hk H) (fun c => c < nx) g a w →
    c.wp P (fun e a' w' => ∃ T' H' nx' g', Q e T' H' nx' ∧ Rel C (lk T') (hk H') (fun c => c < nx') g' a' w') a w
def KTrY (P : Program) (n : Nat) (Y : Cx → Prop) (c : Code) (Q : Exit → TT → HH → Nat → Prop) (T : TT) (H : HH) (nx : Nat) : Prop := TrY P n Y c T H nx Q
section
variable {P : Program} {n : Nat} {Y : Cx → Prop} {T : TT} {H : HH} {nx : Nat} {Q : Exit → TT → HH → Nat → Prop}
theorem try_ac (hm : P.follows .mixedOrders = true) {c : Code} (h : acode P n c T H nx Q) : TrY P n Y c T H nx Q := fun C g a w hP hn _ hr => acode_sound hm c _ _ _ _ h C g a w hP hn hr
theorem ktry_go {c : Code} (h : TrY P n Y c T H nx Q) : KTrY P n Y c Q T H nx := h
theorem try_seqt {x y : Code} (h : TrY P n Y x T H nx (nextQ (KTrY P n Y y Q) Q)) : TrY P n Y (.seq x y) T H nx Q := by
  intro C g a w hP hn hY hr
  refine wp_seq (wp_mono (h C g a w hP hn hY hr) ?_)
  rintro e a' w' ⟨T', H', nx', g', hq, hr'⟩
  cases e with
  | normal => exact hq C g' a' w' hP hn hY hr'
  | _ => exact ⟨T', H', nx', g', hq, hr'⟩
theorem try_seqc (hm : P.follows .mixedOrders = true) {x y : Code} (h : acode P n x T H nx (nextQ (KTrY P n Y y Q) Q)) : TrY P n Y (.seq x y) T H nx Q := try_seqt (try_ac hm h)
theorem try_block {id : Nat} {c : Code} (h : TrY P n Y c T H nx (QBlk id Q)) : TrY P n Y (.block id c) T H nx Q := by
  intro C g a w hP hn hY hr
  refine wp_block (wp_mono (h C g a w hP hn hY hr) ?_)
  rintro e a' w' ⟨T', H', nx', g', hq, hr'⟩
  unfold QBlk at hq
  cases e with
  | exit id' =>
    simp only [inB] at hq
    unfold Exit.inBlock
    by_cases hid : id' = id
    · rw [if_pos hid] at hq; simp only [hid, if_true]; exact ⟨T', H', nx', g', hq, hr'⟩
    · rw [if_neg hid] at hq; simp only [hid, if_false]; exact ⟨T', H', nx', g', hq, hr'⟩
  | _ => exact ⟨T', H', nx', g', hq, hr'⟩
theorem try_loop {X : Type} (ST : X → TT) (SH : X → HH) (N : Nat) (μ : X → Nat) (x0 : X) {body : Code}
    (hstart : Wk T H nx (ST x0) (SH x0) N) (round : ∀ x, TrY P n Y body (ST x) (SH x) N (nextQ (fun T' H' nx' => ∃ x', μ x' < μ x ∧ Wk T' H' nx' (ST x') (SH x') N) Q)) (hN : nx ≤ N) : TrY P n Y (.loop body) T H nx Q := by
  intro C g a w hP hn hY hr
  have hmN : C.m ≤ N := by
    rcases Nat.lt_or_ge N C.m with h | h
    · have := hr.old.gm N h
      omega
    · exact h
  obtain ⟨g0, hr0⟩ := hstart C g a w hmN hr
  have key : ∀ (m : Nat) (x : X) (g : Nat → List Value) (a : Act) (w : World), μ x = m → Rel C (lk (ST x)) (hk (SH x)) (fun c => c < N) g a w →
      ∀ (b : Frame) (k : List Item) (cs : List Frame), ∃ e a' w', (∃ T' H' nx' g', Q e T' H' nx' ∧ Rel C (lk T') (hk H') (fun c => c < nx') g' a' w') ∧
        Arrives P (lone (b.at a (.code body :: .inLoop body :: k)) cs w) b k cs e a' w' := by
    intro m
    induction m using Nat.strongRecOn with
    | _ m ih =>
      intro x g a w hx hr b k cs
      obtain ⟨e, a₁, w₁, ⟨T', H', nx', g', hq, hr'⟩, harr⟩ := round x C g a w hP hn hY hr b (.inLoop body :: k) cs
      cases e with
      | normal =>
        obtain ⟨x', hlt, hwk⟩ := hq
        obtain ⟨g'', hr''⟩ := hwk C g' a₁ w₁ hmN hr'
        obtain ⟨e₂, a₂, w₂, hq₂, harr₂⟩ := ih (μ x') (hx ▸ hlt) x' g'' a₁ w₁ rfl hr'' b k cs
        exact ⟨e₂, a₂, w₂, hq₂, .of_steps (Steps.trans harr (.one step_inLoop)) harr₂⟩
      | exit id => exact ⟨_, a₁, w₁, ⟨T', H', nx', g', hq, hr'⟩, .pass (x := .inLoop body) rfl (fun _ _ => .inl (by simp)) harr⟩
      | goto l => exact ⟨_, a₁, w₁, ⟨T', H', nx', g', hq, hr'⟩, .pass (x := .inLoop body) rfl (fun _ _ => .inl (by simp)) harr⟩
      | ret => exact ⟨_, a₁, w₁, ⟨T', H', nx', g', hq, hr'⟩, .pass (x := .inLoop body) rfl (fun _ _ => .inl (by simp)) harr⟩
      | panic ch => exact ⟨_, a₁, w₁, ⟨T', H', nx', g', hq, hr'⟩, .pass (x := .inLoop body) rfl (fun _ _ => .inl (by simp)) harr⟩
      | outgrown => exact ⟨_, a₁, w₁, ⟨T', H', nx', g', hq, hr'⟩, .pass (x := .inLoop body) rfl (fun _ _ => .inl (by simp)) harr⟩
  intro b k cs
  obtain ⟨e, a', w', hq, harr⟩ := key (μ x0) x0 g0 a w rfl hr0 b k cs
  exact ⟨e, a', w', hq, .of_steps (.one step_loop) harr⟩
theorem try_lp {X : Type} (ks bs : List Nat) (ch : X → TT) (chH : X → HH) (μ : X → Nat) (x0 : X) {body : Code}
    (h0 : TWk T nx (ch x0 ++ selT T ks)) (h1 : HWk H nx (chH x0 ++ selH H bs))
    (round : ∀ x, TrY P n Y body (ch x ++ selT T ks) (chH x ++ selH H bs) nx (nextQ (fun T' H' nx' => ∃ x', μ x' < μ x ∧ Wk T' H' nx' (ch x' ++ selT T ks) (chH x' ++ selH H bs) nx) Q)) : TrY P n Y (.loop body) T H nx Q :=
  try_loop (fun x => ch x ++ selT T ks) (fun x => chH x ++ selH H bs) nx μ x0 (wk_go (Nat.le_refl _) h0 h1) round (Nat.le_refl _)
def KYl (P : Program) (n L p0 p1 ms : Nat) (asn bdy : Code) (T1 : TT) (ds : List (Option Nat)) (f x y : Operand) (d : Option Nat) (post : List Oper) (Q : Exit → TT → HH → Nat → Prop) (T : TT) (H : HH) (nx : Nat) (_ : List FP) : Prop :=
  ∃ (wb : HH) (e : Nat), evO (lk T) f = .sc (.func (.yield L) #[] #[]) ∧ (evO (lk T) x).cond = true ∧ (evO (lk T) y).cond = true ∧ nx ≤ e ∧ Lt nx (ev (lk T) x) ∧ Lt nx (ev (lk T) y) ∧ HBs nx H ∧ HBs e wb ∧ keysOk wb = true ∧ keepB H wb = true ∧
    acode P ms (.seq asn bdy) ((p1, ev (lk T) y) :: (p0, ev (lk T) x) :: T1) H nx (endQ nx (e - nx) wb) ∧
    arun P n ds post (setT n T d (.sc (.bool true))) (hputs H wb) e [] fun T' H' nx' _ => Q .normal T' H' nx'
theorem keepB_spec {Hl wb : HH} (h : keepB Hl wb = true) : ∀ p ∈ Hl, p.1 ∈ wb.map (·.1) := by
  intro p hp
  have := List.all_eq_true.1 h p hp
  simpa using this
theorem try_y {L dk fn p0 p1 : Nat} {asn bdy : Code} {tm : Array Value} {T1 : TT} {id : Nat} {ops : Array Oper} (k : Nat) {oy : Oper} {f x y : Operand} {ats : Array TypeId} (hk0 : ops.toList[k]? = some oy) (hoy : oy.op = .call { callee := .value f, args := #[x, y], argTypes := ats }) (hgy : oy.guard = none)
    (hok : okR asn = true) (hob : okR bdy = true) (hp0 : p0 < tm.size) (hp1 : p1 < tm.size) (hnd : ops.toList.all nodef = true)
    (h : arun P n (ops.toList.map (·.dst)) (ops.toList.take k) T H nx [] (KYl P n L p0 p1 tm.size asn bdy T1 (ops.toList.map (·.dst)) f x y oy.dst (ops.toList.drop (k + 1)) Q)) :
    TrY P n (fun C => YC C L dk fn p0 p1 asn bdy tm T1) (.region id ops false) T H nx Q := by
  intro C g a w hP hn hY hr
  subst hP; subst hn
  obtain ⟨rs, hl, hc, wb, e, hf, hx, hy, hne, hlx, hly, hbH, hbW, hko, hkp, hw, hK⟩ := arun_chain _ _ _ _ _ h
  obtain ⟨rs2, hl2, hc2, hK2⟩ := arun_chain _ _ _ _ _ hK
  have hklt : k < ops.size := by
    have := (List.getElem?_eq_some_iff.1 hk0).1
    simpa using this
  have hlen : (ops.toList.take k).length = k := by rw [List.length_take]; simp; omega
  refine (wpIn_wide (n := 0)).1 (wpIn_region ?_)
  have hsplit : List.range ops.size = List.range' 0 (ops.toList.take k).length ++ (k :: List.range' (k + 1) (ops.toList.drop (k + 1)).length) := by
    rw [hlen, List.length_drop, Array.length_toList, List.range_eq_range']
    have h1 : k :: List.range' (k + 1) (ops.size - (k + 1)) = List.range' (0 + k) (ops.size - k) := by
      rw [show ops.size - k = (ops.size - (k + 1)) + 1 by omega, List.range'_succ, Nat.zero_add]
    rw [h1]
    have h2 := List.range'_append (s := 0) (m := k) (n := ops.size - k) (step := 1)
    rw [Nat.one_mul] at h2
    rw [h2]; congr 1; omega
  rw [hsplit]
  have hall : ∀ o ∈ ops.toList, nodef o = true := List.all_eq_true.1 hnd
  refine chain_in (ro := none) _ rs T H nx 0 g a w hc (fun j o hj => ?_) hr fun g1 a1 w1 hr1 => ?_
  · have hj' : ops.toList[j]? = some o := by
      rw [List.getElem?_take] at hj
      split at hj
      · exact hj
      · cases hj
    rw [Nat.zero_add, ← Array.getElem?_toList]
    exact ⟨hj', hall o (List.mem_of_getElem? hj')⟩
  · -- the call of yield
    have hT := hr1.evO
    have rf := hT f
    rw [hf] at rf
    have hfv := rf.sc_inv
    have r0 := hr1.ev x hx
    have r1 := hr1.ev y hy
    have hm : C.m ≤ endN rs nx := by
      rcases Nat.lt_or_ge (endN rs nx) C.m with h | h
      · have := hr1.old.gm _ h; omega
      · exact h
    obtain ⟨hy1, hy2⟩ := yield_round hY hr1 (nw := e - endN rs nx) (wb := wb) r0 r1 hbH.all (fun _ _ h => h) hlx hly hm (fun i _ hd => by omega) (by rw [show endN rs nx + (e - endN rs nx) = e by omega]; exact hbW.all) hko (keepB_spec hkp) hok hob hp0 hp1 hw
    have hok0 : ops[k]? = some oy := by rw [← Array.getElem?_toList]; exact hk0
    simp only [wpOpsIn, hok0]
    rw [if_pos (by simp [Region.wanted, hgy])]
    refine ⟨fun _ _ => trivial, ?_⟩
    have hrun : (oy.semAt (fen none).round a1.eval).run C.P w1 = .ok (.round L fn ((tm.setIfInBounds p0 (a1.eval x)).setIfInBounds p1 (a1.eval y)) asn bdy) w1 := by
      show (execOp a1.eval oy).run C.P w1 = _
      unfold execOp
      simp only [hoy, resolve, Sem.run_bind, Sem.run_pure, Result.andThen_ok, hfv, Deferred.ofValue, invoke]
      simpa using hy1
    rw [hrun]
    refine ⟨fun hd => (by cases hd), hy2.mono ?_⟩
    rintro e3 w3 ⟨rfl, g3, hr3⟩
    have hr4 := (hr3.dmono (D' := fun c => c < e) (fun b hb => by omega)).put oy.dst (v := .sc (.bool true)) (.sc _)
    rw [← lk_setT, ← hk_hputs] at hr4
    have := chain_in (ro := none) (n := 0) (Q := fun e a' w' => ∃ T' H' nx' g', Q e T' H' nx' ∧ Rel C (lk T') (hk H') (fun c => c < nx') g' a' w') (rest := []) (ops.toList.drop (k + 1)) rs2 _ _ e (k + 1) g3 _ w3 hc2 (fun j o hj => by
      rw [List.getElem?_drop] at hj
      rw [← Array.getElem?_toList]
      exact ⟨hj, hall o (List.mem_of_getElem? hj)⟩) hr4 (fun g5 a5 w5 hr5 => ⟨_, _, _, g5, hK2, hr5⟩)
    rw [List.append_nil] at this
    exact this
end
end Go.AL
/-
  The abstract logic: the statement that ranges over a function, and a function that holds one. Conditions: the program follows the mixed orders.
-/
namespace Go.AL
open Go.RowKit
def retY (e : Nat) (wb : HH) : Exit → TT → HH → Nat → Prop
  | .normal, _, H, nx' | .ret, _, H, nx' => nx' ≤ e ∧ HSub H wb
  | _, _, _, _ => False
theorem lts_lk {N : Nat} : ∀ {T : TT}, Lts N (T.map (·.2)) → ∀ t, Lt N (lk T t)
  | [], _, t => Lt.und
  | (k, v) :: r, h, t => by
    cases h with
    | cons h1 h2 =>
      simp only [lk]
      split
      · exact h1
      · exact lts_lk h2 t
abbrev mark (dk : Nat) : Deferred := { target := .collected dk, args := #[] }
theorem range_wp {C : Cx} (hds : C.ds = []) {T : TT} {H : HH} {nx : Nat} {g : Nat → List Value} {a : Act} {w : World} (hr : Rel C (lk T) (hk H) (fun c => c < nx) g a w) {gop : Operand} {p0 p1 f : Nat} {asn bdy c : Code} {fn : Func} {cap : List AV} {n e : Nat} {wb : HH}
    (hg : evO (lk T) gop = .clo f cap) (hf : C.P.funcs[f]? = some fn) (hb : fn.body = some c) (he : entB C.P f = true) (hnt : fn.ntmps = n) (hrs : fn.results.toList = []) (hle : cap.length + 1 ≤ n)
    (hT : Lts nx (T.map (·.2))) (hcap : Lts nx cap) (hH : HBs nx H) (hW : HBs e wb) (hko : keysOk wb = true) (hkp : keepB H wb = true) (hne : nx ≤ e)
    (hwalk : ∀ L dk fnn (tm : Array Value), tm.size = C.n → TrY C.P n (fun C2 => YC C2 L dk fnn p0 p1 asn bdy tm T) c (argT (.sc (Value.func (Fn.yield L) #[] #[]) :: cap) 0) H nx (retY e wb))
    {Q : Exit → Act → World → Prop}
    (hQ : ∀ (C1 : Cx) (dk : Nat) (g1 : Nat → List Value) (w1 : World), C1.P = C.P → C1.n = C.n → C1.ds = [mark dk] → (∀ k, C.O k → C1.O k) → C1.O dk → ¬ C1.F0 dk → C1.w0.heap[dk]? = some (.deferred (some [])) → C.w0.heap.size ≤ dk → Kept C.w0 C.F0 C1.w0 →
      (∀ k, C1.F0 k → C.F0 k ∨ C.w0.heap.size ≤ k) → Rel C1 (lk T) (hk (hputs H wb)) (fun c => c < e) g1 { tmps := a.tmps, defers := [mark dk] } w1 → Q .normal { tmps := a.tmps, defers := [mark dk] } w1) :
    (Code.rangeFunc gop #[p0, p1] asn bdy).wp C.P Q a w := by
  have had : a.defers = [] := hr.df.trans hds
  have rg := hr.evO gop
  rw [hg] at rg
  obtain ⟨cvs, hgv, hcl, hcr⟩ := rg.clo_inv
  refine (wpIn_wide (n := 0)).1 (wpIn_rangeFunc ?_)
  intro fnn _
  obtain ⟨w1, hw1⟩ : ∃ w1, (w.alloc (.deferred (some []))).alloc (.loop { state := .ready, pending := none, fn := fnn, tmps := a.tmps, params := #[p0, p1], assign := asn, body := bdy, defers := w.heap.size }) = w1 := ⟨_, rfl⟩
  have hsz1 : w1.heap.size = w.heap.size + 2 := by rw [← hw1]; simp
  have hL1 : w1.heap[w.heap.size + 1]? = some (.loop (yRec fnn a.tmps p0 p1 asn bdy w.heap.size)) := by
    rw [← hw1]
    have h1 := World.alloc_heap_new (w.alloc (.deferred (some []))) (.loop (yRec fnn a.tmps p0 p1 asn bdy w.heap.size))
    rw [World.size_alloc] at h1
    exact h1
  have hD1 : w1.heap[w.heap.size]? = some (.deferred (some [])) := by
    rw [← hw1]; exact (Below.heap_alloc _ _ _ (by simp)).trans (World.alloc_heap_new w _)
  have hk1 : Kept w (fun _ => False) w1 := by
    rw [← hw1]
    exact ⟨rfl, rfl, rfl, by simp; omega, fun k hk _ => (Below.heap_alloc _ _ k (by simp; omega)).trans (Below.heap_alloc w _ k hk), Nat.le_refl _⟩
  have eg : ∀ args W, (callFunc f args).run C.P W = .ok (.enter f args) W := fun args W => run_callFunc he args W
  refine ⟨w.heap.size + 1, [{ target := .collected w.heap.size, args := #[] }], w1, { target := .fn (.func f) cvs, args := #[Value.func (Fn.yield (w.heap.size + 1)) #[] #[]] }, w1, f, #[Value.func (Fn.yield (w.heap.size + 1)) #[] #[]] ++ cvs, w1, ?_, ?_, fun _ _ => trivial, ?_, fun hd => (by cases hd), callsIn_wide.2 ?_⟩
  · rw [← hw1]; exact run_enterLoop_outer _ _ _ _ _
  · simp only [resolve, hgv]
    simp [go_sem]
  · simp [invoke, go_sem, eg]
  · refine calls_of_wp hf hb ?_
    rw [hnt]
    generalize hX : (fun k => k = w.heap.size ∨ k = w.heap.size + 1) = X
    have hXi : ∀ k, X k ↔ k = w.heap.size ∨ k = w.heap.size + 1 := fun k => by rw [← hX]
    have hXb : ∀ k, X k → w.heap.size ≤ k ∧ k < w1.heap.size := fun k hk => by rcases (hXi k).1 hk with h | h <;> omega
    have hTl := lts_lk hT
    have hown : ∀ b x k, hk H b = some x → ownBlk g b x = some k → k < w.heap.size := fun b x k hx hb => (hr.own b x k hx hb).2.2
    have hrel := in_rel (n := n) (X := X) (E := fun _ => False) hr hH.all (fun _ _ h => h) hk1 hXb (T3 := argT (.sc (Value.func (Fn.yield (w.heap.size + 1)) #[] #[]) :: cap) 0)
      (a3 := { tmps := #[Value.func (Fn.yield (w.heap.size + 1)) #[] #[]] ++ cvs ++ Array.replicate (n - (#[Value.func (Fn.yield (w.heap.size + 1)) #[] #[]] ++ cvs).size) undef, defers := [] }) rfl (by simp [hcl]; omega)
      (fun t => by
        rw [lk_argT, if_pos (Nat.zero_le t), Nat.sub_zero]
        by_cases ht : t < cap.length + 1
        · have e1 : (#[Value.func (Fn.yield (w.heap.size + 1)) #[] #[]] ++ cvs ++ Array.replicate (n - (#[Value.func (Fn.yield (w.heap.size + 1)) #[] #[]] ++ cvs).size) undef).getD t undef = (#[Value.func (Fn.yield (w.heap.size + 1)) #[] #[]] ++ cvs).getD t undef := by
            rw [Array.getD_eq_getD_getElem?, Array.getElem?_append_left (by simp [hcl]; omega), Array.getD_eq_getD_getElem?]
          rw [e1]
          cases t with
          | zero =>
            rw [Array.getD_eq_getD_getElem?, Array.getElem?_append_left (by simp)]
            exact .sc _
          | succ t =>
            have e2 : (#[Value.func (Fn.yield (w.heap.size + 1)) #[] #[]] ++ cvs).getD (t + 1) undef = cvs.getD t undef := by
              rw [Array.getD_eq_getD_getElem?, Array.getElem?_append_right (by simp), Array.getD_eq_getD_getElem?]; simp
            rw [e2]
            exact hcr t (by omega)
        · rw [List.getD_eq_getElem?_getD, List.getElem?_eq_none (by simp; omega)]; exact .und _)
      (fun t => by
        rw [lk_argT, if_pos (Nat.zero_le t), Nat.sub_zero]
        cases t with
        | zero => exact .sc _
        | succ t =>
          by_cases ht : t < cap.length
          · exact hcap.all _ (by rw [List.getD_cons_succ]; exact getD_mem ht)
          · rw [List.getD_cons_succ, List.getD_eq_getElem?_getD, List.getElem?_eq_none (by omega)]; exact .und)
    have hl : Later w (Own C.O g (hk H)) w1 (fun k => Own C.O g (hk H) k ∨ X k) := ⟨hk1.size, fun k hk _ => hk1.block k hk id, fun k hk ho => by
      rcases ho with ho | ho
      · exact ho
      · have := (hXb k ho).1; omega⟩
    generalize hC2 : inCx C n w1 g (hk H) H nx X (fun _ => False) = C2 at hrel
    have hP2 : C2.P = C.P := by rw [← hC2]; rfl
    have hn2 : C2.n = n := by rw [← hC2]; rfl
    have hw2 : C2.w0 = w1 := by rw [← hC2]; rfl
    have hF2 : ∀ k, w.heap.size ≤ k → ¬ C2.F0 k := by
      intro k hk
      rw [← hC2]
      rintro (⟨b, x, hx, ho⟩ | hf)
      · have := hown b x k hx ho; omega
      · exact hf
    have hOX : ∀ k, X k → C2.O k := fun k hk => by rw [← hC2]; exact .inl (.inr hk)
    have hY : YC C2 (w.heap.size + 1) w.heap.size fnn p0 p1 asn bdy a.tmps T := by
      refine ⟨by rw [hw2]; exact hL1, hOX _ ((hXi _).2 (.inr rfl)), hF2 _ (by omega), fun b hb => ?_, fun t => ?_, fun t => ?_⟩
      · rw [← hC2] at hb ⊢
        have hb' : ¬ b < nx := by have : nx ≤ b := hb; omega
        exact if_neg hb'
      · rw [hw2]
        have h1 := ((hr.tm t).later hl (Ext.refl g)).reset (g' := fun b => if b < nx then g b else []) (fun b hb => if_pos hb) (hTl t)
        have hg2 : C2.g0 = fun b => if b < nx then g b else [] := by rw [← hC2]; rfl
        rw [hg2]
        refine h1.sub fun k hk => ?_
        rw [← hC2] at hk
        rcases hk with ((hk | hk) | ⟨b, x, hx, hn, hk⟩) | (⟨b, x, hx, hk⟩ | hk)
        · exact .inl (.inl hk)
        · exact .inr hk
        · exact .inl (.inr ⟨b, x, hx, hk⟩)
        · exact .inl (.inr ⟨b, x, hx, hk⟩)
        · exact hk.elim
      · have hm2 : C2.m = nx := by rw [← hC2]; rfl
        rw [hm2]; exact hTl t
    have hw' := hwalk (w.heap.size + 1) w.heap.size fnn a.tmps hr.sz
    rw [← hP2] at hw' ⊢
    refine wp_mono (hw' C2 _ _ w1 rfl hn2 hY hrel) ?_
    rintro ex a' w' ⟨T1, H1, nx1, g2, hq, hr1⟩
    have fin : (nx1 ≤ e ∧ HSub H1 wb) → a'.defers = [] ∧ ∃ v, (results fn a'.tmps).run C2.P w' = .ok v w' ∧ rangePost Fence.wide 0 C2.P (w.heap.size + 1) Q { a with defers := [{ target := .collected w.heap.size, args := #[] }] ++ a.defers } (.returned v) w' := by
      rintro ⟨h1, h2⟩
      have hds2 : C2.ds = [] := by rw [← hC2]; rfl
      obtain ⟨v, hv, _⟩ := rep_resA (C := C2) (fn := fn) (v := .tup []) hr1 (by rw [hrs]; rfl)
      refine ⟨hr1.df.trans hds2, v, hv, ?_⟩
      have k1 := hr1.kept
      rw [hw2] at k1
      have hLw : w'.heap[w.heap.size + 1]? = some (.loop (yRec fnn a.tmps p0 p1 asn bdy w.heap.size)) := (k1.block _ (by omega) (hF2 _ (by omega))).trans hL1
      have hDw : w'.heap[w.heap.size]? = some (.deferred (some [])) := (k1.block _ (by omega) (hF2 _ (by omega))).trans hD1
      have hszw : w.heap.size + 1 < w'.heap.size := (Array.getElem?_eq_some_iff.1 hLw).1
      refine ⟨none, _, run_endLoop hLw (by simp [yRec]), ?_⟩
      generalize hw4 : w'.putObj (w.heap.size + 1) (.loop { yRec fnn a.tmps p0 p1 asn bdy w.heap.size with state := .exhausted }) = w4
      have hsz4 : w4.heap.size = w'.heap.size := by rw [← hw4]; simp [World.putObj]
      have hoth4 : ∀ k, k ≠ w.heap.size + 1 → w4.heap[k]? = w'.heap[k]? := fun k hk => by rw [← hw4]; exact World.putObj_heap_other hk
      have e1 : w4.os = w'.os := by rw [← hw4]; rfl
      have e2 : w4.tape = w'.tape := by rw [← hw4]; rfl
      have e3 : w4.output = w'.output := by rw [← hw4]; rfl
      have e4 : w4.drawn = w'.drawn := by rw [← hw4]; rfl
      have hA : ∀ k, k < w.heap.size → (∀ b x, hk H b = some x → ownBlk g b x ≠ some k) → w4.heap[k]? = w.heap[k]? := by
        intro k hk hn
        rw [hoth4 k (by omega)]
        have h3 : ¬ C2.F0 k := by
          rw [← hC2]
          rintro (⟨b, x, hx, ho⟩ | hf)
          · exact hn b x hx ho
          · exact hf
        exact (k1.block k (by omega) h3).trans (hk1.block k hk id)
      have hK4 : Kept w (fun k => ∃ b x, hk H b = some x ∧ ownBlk g b x = some k) w4 := by
        refine ⟨by rw [e1, k1.os, hk1.os], by rw [e2, k1.tape, hk1.tape], by rw [e3, k1.output, hk1.output], by have := k1.size; omega, fun k hk hn => hA k hk (fun b x hx ho => hn ⟨b, x, hx, ho⟩), by have := k1.drawn; have := hk1.drawn; omega⟩
      obtain ⟨g1, _, hr8⟩ := out_rel (X := X) (E := fun _ => False) (nw := e - nx) (wb := wb) (w3 := w4)
        (C1 := ⟨C.P, C.n, w4, fun k => (C.F0 k ∨ C.w0.heap.size ≤ k) ∧ ¬ X k, fun k => C.O k ∨ X k, C.m, C.g0, C.fx, [mark w.heap.size]⟩) (a1 := { tmps := a.tmps, defers := [mark w.heap.size] })
        hr hH.all (fun _ _ h => h) (fun i _ hd => by omega) (by rw [show nx + (e - nx) = e by omega]; exact hW.all) hko (keepB_spec hkp) (fun k hk => (hXb k hk).1) hk1 (by rw [hC2]; exact hr1) h2 (by omega) (by omega)
        (fun k _ hn => hoth4 k (fun hek => hn (by rw [hC2]; exact hOX k ((hXi k).2 (.inr hek))))) hA (fun k h => h.elim) rfl rfl rfl rfl rfl rfl (fun k h => h) (fun k hk => by
          show k < w4.heap.size
          rcases hk with h | h
          · have := hr.oo k h; have := hr.kept.size; omega
          · have := (hXb k h).2; have := k1.size; omega) (fun k hn h _ => .inl ⟨h, fun hx => hn (.inr hx)⟩) (Kept.refl w4 _)
      have hr9 := hr8.dmono (D' := fun c => c < e) (fun b hb => by omega)
      rw [← hk_hputs] at hr9
      have := hQ ⟨C.P, C.n, w4, fun k => (C.F0 k ∨ C.w0.heap.size ≤ k) ∧ ¬ X k, fun k => C.O k ∨ X k, C.m, C.g0, C.fx, [mark w.heap.size]⟩ w.heap.size g1 w4 rfl rfl rfl (fun k h => .inl h) (.inr ((hXi _).2 (.inl rfl)))
        (fun hf => hf.2 ((hXi _).2 (.inl rfl))) (by show w4.heap[w.heap.size]? = _; rw [hoth4 _ (by omega)]; exact hDw) hr.kept.size (hr.kept.trans hK4 (fun k hk hf => by
          obtain ⟨b, x, hx, ho⟩ := hf
          rcases (hr.own b x k hx ho).2.1 with h | h
          · exact h
          · omega)) (fun k h => h.1) hr9
      rw [had]
      exact this
    cases ex with
    | normal => exact fin hq
    | ret => exact fin hq
    | _ => exact hq.elim
def MkQ (P : Program) (rs : List ResultVar) (r : AV) (C : Cx) (e : Exit) (a' : Act) (w' : World) : Prop :=
  (e = .normal ∨ e = .ret) ∧ ∃ (C1 : Cx) (dk : Nat) (T' : TT) (H' : HH) (nx' : Nat) (g' : Nat → List Value), C1.P = P ∧ C1.ds = [mark dk] ∧ (∀ k, C.O k → C1.O k) ∧ C1.O dk ∧ ¬ C1.F0 dk ∧ C1.w0.heap[dk]? = some (.deferred (some [])) ∧ C.w0.heap.size ≤ dk ∧
    Kept C.w0 C.F0 C1.w0 ∧ (∀ k, C1.F0 k → C.F0 k ∨ C.w0.heap.size ≤ k) ∧ Rel C1 (lk T') (hk H') (fun c => c < nx') g' a' w' ∧ ∃ v, resA P (lk T') (hk H') rs = some v ∧ cvT (hk H') v = r
def TrD (P : Program) (n : Nat) (rs : List ResultVar) (r : AV) (c : Code) (T : TT) (H : HH) (nx : Nat) : Prop :=
  ∀ (C : Cx) (g : Nat → List Value) (a : Act) (w : World), C.P = P → C.n = n → C.ds = [] → Rel C (lk T) (hk H) (fun c => c < nx) g a w → c.wp P (MkQ P rs r C) a w
def TrDK (P : Program) (n : Nat) (rs : List ResultVar) (r : AV) (y z : Code) (T : TT) (H : HH) (nx : Nat) : Prop :=
  ∀ (C : Cx) (g : Nat → List Value) (a : Act) (w : World), C.P = P → C.n = n → C.ds = [] → Rel C (lk T) (hk H) (fun c => c < nx) g a w → y.wp P (Exit.then (z.wp P (MkQ P rs r C)) (MkQ P rs r C)) a w
def QNo : Exit → TT → HH → Nat → Prop := fun _ _ _ _ => False
theorem trd_seq {P : Program} {n : Nat} {rs : List ResultVar} {r : AV} (hm : P.follows .mixedOrders = true) {x y : Code} {T : TT} {H : HH} {nx : Nat} (h : acode P n x T H nx (nextQ (TrD P n rs r y) QNo)) : TrD P n rs r (.seq x y) T H nx := by
  intro C g a w hP hn hd hr
  refine wp_seq (wp_mono (acode_sound hm x _ _ _ _ h C g a w hP hn hr) ?_)
  rintro e a' w' ⟨T', H', nx', g', hq, hr'⟩
  cases e with
  | normal => exact hq C g' a' w' hP hn hd hr'
  | _ => exact hq.elim
theorem trd_seq3 {P : Program} {n : Nat} {rs : List ResultVar} {r : AV} (hm : P.follows .mixedOrders = true) {x y z : Code} {T : TT} {H : HH} {nx : Nat} (h : acode P n x T H nx (nextQ (TrDK P n rs r y z) QNo)) : TrD P n rs r (.seq (.seq x y) z) T H nx := by
  intro C g a w hP hn hd hr
  refine wp_seq (wp_seq (wp_mono (acode_sound hm x _ _ _ _ h C g a w hP hn hr) ?_))
  rintro e a' w' ⟨T', H', nx', g', hq, hr'⟩
  cases e with
  | normal => exact hq C g' a' w' hP hn hd hr'
  | _ => exact hq.elim
theorem trdk_range {P : Program} {n : Nat} {rs : List ResultVar} {r : AV} (hm : P.follows .mixedOrders = true) {id : Nat} {z : Code} {T : TT} {H : HH} {nx : Nat} {gop : Operand} {p0 p1 f : Nat} {asn bdy c : Code} {fn : Func} {cap : List AV} {k e : Nat} {wb : HH}
    (hg : evO (lk T) gop = .clo f cap) (hf : P.funcs[f]? = some fn) (hb : fn.body = some c) (he : entB P f = true) (hnt : fn.ntmps = k) (hrs : fn.results.toList = []) (hle : cap.length + 1 ≤ k)
    (hT : Lts nx (T.map (·.2))) (hcap : Lts nx cap) (hH : HBs nx H) (hW : HBs e wb) (hko : keysOk wb = true) (hkp : keepB H wb = true) (hne : nx ≤ e)
    (hwalk : ∀ L dk fnn (tm : Array Value), tm.size = n → TrY P k (fun C2 => YC C2 L dk fnn p0 p1 asn bdy tm T) c (argT (.sc (Value.func (Fn.yield L) #[] #[]) :: cap) 0) H nx (retY e wb))
    (hz : acode P n z T (hputs H wb) e (retQ P rs r)) : TrDK P n rs r (.block id (.rangeFunc gop #[p0, p1] asn bdy)) z T H nx := by
  intro C g a w hP hn hd hr
  subst hP; subst hn
  refine wp_block (range_wp hd hr hg hf hb he hnt hrs hle hT hcap hH hW hko hkp hne hwalk fun C1 dk g1 w1 c1 c2 c3 c4 c5 c6 c7 c8 c9 c10 hr1 => ?_)
  show z.wp C.P (MkQ C.P rs r C) _ w1
  rw [← c1]
  refine wp_mono (acode_sound (by rw [c1]; exact hm) z _ _ _ _ (by rw [c1]; exact hz) C1 g1 _ w1 rfl c2 hr1) ?_
  rintro ex a' w' ⟨T', H', nx', g', hq, hr'⟩
  have fin : (∃ v, resA C.P (lk T') (hk H') rs = some v ∧ cvT (hk H') v = r) → (ex = .normal ∨ ex = .ret) → MkQ C1.P rs r C ex a' w' := fun hq hx => by
    rw [c1]; exact ⟨hx, C1, dk, T', H', nx', g', c1, c3, c4, c5, c6, c7, c8, c9, c10, hr', hq⟩
  cases ex with
  | normal => exact fin hq (.inl rfl)
  | ret => exact fin hq (.inr rfl)
  | _ => exact hq.elim
theorem pcall_rng {P : Program} {f : Nat} {fn : Func} {c : Code} {vl : List AV} {r : AV} {n : Nat} {rs : Array ResultVar} (hf : P.funcs[f]? = some fn) (hb : fn.body = some c) (he : entB P f = true) (hnt : fn.ntmps = n) (hrs : fn.results = rs)
    (hn : vl.length.ble n = true) (hlt : ∀ v ∈ vl, Lt 0 v) (hltr : Lt 0 r) (h : TrD P n rs.toList r c (argT vl 0) [] 0) : PCall P f vl r := by
  subst hnt; subst hrs
  refine ⟨he, fun w O g vs hO hvs => ?_⟩
  obtain ⟨hsz, hrep⟩ := hvs
  have hn' : vl.length ≤ fn.ntmps := Nat.le_of_ble_eq_true hn
  refine (callsIn_wide (n := 0)).1 (callsIn_of_wp_marks (F := Fence.wide) hf hb trivial ?_)
  let C : Cx := ⟨P, fn.ntmps, w, fun _ => False, O, 0, fun _ => [], fun _ => False, []⟩
  have hrel : Rel C (lk (argT vl 0)) (hk []) (fun c => c < 0) (fun _ => []) { tmps := vs ++ Array.replicate (fn.ntmps - vs.size) undef, defers := [] } w := by
    refine ⟨rfl, ?_, fun t => ?_, (fun b x hx => by cases hx), fun _ _ => rfl, (fun b x hx => by cases hx), (fun b b' x x' k hx => by cases hx), (fun b x k hx => by cases hx), fun k hk => hO k hk, Kept.refl w _, ⟨fun b hb => absurd hb (Nat.not_lt_zero b), fun b hb => absurd hb (Nat.not_lt_zero b), fun b hb => hb.elim, fun b x hx => by cases hx⟩⟩
    · simp [C]; omega
    · rw [lk_argT, if_pos (Nat.zero_le t), Nat.sub_zero]
      by_cases ht : t < vl.length
      · have h1 := hrep t ht
        have e1 : (vs ++ Array.replicate (fn.ntmps - vs.size) undef).getD t undef = vs.getD t undef := by
          rw [Array.getD_eq_getD_getElem?, Array.getElem?_append_left (by omega), Array.getD_eq_getD_getElem?]
        rw [e1]
        refine (h1.reset (fun b hb => by omega) (hlt _ (getD_mem ht))).sub ?_
        rintro k (hk' | ⟨b, x, hx, _⟩)
        · exact hk'
        · cases hx
      · rw [List.getD_eq_getElem?_getD, List.getElem?_eq_none (by omega)]; exact .und _
  refine wpIn_mono ((wpIn_wide (n := 0)).2 (h C _ _ w rfl rfl rfl hrel)) ?_
  rintro e a' w' ⟨hex, C1, dk, T', H', nx', g', c1, c3, c4, c5, c6, c7, c8, c9, c10, hr1, v, hv, rfl⟩
  have fin : LeavesInM Fence.wide 0 P fn a'.tmps (fun e w' => ∃ v_1, e = .returned v_1 ∧ Rep w' O g (cvT (hk H') v) v_1 ∧ Kept w (fun _ => False) w') a'.defers .returning w' := by
    rw [hr1.df, c3]
    have hdk : dk < C1.w0.heap.size := (Array.getElem?_eq_some_iff.1 c7).1
    have hD : w'.heap[dk]? = some (.deferred (some [])) := (hr1.kept.block dk hdk c6).trans c7
    have hdk' : dk < w'.heap.size := (Array.getElem?_eq_some_iff.1 hD).1
    refine ⟨by simp, .inl ⟨dk, w'.putObj dk (.deferred none), rfl, run_takeDeferred hD, ?_⟩⟩
    generalize hw4 : w'.putObj dk (.deferred none) = w4
    have hsz4 : w4.heap.size = w'.heap.size := by rw [← hw4]; simp [World.putObj]
    have hoth4 : ∀ k, k ≠ dk → w4.heap[k]? = w'.heap[k]? := fun k hk => by rw [← hw4]; exact World.putObj_heap_other hk
    have hr2 := hr1.rebase (C' := { C1 with w0 := w4, F0 := fun k => C1.F0 k ∨ C1.w0.heap.size ≤ k }) (w' := w4) (a' := a') rfl rfl rfl rfl rfl hr1.df rfl (by omega) (fun k _ hn => hoth4 k (fun e => hn (e ▸ c5)))
      (fun k _ h _ => .inl h) (fun k hk => by show k < w4.heap.size; have := hr1.oo k hk; have := hr1.kept.size; omega) (Kept.refl w4 _)
    obtain ⟨val, h1, h2⟩ := rep_resA (C := { C1 with w0 := w4, F0 := fun k => C1.F0 k ∨ C1.w0.heap.size ≤ k }) (fn := fn) (v := v) hr2 (by
      show resA C1.P (lk T') (hk H') fn.results.toList = some v
      rw [c1]; exact hv)
    have h3 := rep_cvT hr2 h2
    refine ⟨val, ?_, val, rfl, ?_, ?_⟩
    · have h1' : (results fn a'.tmps).run C1.P w4 = .ok val w4 := h1
      rw [c1] at h1'; exact h1'
    · exact (h3.reset (fun b hb => by omega) hltr).sub (fun k hk => c4 k hk)
    · have k1 := hr1.kept
      have e1 : w4.os = w'.os := by rw [← hw4]; rfl
      have e2 : w4.tape = w'.tape := by rw [← hw4]; rfl
      have e3 : w4.output = w'.output := by rw [← hw4]; rfl
      have e4 : w4.drawn = w'.drawn := by rw [← hw4]; rfl
      have c9' : Kept w (fun _ => False) C1.w0 := c9
      have c8' : w.heap.size ≤ dk := c8
      refine c9'.trans (F' := fun k => C1.F0 k ∨ k = dk) ⟨by rw [e1]; exact k1.os, by rw [e2]; exact k1.tape, by rw [e3]; exact k1.output, by have := k1.size; omega, fun k hk hn => ?_, by have := k1.drawn; omega⟩ (fun k hk hf => ?_)
      · rw [hoth4 k (fun e => hn (.inr e))]
        exact k1.block k hk (fun h => hn (.inl h))
      · rcases hf with hf | hf
        · rcases c10 k hf with h | h
          · exact h
          · have h' : w.heap.size ≤ k := h
            omega
        · omega
  rcases hex with rfl | rfl
  · exact fin
  · exact fin
end Go.AL
/-
  The abstract logic: the builtins min and max of two integers; a variable of one cell in a function that ranges over a function. Conditions: none.
-/
namespace Go.AL
open Go.RowKit
theorem trd_un1 {P : Program} {n : Nat} {rs : List ResultVar} {r : AV} {c : Code} {T : TT} {H : HH} {nx : Nat} (b : Nat) (v : AV) (hb : hk H b = some (.var (.agg [v]))) (hv : v.cells = [v]) (h : TrD P n rs r c T (hput H b (.var v)) nx) : TrD P n rs r c T H nx := by
  intro C g a w hP hn hd hr
  refine h C g a w hP hn hd ?_
  rw [hk_hput]
  exact hr.un1 hb hv
end Go.AL
