/-
  The abstract logic: a body within a round of a range over a function; a frame within another's boxes. Conditions: the program follows the mixed orders.
-/
import Derived.Test.YtfhpalfchhinlaaAl36
import Derived.RangeFuncCalls
import Derived.RangeFuncLeaves
import Derived.RangeFuncRecord
set_option linter.all false
namespace Go.AL
open Go.RowKit

/-- the wide fence, in a round or not. -/
def fen (ro : Option Nat) : Fence := { Fence.wide with round := ro }
def nodef (o : Oper) : Bool := match o.op with
  | .defer _ => false
  | _ => true
theorem nodef_ne {o : Oper} (h : nodef o = true) : ∀ c, o.op ≠ .defer c := by
  intro c hc; unfold nodef at h; rw [hc] at h; cases h
section
variable {P : Program} {n : Nat} {ro : Option Nat}
theorem callsIn_fen {f : FuncId} {args : Array Value} {w : World} {R : Ending → World → Prop} (h : Calls P f args w R) : CallsIn (fen ro) n P f args w R := callsIn_wide.2 h
theorem rowsIn_fen {row : String} {args : Array Value} {w : World} {R : Value → World → Prop} (h : Rows P row args w R) : RowsIn (fen ro) n P row args w R :=
  fun c cs _ => let ⟨v, w', r, s⟩ := h c cs; ⟨v, w', r, stepsIn_wide.2 s⟩
theorem upon_in {o : Oper} {a : Act} {next : Act → World → Prop} {Q : Exit → Act → World → Prop} {r : Result Next} (h : o.upon P a next Q r) : o.uponIn (fen ro) n P a next Q r := by
  unfold Oper.upon at h
  split at h
  · exact h
  · exact h
  · exact h
  · exact ⟨fun hd => (by cases hd), callsIn_fen h⟩
  · exact ⟨fun hd => (by cases hd), rowsIn_fen h⟩
  · exact h
  · exact h.elim
theorem wp_in {o : Oper} {a : Act} {w : World} {next : Act → World → Prop} {Q : Exit → Act → World → Prop} (hnd : nodef o = true) (h : o.wp P a w next Q) : o.wpIn (fen ro) n P a w next Q :=
  ⟨fun f _ => trivial, by rw [Oper.semAt_eq _ _ _ (nodef_ne hnd)]; exact upon_in h⟩
theorem wpOpsIn_of {o : Oper} {ops : Array Oper} {i : Nat} {rest : List Nat} {a : Act} {w : World} {Q : Exit → Act → World → Prop} (ho : ops[i]? = some o) (hnd : nodef o = true)
    (h : if Region.wanted o (yielded ops a.tmps) = true then o.wp P a w (wpOpsIn (fen ro) n P ops Q rest) Q else wpOpsIn (fen ro) n P ops Q rest (a.put o.dst undef) w) : wpOpsIn (fen ro) n P ops Q (i :: rest) a w := by
  simp only [wpOpsIn, ho]
  split
  · rename_i hw; rw [if_pos hw] at h; exact wp_in hnd h
  · rename_i hw; rw [if_neg hw] at h; exact ⟨fun _ _ => trivial, h⟩
end
section
variable {C : Cx} {n : Nat} {ro : Option Nat}
/-- some operations of a region in the order of its text; then the rest. -/
theorem chain_in {ops : Array Oper} {Q : Exit → Act → World → Prop} {rest : List Nat} : ∀ (os : List Oper) (rs : List Res) (T : List (Nat × AV)) (H : List (Nat × ABox)) (nx i : Nat) (g : Nat → List Value) (a : Act) (w : World),
    Chain C (ops.toList.map (·.dst)) os rs T H nx → (∀ j o, os[j]? = some o → ops[i + j]? = some o ∧ nodef o = true) → Rel C (lk T) (hk H) (fun c => c < nx) g a w →
    (∀ g' a' w', Rel C (lk (endT C.n os rs T)) (hk (endH rs H)) (fun c => c < endN rs nx) g' a' w' → wpOpsIn (fen ro) n C.P ops Q rest a' w') → wpOpsIn (fen ro) n C.P ops Q (List.range' i os.length ++ rest) a w
  | [], [], T, H, nx, i, g, a, w, _, _, hr, hq => by simpa using hq g a w hr
  | [], _ :: _, _, _, _, _, _, _, _, h, _, _, _ => h.elim
  | _ :: _, [], _, _, _, _, _, _, _, h, _, _, _ => h.elim
  | o :: os, r :: rs, T, H, nx, i, g, a, w, hc, hd, hr, hq => by
    obtain ⟨hs, hc⟩ := hc
    obtain ⟨ho, hnd⟩ := hd 0 o rfl
    rw [Nat.add_zero] at ho
    rw [List.length_cons, List.range'_succ, List.cons_append]
    refine wpOpsIn_of ho hnd ?_
    refine hs _ _ _ g a w hr (fun _ _ => rfl) (fun _ _ _ _ _ => rfl) (fun _ _ => rfl) (fun j _ hd => by omega) ops rfl _ Q fun v w' g' h1 h2 => ?_
    have hrel := (h1.put o.dst h2).dmono (D' := fun c => c < nx + r.nw) (fun b hb => by omega)
    rw [← lk_setT, ← hk_hputs] at hrel
    exact chain_in os rs _ _ _ (i + 1) g' _ w' hc (fun j o' hj => by rw [show i + 1 + j = i + (j + 1) by omega]; exact hd (j + 1) o' hj) hrel hq
theorem region_in {id m : Nat} {P : Program} {ops : Array Oper} {T : List (Nat × AV)} {H : List (Nat × ABox)} {nx : Nat} {K : List (Nat × AV) → List (Nat × ABox) → Nat → List FP → Prop} {Q : Exit → Act → World → Prop}
    {g : Nat → List Value} {a : Act} {w : World} (hP : C.P = P) (hn : C.n = m) (hnd : ops.toList.all nodef = true) (h : arun P m (ops.toList.map (·.dst)) ops.toList T H nx [] K) (hr : Rel C (lk T) (hk H) (fun c => c < nx) g a w)
    (hq : ∀ T' H' nx' fps g' a' w', K T' H' nx' fps → Rel C (lk T') (hk H') (fun c => c < nx') g' a' w' → Q .normal a' w') : (Code.region id ops false).wpIn (fen ro) n P Q a w := by
  subst hP; subst hn
  obtain ⟨rs, hl, hc, hK⟩ := arun_chain _ _ _ _ _ h
  refine wpIn_region ?_
  have := chain_in (Q := Q) (n := n) (ro := ro) (ops := ops) (rest := []) ops.toList rs T H nx 0 g a w hc (fun j o hj => by
    rw [Nat.zero_add, ← Array.getElem?_toList]
    exact ⟨hj, List.all_eq_true.1 hnd o (List.mem_of_getElem? hj)⟩) hr (fun g' a' w' hr' => hq _ _ _ _ g' a' w' hK hr')
  rwa [List.append_nil, Array.length_toList, ← List.range_eq_range'] at this
end
/-- codes that are walked within a round. -/
def okR : Code → Bool
  | .skip => true
  | .region _ ops draw => !draw && ops.toList.all nodef
  | .seq a b => okR a && okR b
  | .cond _ a b => okR a && okR b
  | .block _ c => okR c
  | .exit _ => true
  | _ => false
theorem acodeR_sound {P : Program} {m n : Nat} {ro : Option Nat} : ∀ (c : Code) (T : TT) (H : HH) (nx : Nat) (Q : Exit → TT → HH → Nat → Prop), okR c = true → acode P m c T H nx Q →
    ∀ (C : Cx) (g : Nat → List Value) (a : Act) (w : World), C.P = P → C.n = m → Rel C (lk T) (hk H) (fun c => c < nx) g a w →
      c.wpIn (fen ro) n P (fun e a' w' => ∃ T' H' nx' g', Q e T' H' nx' ∧ Rel C (lk T') (hk H') (fun c => c < nx') g' a' w') a w
  | .skip, T, H, nx, Q, _, h => fun C g a w _ _ hr => wpIn_skip ⟨T, H, nx, g, h, hr⟩
  | .region id ops draw, T, H, nx, Q, ho, h => fun C g a w hP hn hr => by
    cases draw with
    | false => exact region_in hP hn (by simpa [okR] using ho) h hr (fun T' H' nx' fps g' a' w' hK hr' => ⟨T', H', nx', g', hK.2, hr'⟩)
    | true => simp [okR] at ho
  | .seq x y, T, H, nx, Q, ho, h => fun C g a w hP hn hr => by
    simp only [okR, Bool.and_eq_true] at ho
    refine wpIn_seq (wpIn_mono (acodeR_sound x T H nx _ ho.1 h C g a w hP hn hr) ?_)
    rintro e a' w' ⟨T', H', nx', g', hq, hr'⟩
    cases e with
    | normal => exact acodeR_sound y T' H' nx' Q ho.2 hq C g' a' w' hP hn hr'
    | _ => exact ⟨T', H', nx', g', hq, hr'⟩
  | .cond c x y, T, H, nx, Q, ho, h => fun C g a w hP hn hr => by
    simp only [okR, Bool.and_eq_true] at ho
    simp only [acode] at h
    split at h
    · rename_i b hb
      have hc := hr.evO c
      rw [hb] at hc
      exact wpIn_cond_split hc.sc_inv (fun ht => acodeR_sound x T H nx Q ho.1 (h.1 ht) C g a w hP hn hr) (fun hf => acodeR_sound y T H nx Q ho.2 (h.2 hf) C g a w hP hn hr)
    · rename_i k v hb
      have hc := hr.evO c
      rw [hb] at hc
      obtain ⟨b, hv, hk⟩ := hc.nb_inv
      exact wpIn_cond_split hv (fun ht => acodeR_sound x T H nx Q ho.1 (h.1 fun h => (hk h).symm.trans ht) C g a w hP hn hr) (fun hf => acodeR_sound y T H nx Q ho.2 (h.2 fun h => (hk h).symm.trans hf) C g a w hP hn hr)
    · exact h.elim
  | .block id c, T, H, nx, Q, ho, h => fun C g a w hP hn hr => by
    refine wpIn_block (wpIn_mono (acodeR_sound c T H nx _ ho h C g a w hP hn hr) ?_)
    rintro e a' w' ⟨T', H', nx', g', hq, hr'⟩
    cases e with
    | exit id' =>
      simp only [inB] at hq
      unfold Exit.inBlock
      by_cases hid : id' = id
      · rw [if_pos hid] at hq; simp only [hid, if_true]; exact ⟨T', H', nx', g', hq, hr'⟩
      · rw [if_neg hid] at hq; simp only [hid, if_false]; exact ⟨T', H', nx', g', hq, hr'⟩
    | _ => exact ⟨T', H', nx', g', hq, hr'⟩
  | .exit id, T, H, nx, Q, _, h => fun C g a w _ _ hr => wpIn_exit ⟨T, H, nx, g, h, hr⟩
  | .loop _, _, _, _, _, ho, _ => by simp [okR] at ho
  | .label _, _, _, _, _, ho, _ => by simp [okR] at ho
  | .ret, _, _, _, _, ho, _ => by simp [okR] at ho
  | .rangeFunc _ _ _ _, _, _, _, _, ho, _ => by simp [okR] at ho
  | .scope _, _, _, _, _, ho, _ => by simp [okR] at ho
  | .goto _, _, _, _, _, ho, _ => by simp [okR] at ho
  | .refuse _, _, _, _, _, ho, _ => by simp [okR] at ho

/-! ### a frame within another's boxes -/
def inCx (C : Cx) (n : Nat) (w1 : World) (g : Nat → List Value) (H' : Nat → Option ABox) (Hl : HH) (nx : Nat) (X E : Nat → Prop) : Cx :=
  ⟨C.P, n, w1, fun k => (∃ b x, hk Hl b = some x ∧ ownBlk g b x = some k) ∨ E k, fun k => (C.O k ∨ X k) ∨ ∃ b x, H' b = some x ∧ hk Hl b = none ∧ ownBlk g b x = some k, nx,
    fun b => if b < nx then g b else [], fun b => b < nx ∧ hk Hl b = none, []⟩
section
variable {C : Cx} {T' : Nat → AV} {H' : Nat → Option ABox} {D : Nat → Prop} {g : Nat → List Value} {a : Act} {w w1 : World} {Hl : HH} {nx n : Nat} {X E : Nat → Prop}
theorem in_rel (hr : Rel C T' H' D g a w) (hHl : ∀ p ∈ Hl, p.1 < nx ∧ bLt0 nx p.2) (hkH : ∀ b x, hk Hl b = some x → H' b = some x) (hk1 : Kept w (fun _ => False) w1) (hX : ∀ k, X k → w.heap.size ≤ k ∧ k < w1.heap.size)
    {T3 : TT} {a3 : Act} (hd3 : a3.defers = []) (hs3 : a3.tmps.size = n) (hT3 : ∀ t, Rep w (Own C.O g H') g (lk T3 t) (a3.tmps.getD t undef)) (hl3 : ∀ t, Lt nx (lk T3 t)) :
    Rel (inCx C n w1 g H' Hl nx X E) (lk T3) (hk Hl) (fun c => c < nx) (fun b => if b < nx then g b else []) a3 w1 := by
  have hklt : ∀ b x, hk Hl b = some x → b < nx ∧ bLt0 nx x := fun b x hx => hHl _ (hk_mem Hl b x hx)
  have hg1 : ∀ b, b < nx → (fun b => if b < nx then g b else []) b = g b := fun b hb => if_pos hb
  have hl : Later w (Own C.O g H') w1 (fun k => Own C.O g H' k ∨ X k) := ⟨hk1.size, fun k hk _ => hk1.block k hk id, fun k hk ho => by
    rcases ho with ho | ho
    · exact ho
    · have := (hX k ho).1; omega⟩
  have hob : ∀ b x, hk Hl b = some x → ownBlk (fun b => if b < nx then g b else []) b x = ownBlk g b x := fun b x hx => ownBlk_congr x (hg1 b (hklt b x hx).1)
  have hOwn1 : ∀ k, Own (inCx C n w1 g H' Hl nx X E).O (fun b => if b < nx then g b else []) (hk Hl) k → Own C.O g H' k ∨ X k := by
    rintro k (((hk' | hk') | ⟨b, x, hx, _, hk'⟩) | ⟨b, x, hx, hk'⟩)
    · exact .inl (.inl hk')
    · exact .inr hk'
    · exact .inl (.inr ⟨b, x, hx, hk'⟩)
    · rw [hob b x hx] at hk'; exact .inl (.inr ⟨b, x, hkH b x hx, hk'⟩)
  refine ⟨hd3, hs3, fun t => ?_, fun b x hx => ?_, fun b hb => if_neg hb, fun b x hx => (hklt b x hx).1, fun b b' x x' k hx hx' hk1 hk2 => ?_, fun b x k hx hk1' => ?_, ?_, Kept.refl w1 _, ?_⟩
  · exact (((hT3 t).later hl (Ext.refl g)).reset hg1 (hl3 t)).sub hOwn1
  · refine (((hr.bx b x (hkH b x hx)).later hl (Ext.refl g) (fun k hk => ?_) rfl).reset hg1 (hklt b x hx).1 (hklt b x hx).2).sub hOwn1
    exact hk1.block k (hr.own b x k (hkH b x hx) hk).2.2 id
  · rw [hob b x hx] at hk1; rw [hob b' x' hx'] at hk2
    exact hr.sep b b' x x' k (hkH b x hx) (hkH b' x' hx') hk1 hk2
  · rw [hob b x hx] at hk1'
    have h1 := hr.own b x k (hkH b x hx) hk1'
    refine ⟨?_, .inl (.inl ⟨b, x, hx, hk1'⟩), Nat.lt_of_lt_of_le h1.2.2 hk1.size⟩
    rintro ((ho | ho) | ⟨b', x', hx', hn', hk'⟩)
    · exact h1.1 ho
    · have := (hX k ho).1; have := h1.2.2; omega
    · have := hr.sep b b' x x' k (hkH b x hx) hx' hk1' hk'
      subst this
      rw [hx] at hn'; cases hn'
  · rintro k ((ho | ho) | ⟨b', x', hx', _, hk'⟩)
    · exact Nat.lt_of_lt_of_le (hr.oo k ho) (Nat.le_trans hr.kept.size hk1.size)
    · exact (hX k ho).2
    · exact Nat.lt_of_lt_of_le (hr.own b' x' k hx' hk').2.2 hk1.size
  · exact ⟨fun b _ ver v hv => hv, fun b hb => hb, fun b hb => ⟨hb.1, rfl⟩, fun b x hx hf => by have h2 : b < nx ∧ hk Hl b = none := hf; rw [hx] at h2; cases h2.2⟩

/-- .. and out of it again. -/
theorem out_rel (hr : Rel C T' H' D g a w) {nw : Nat} {wb : HH} (hHl : ∀ p ∈ Hl, p.1 < nx ∧ bLt0 nx p.2) (hkH : ∀ b x, hk Hl b = some x → H' b = some x) (hnew : ∀ i, i < nw → ¬ D (nx + i))
    (hwl : ∀ p ∈ wb, p.1 < nx + nw ∧ bLt0 (nx + nw) p.2) (hko : keysOk wb = true) (hkeep : ∀ p ∈ Hl, p.1 ∈ wb.map (·.1)) (hX : ∀ k, X k → w.heap.size ≤ k)
    (hk1 : Kept w (fun _ => False) w1) {T1 : TT} {H1 : HH} {nx1 : Nat} {g2 : Nat → List Value} {a' : Act} {w2 w3 : World} (hr1' : Rel (inCx C n w1 g H' Hl nx X E) (lk T1) (hk H1) (fun c => c < nx1) g2 a' w2) (hs : HSub H1 wb) (hnx1 : nx1 ≤ nx + nw)
    (h23 : w2.heap.size ≤ w3.heap.size) (hB : ∀ k, k < w2.heap.size → ¬ (inCx C n w1 g H' Hl nx X E).O k → w3.heap[k]? = w2.heap[k]?)
    (hA : ∀ k, k < w.heap.size → (∀ b x, hk Hl b = some x → ownBlk g b x ≠ some k) → w3.heap[k]? = w.heap[k]?) (hE : ∀ k, E k → k < w.heap.size → C.O k)
    {C1 : Cx} {a1 : Act} (hn1 : C1.n = C.n) (hm1 : C1.m = C.m) (hg1' : C1.g0 = C.g0) (hf1 : C1.fx = C.fx) (hd1 : a1.defers = C1.ds) (ht1 : a1.tmps = a.tmps) (hO1 : ∀ k, C1.O k → C.O k ∨ X k) (hoo : ∀ k, C1.O k → k < C1.w0.heap.size)
    (hF1 : ∀ k, ¬ C1.O k → (C.F0 k ∨ C.w0.heap.size ≤ k) → k < w3.heap.size → C1.F0 k ∨ C1.w0.heap.size ≤ k) (hK1 : Kept C1.w0 C1.F0 w3) :
    ∃ g', Ext g g' ∧ Rel C1 T' (updL H' wb) (fun c => D c ∨ (nx ≤ c ∧ c < nx + nw)) g' a1 w3 := by
  have hklt : ∀ b x, hk Hl b = some x → b < nx ∧ bLt0 nx x := fun b x hx => hHl _ (hk_mem Hl b x hx)
  have hr1 := hr1'.less hs
  have hg1 : ∀ b, b < nx → (fun b => if b < nx then g b else []) b = g b := fun b hb => if_pos hb
  let g' : Nat → List Value := fun b => if b < nx + nw then g2 b else g b
  have hg'2 : ∀ b, b < nx + nw → g' b = g2 b := fun b hb => if_pos hb
  have hcase : ∀ b x, updL H' wb b = some x → (b ∈ wb.map (·.1) ∧ hk wb b = some x ∧ b < nx + nw ∧ bLt0 (nx + nw) x) ∨ (b ∉ wb.map (·.1) ∧ H' b = some x ∧ hk Hl b = none) := by
    intro b x hx
    by_cases hm' : b ∈ wb.map (·.1)
    · rw [updL_hk wb H' b hko hm'] at hx
      exact .inl ⟨hm', hx, hwl _ (hk_mem wb b x hx)⟩
    · rw [updL_other wb H' b hm'] at hx
      refine .inr ⟨hm', hx, hk_none Hl b fun hk' => hm' ?_⟩
      obtain ⟨p, hp, rfl⟩ := List.mem_map.1 hk'
      exact hkeep p hp
  have hext : Ext g g' := by
    intro b ver v hv
    show (g' b)[ver]? = some v
    by_cases hlt' : b < nx + nw
    · rw [hg'2 b hlt']
      by_cases hb : b < nx
      · exact hr1.old.ge b hb ver v (by show ((fun b => if b < nx then g b else []) b)[ver]? = some v; rw [hg1 b hb]; exact hv)
      · rw [hr.fresh b (by have := hnew (b - nx) (by omega); rwa [show nx + (b - nx) = b by omega] at this)] at hv; simp at hv
    · have : g' b = g b := if_neg hlt'
      rw [this]; exact hv
  have hgo : ∀ b, hk Hl b = none → g' b = g b ∨ (nx ≤ b ∧ b < nx + nw) := by
    intro b hn'
    by_cases hlt' : b < nx + nw
    · by_cases hb : b < nx
      · left
        rw [hg'2 b hlt', (hr1.old.gx b ⟨hb, hn'⟩).2]
        exact hg1 b hb
      · exact .inr ⟨by omega, hlt'⟩
    · exact .inl (if_neg hlt')
  have hnd : ∀ b, nx ≤ b → b < nx + nw → ¬ D b := fun b h1 h2 => by
    have := hnew (b - nx) (by omega); rwa [show nx + (b - nx) = b by omega] at this
  have hgo' : ∀ b x, H' b = some x → hk Hl b = none → g' b = g b := by
    intro b x hx hn'
    rcases hgo b hn' with h | h
    · exact h
    · exact absurd (hr.dom b x hx) (hnd b h.1 h.2)
  have hsub : ∀ k, k < w.heap.size → Own C1.O g' (updL H' wb) k → Own C.O g H' k := by
    rintro k hk' (ho | ⟨b, x, hx, hob'⟩)
    · rcases hO1 k ho with h | h
      · exact .inl h
      · have := hX k h; omega
    · rcases hcase b x hx with ⟨_, hx1, hlt', _⟩ | ⟨_, hx1, hn'⟩
      · rw [ownBlk_congr x (hg'2 b hlt')] at hob'
        rcases (hr1.own b x k hx1 hob').2.1 with (⟨b', x', hx', hk2⟩ | hf) | hf
        · exact .inr ⟨b', x', hkH b' x' hx', hk2⟩
        · exact .inl (hE k hf hk')
        · have h5 : w1.heap.size ≤ k := hf
          have := hk1.size; omega
      · rw [ownBlk_congr x (hgo' b x hx1 hn')] at hob'
        exact .inr ⟨b, x, hx1, hob'⟩
  have hl : Later w (Own C.O g H') w3 (Own C1.O g' (updL H' wb)) :=
    ⟨Nat.le_trans hk1.size (Nat.le_trans hr1.kept.size h23), fun k hk hn' => hA k hk (fun b x hx ho => hn' (.inr ⟨b, x, hkH b x hx, ho⟩)), hsub⟩
  have hsub1 : ∀ k, Own C1.O g' (updL H' wb) k → Own (inCx C n w1 g H' Hl nx X E).O g2 (hk wb) k := by
    rintro k (ho | ⟨b, x, hx, hob'⟩)
    · exact .inl (.inl (hO1 k ho))
    · rcases hcase b x hx with ⟨_, hx1, hlt', _⟩ | ⟨_, hx1, hn'⟩
      · rw [ownBlk_congr x (hg'2 b hlt')] at hob'; exact .inr ⟨b, x, hx1, hob'⟩
      · rw [ownBlk_congr x (hgo' b x hx1 hn')] at hob'; exact .inl (.inr ⟨b, x, hx1, hn', hob'⟩)
  have hl2 : Later w2 (Own (inCx C n w1 g H' Hl nx X E).O g2 (hk wb)) w3 (Own (inCx C n w1 g H' Hl nx X E).O g2 (hk wb)) :=
    ⟨h23, fun k hk hn' => hB k hk (fun ho => hn' (.inl ho)), fun k _ h => h⟩
  have hlow : ∀ b x, hk wb b = some x → b < nx → ∃ y, hk Hl b = some y := by
    intro b x hx hb
    cases hy : hk Hl b with
    | some y => exact ⟨y, rfl⟩
    | none => exact absurd ⟨hb, hy⟩ (hr1.old.gh b x hx)
  refine ⟨g', hext, ⟨hd1, by rw [ht1, hn1]; exact hr.sz, fun t => by rw [ht1]; exact (hr.tm t).later hl hext, fun b x hx => ?_, fun b hb => ?_, fun b x hx => ?_, fun b b' x x' k hx hx' hk1 hk2 => ?_, fun b x k hx hk1' => ?_, hoo, hK1, ?_⟩⟩
  · rcases hcase b x hx with ⟨_, hx1, hlt', hbl⟩ | ⟨_, hx1, hn'⟩
    · refine (((hr1.bx b x hx1).later hl2 (Ext.refl g2) (fun k hk' => ?_) rfl).reset hg'2 hlt' hbl).sub hsub1
      exact hB k (hr1.own b x k hx1 hk').2.2 (hr1.own b x k hx1 hk').1
    · refine (hr.bx b x hx1).later hl hext (fun k hk' => ?_) (hgo' b x hx1 hn')
      refine hA k (hr.own b x k hx1 hk').2.2 ?_
      intro b' x' hx' hk2
      have := hr.sep b b' x x' k hx1 (hkH b' x' hx') hk' hk2
      subst this
      rw [hx'] at hn'; cases hn'
  · have hbd : ¬ D b := fun h => hb (.inl h)
    have hg0 := hr.fresh b hbd
    rcases Nat.lt_or_ge b (nx + nw) with hlt' | hlt'
    · have hbx : b < nx := by
        rcases Nat.lt_or_ge b nx with h | h
        · exact h
        · exact absurd (.inr ⟨h, hlt'⟩) hb
      have hn' : hk Hl b = none := by
        cases hy : hk Hl b with
        | none => rfl
        | some y => exact absurd (hr.dom b y (hkH b y hy)) hbd
      rw [hg'2 b hlt', (hr1.old.gx b ⟨hbx, hn'⟩).2]
      show (fun b => if b < nx then g b else []) b = []
      rw [hg1 b hbx, hg0]
    · show g' b = []
      have : g' b = g b := if_neg (by omega)
      rw [this, hg0]
  · rcases hcase b x hx with ⟨_, hx1, hlt', _⟩ | ⟨_, hx1, hn'⟩
    · rcases Nat.lt_or_ge b nx with h | h
      · obtain ⟨y, hy⟩ := hlow b x hx1 h
        exact .inl (hr.dom b y (hkH b y hy))
      · exact .inr ⟨h, hlt'⟩
    · exact .inl (hr.dom b x hx1)
  · rcases hcase b x hx with ⟨_, hx1, hlt', _⟩ | ⟨_, hx1, hn'⟩ <;> rcases hcase b' x' hx' with ⟨_, hx1', hlt'', _⟩ | ⟨_, hx1', hn''⟩
    · rw [ownBlk_congr x (hg'2 b hlt')] at hk1; rw [ownBlk_congr x' (hg'2 b' hlt'')] at hk2
      exact hr1.sep b b' x x' k hx1 hx1' hk1 hk2
    · rw [ownBlk_congr x (hg'2 b hlt')] at hk1; rw [ownBlk_congr x' (hgo' b' x' hx1' hn'')] at hk2
      exact absurd (.inr ⟨b', x', hx1', hn'', hk2⟩) (hr1.own b x k hx1 hk1).1
    · rw [ownBlk_congr x (hgo' b x hx1 hn')] at hk1; rw [ownBlk_congr x' (hg'2 b' hlt'')] at hk2
      exact absurd (.inr ⟨b, x, hx1, hn', hk1⟩) (hr1.own b' x' k hx1' hk2).1
    · rw [ownBlk_congr x (hgo' b x hx1 hn')] at hk1; rw [ownBlk_congr x' (hgo' b' x' hx1' hn'')] at hk2
      exact hr.sep b b' x x' k hx1 hx1' hk1 hk2
  · rcases hcase b x hx with ⟨_, hx1, hlt', _⟩ | ⟨_, hx1, hn'⟩
    · rw [ownBlk_congr x (hg'2 b hlt')] at hk1'
      obtain ⟨p1, p2, p3⟩ := hr1.own b x k hx1 hk1'
      refine ⟨fun ho => p1 (.inl (hO1 k ho)), hF1 k (fun ho => p1 (.inl (hO1 k ho))) ?_ (Nat.lt_of_lt_of_le p3 h23), Nat.lt_of_lt_of_le p3 h23⟩
      rcases p2 with (⟨b', x', hx', hk'⟩ | p2) | p2
      · exact (hr.own b' x' k (hkH b' x' hx') hk').2.1
      · by_cases hkw : k < w.heap.size
        · exact absurd (.inl (.inl (hE k p2 hkw))) p1
        · exact .inr (Nat.le_trans hr.kept.size (by omega))
      · exact .inr (Nat.le_trans hr.kept.size (Nat.le_trans hk1.size p2))
    · rw [ownBlk_congr x (hgo' b x hx1 hn')] at hk1'
      obtain ⟨p1, p2, p3⟩ := hr.own b x k hx1 hk1'
      have hlt3 : k < w3.heap.size := Nat.lt_of_lt_of_le p3 (Nat.le_trans hk1.size (Nat.le_trans hr1.kept.size h23))
      have hno : ¬ C1.O k := fun ho => by
        rcases hO1 k ho with h | h
        · exact p1 h
        · have := hX k h; omega
      exact ⟨hno, hF1 k hno p2 hlt3, hlt3⟩
  · refine ⟨fun b hb ver v hv => ?_, fun b hb => .inl (hr.old.gm b (by rw [← hm1]; exact hb)), fun b hb => ?_, fun b x hx => ?_⟩
    · rw [hg1'] at hv; rw [hm1] at hb
      exact hext b ver v (hr.old.ge b hb ver v hv)
    · rw [hf1] at hb
      obtain ⟨h1, h2⟩ := hr.old.gx b hb
      rw [hm1, hg1']
      refine ⟨h1, ?_⟩
      have hHb : H' b = none := by
        cases hy : H' b with
        | none => rfl
        | some y => exact absurd hb (hr.old.gh b y hy)
      have hn' : hk Hl b = none := by
        cases hy : hk Hl b with
        | none => rfl
        | some y => rw [hkH b y hy] at hHb; cases hHb
      rcases hgo b hn' with h3 | h3
      · rw [h3, h2]
      · exact absurd (hr.old.gm b h1) (hnd b h3.1 h3.2)
    · rw [hf1]
      rcases hcase b x hx with ⟨_, hx1, hlt', _⟩ | ⟨_, hx1, hn'⟩
      · intro hfx
        rcases Nat.lt_or_ge b nx with h | h
        · obtain ⟨y, hy⟩ := hlow b x hx1 h
          exact hr.old.gh b y (hkH b y hy) hfx
        · exact absurd (hr.old.gm b (hr.old.gx b hfx).1) (hnd b h hlt')
      · exact hr.old.gh b x hx1
end
end Go.AL
