/-
  The abstract logic: boxes, the relation between an abstract frame and a model frame, and what each change of the world does to it. Conditions: none.
-/
import Derived.Test.YtehlfgikcipdaaaAl1
set_option linter.all false
namespace Go.AL
open Go.RowKit

/-! ### draws are only made, never taken back -/
theorem ask_drawn {α : Type} : ∀ (q : Ask α) (w : World), w.drawn ≤ (w.ask q).2.drawn
  | .done a, w => Nat.le_refl _
  | .ask what range k, w => by
    unfold World.ask
    dsimp only
    split
    · exact ask_drawn _ _
    · exact Nat.le_trans (Nat.le_succ _) (ask_drawn _ { w with drawn := w.drawn + 1 })
theorem sys_drawn (w : World) (c : Sys) : w.drawn ≤ (w.sys c).2.drawn := by
  have h := ask_drawn (Kernel.perform c w.os) w
  unfold World.sys
  split
  · exact Nat.le_refl _
  · rename_i r os w' hx e
    rw [e] at h
    exact h
theorem viewStore_drawn {p : Program} {w : World} {at_ : Addr} {u : TypeId} {k : Addr} {v : Value} {atomic : Bool} {r : World × List Addr} (h : w.viewStore p at_ u k v atomic = .ok r) : r.1.drawn = w.drawn := by
  unfold World.viewStore at h
  simp only [bind, Except.bind, pure, Except.pure] at h
  repeat' (split at h)
  all_goals first
    | (cases h; done)
    | (simp only [Except.ok.injEq] at h; subst h; rfl)
    | skip
theorem farStore_drawn {p : Program} {w : World} {a : Addr} {v : Value} {atomic : Bool} {r : World × List Addr} (h : w.farStore p a v atomic = .ok r) : r.1.drawn = w.drawn := by
  unfold World.farStore at h
  split at h
  · split at h
    · rename_i e
      injection h with h
      subst h
      exact viewStore_drawn e
    · cases h
  · cases h
theorem run_drawn {α : Type} {P : Program} {m : Sem α} : ∀ {w w' : World} {x : α}, m.run P w = .ok x w' → w.drawn ≤ w'.drawn := by
  induction m with
  | pure a => intro w w' x h; injection h with _ h; subst h; exact Nat.le_refl _
  | load m a k ih =>
    intro w w' x h
    unfold Sem.run at h
    split at h
    · exact ih _ h
    · split at h
      · exact ih _ h
      · cases h
  | store m a v k ih =>
    intro w w' x h
    cases v <;> simp only [Sem.run] at h
    case agg => cases h
    case tuple => cases h
    all_goals
      split at h
      · split at h
        · cases h
        · exact ih (w := w.setCell a _) h
      · split at h
        · rename_i e; rw [← farStore_drawn e]; exact ih h
        · cases h
  | new o k ih => intro w w' x h; exact ih _ (w := { w with heap := w.heap.push o }) h
  | shape r k ih => intro w w' x h; exact ih _ h
  | freeze a n k ih =>
    intro w w' x h
    have := ih (w := w.freeze a n) h
    have e : (w.freeze a n).drawn = w.drawn := by unfold World.freeze; split <;> rfl
    rwa [e] at this
  | frozen a k ih => intro w w' x h; exact ih _ h
  | getObj r k ih =>
    intro w w' x h
    unfold Sem.run at h
    split at h
    · cases h
    · exact ih _ h
    · cases h
  | setObj r o k ih =>
    intro w w' x h
    unfold Sem.run at h
    split at h
    · cases h
    · exact ih (w := { w with heap := w.heap.setIfInBounds r o }) h
    · cases h
  | choose q k ih =>
    intro w w' x h
    unfold Sem.run at h
    split at h
    · exact ih _ h
    · exact Nat.le_trans (Nat.le_succ _) (ih _ (w := { w with drawn := w.drawn + 1 }) h)
  | sys c k ih => intro w w' x h; exact Nat.le_trans (sys_drawn w c) (ih _ (w := (w.sys c).2) h)
  | program k ih => intro w w' x h; exact ih _ h
  | mark m k ih => intro w w' x h; exact ih h
  | halt h => intro w w' x h; cases h

inductive ABox where
  | var (v : AV)
  | nl
  | row (e z ver : Nat) (es : List AV)
  | ob (o : Obj)

/-- the block of a row that has room. -/
def rowBlk : Value → Option Nat
  | .slice (some a) _ (_ + 1) => some a.block
  | _ => none
theorem rowBlk_own {v : Value} {k : Nat} (h : rowBlk v = some k) : v.ownBlock = some k := by
  unfold rowBlk at h
  split at h
  · exact h
  · cases h
def ownBlk (g : Nat → List Value) (b : Nat) : ABox → Option Nat
  | .var _ => match ((g b)[0]? : Option Value) with
    | some (.pointer (some a)) => some a.block
    | _ => none
  | .nl => none
  | .row _ _ ver _ => match ((g b)[ver]? : Option Value) with
    | some v => rowBlk v
    | none => none
  | .ob _ => match ((g b)[0]? : Option Value) with
    | some (.map (some r)) => some r
    | _ => none

def Own (O : Nat → Prop) (g : Nat → List Value) (H : Nat → Option ABox) (k : Nat) : Prop := O k ∨ ∃ b x, H b = some x ∧ ownBlk g b x = some k

/-- a row of one's own: without room, or in a block of its own. -/
def rowOk (w : World) (e z : Nat) (sv : Value) (n : Nat) (xs : List Value) : Prop :=
  xs.length = n * z ∧ ((n = 0 ∧ ∃ a, sv = .slice a 0 0) ∨
    ∃ g cap cur, sv = .slice (some ⟨g, 0, none⟩) n (cap + 1) ∧ w.heap[g]? = some (.cells cur e (0, 0)) ∧ n ≤ cap + 1 ∧ cap + 1 ≤ maxLen ∧ cur.size = (cap + 1) * z ∧ cur.toList.take (n * z) = xs)
theorem rowOk.of_owns {w : World} {e z : Nat} {sv : Value} {n : Nat} {xs : List Value} (h : w.ownsRow 0 e z sv n xs) : rowOk w e z sv n xs := by
  refine ⟨h.1, ?_⟩
  rcases h.2 with ⟨rfl, rfl⟩ | ⟨g, cap, cur, rfl, _, h2, h3, h4, h5, h6⟩
  · exact .inl ⟨rfl, _, rfl⟩
  · cases cap with
    | zero => exact .inl ⟨by omega, _, by rw [show n = 0 by omega]⟩
    | succ cap => exact .inr ⟨g, cap, cur, rfl, h2, h3, h4, h5, h6⟩
theorem rowOk.empty (w : World) (e z : Nat) (a : Option Addr) : rowOk w e z (.slice a 0 0) 0 [] := ⟨by simp, .inl ⟨rfl, a, rfl⟩⟩
theorem rowOk.to_owns {w : World} {e z : Nat} {sv : Value} {n : Nat} {xs : List Value} (h : rowOk w e z sv n xs) : w.ownsRow 0 e z sv n xs ∨ (n = 0 ∧ xs = [] ∧ ∃ a, sv = .slice a 0 0) := by
  rcases h.2 with ⟨h1, a, h2⟩ | ⟨g, cap, cur, h1, h2, h3, h4, h5, h6⟩
  · exact .inr ⟨h1, List.eq_nil_of_length_eq_zero (by rw [h.1, h1]; simp), a, h2⟩
  · exact .inl ⟨h.1, .inr ⟨g, cap + 1, cur, h1, Nat.zero_le _, h2, h3, h4, h5, h6⟩⟩
theorem rowOk.slice {w : World} {e z : Nat} {sv : Value} {n : Nat} {xs : List Value} (h : rowOk w e z sv n xs) : ∃ a c, sv = .slice a n c ∧ n ≤ c := by
  rcases h.2 with ⟨h1, a, h2⟩ | ⟨g, cap, cur, h1, h2, h3, h4, h5, h6⟩
  · exact ⟨a, 0, by rw [h2, h1], by omega⟩
  · exact ⟨_, _, h1, h3⟩

def BoxRep (w : World) (O : Nat → Prop) (g : Nat → List Value) (b : Nat) : ABox → Prop
  | .var v => ∃ blk vs ty, (g b)[0]? = some (.pointer (some ⟨blk, 0, none⟩)) ∧ w.heap[blk]? = some (.cells vs ty (0, 0)) ∧ vs.size = v.cells.length ∧
      ∀ j, j < v.cells.length → Rep w O g (v.cells.getD j .und) (vs.getD j undef)
  | .nl => g b = [.slice none 0 0]
  | .row e z ver es => ∃ sv xs, (g b)[ver]? = some sv ∧ (g b).length = ver + 1 ∧ rowOk w e z sv es.length xs ∧ (∀ a ∈ es, a.cells.length = z) ∧
      ∀ i, i < es.length → ∀ j, j < z → Rep w O g ((es.getD i .und).cells.getD j .und) (xs.getD (i * z + j) undef)
  | .ob o => ∃ blk, (g b)[0]? = some (.map (some blk)) ∧ w.heap[blk]? = some o

structure Cx where
  P : Program
  n : Nat
  w0 : World
  F0 : Nat → Prop
  O : Nat → Prop
  m : Nat
  g0 : Nat → List Value
  fx : Nat → Prop

structure Kept (w0 : World) (F0 : Nat → Prop) (w : World) : Prop where
  os : w.os = w0.os
  tape : w.tape = w0.tape
  output : w.output = w0.output
  size : w0.heap.size ≤ w.heap.size
  block : ∀ k, k < w0.heap.size → ¬ F0 k → w.heap[k]? = w0.heap[k]?
  drawn : w0.drawn ≤ w.drawn

theorem Kept.refl (w : World) (F : Nat → Prop) : Kept w F w := ⟨rfl, rfl, rfl, Nat.le_refl _, fun _ _ _ => rfl, Nat.le_refl _⟩
theorem Kept.trans {w0 w w' : World} {F F' : Nat → Prop} (h : Kept w0 F w) (h' : Kept w F' w') (hF : ∀ k, k < w0.heap.size → F' k → F k) : Kept w0 F w' :=
  ⟨h'.os.trans h.os, h'.tape.trans h.tape, h'.output.trans h.output, Nat.le_trans h.size h'.size,
    fun k hk hn => (h'.block k (Nat.lt_of_lt_of_le hk h.size) (fun hf => hn (hF k hk hf))).trans (h.block k hk hn), Nat.le_trans h.drawn h'.drawn⟩
theorem Kept.below {w w' : World} (h : Kept w (fun _ => False) w') : Below w.heap.size w w' :=
  ⟨h.os, h.tape, h.output, h.size, fun k hk => h.block k hk id⟩

/-- what was known at the frame's start is still known; the boxes that are another's are as they were. -/
structure Old (C : Cx) (H : Nat → Option ABox) (D : Nat → Prop) (g : Nat → List Value) : Prop where
  ge : ∀ b, b < C.m → ∀ (ver : Nat) (v : Value), (C.g0 b)[ver]? = some v → (g b)[ver]? = some v
  gm : ∀ b, b < C.m → D b
  gx : ∀ b, C.fx b → b < C.m ∧ g b = C.g0 b
  gh : ∀ b x, H b = some x → ¬ C.fx b
theorem Old.mono {C : Cx} {H H' : Nat → Option ABox} {D D' : Nat → Prop} {g : Nat → List Value} (h : Old C H D g) (hH : ∀ b x, H' b = some x → ∃ y, H b = some y) (hD : ∀ b, D b → D' b) : Old C H' D' g :=
  ⟨h.ge, fun b hb => hD b (h.gm b hb), h.gx, fun b x hx => by obtain ⟨y, hy⟩ := hH b x hx; exact h.gh b y hy⟩

structure Rel (C : Cx) (T : Nat → AV) (H : Nat → Option ABox) (D : Nat → Prop) (g : Nat → List Value) (a : Act) (w : World) : Prop where
  df : a.defers = []
  sz : a.tmps.size = C.n
  tm : ∀ t, Rep w (Own C.O g H) g (T t) (a.tmps.getD t undef)
  bx : ∀ b x, H b = some x → BoxRep w (Own C.O g H) g b x
  fresh : ∀ b, ¬ D b → g b = []
  dom : ∀ b x, H b = some x → D b
  sep : ∀ b b' x x' k, H b = some x → H b' = some x' → ownBlk g b x = some k → ownBlk g b' x' = some k → b = b'
  own : ∀ b x k, H b = some x → ownBlk g b x = some k → ¬ C.O k ∧ (C.F0 k ∨ C.w0.heap.size ≤ k) ∧ k < w.heap.size
  oo : ∀ k, C.O k → k < C.w0.heap.size
  kept : Kept C.w0 C.F0 w
  old : Old C H D g

def updT (n : Nat) (T : Nat → AV) (d : Option Nat) (v : AV) : Nat → AV :=
  fun t => match d with
    | some d => if t = d ∧ d < n then v else T t
    | none => T t

def updF {α : Type} (H : Nat → α) (b : Nat) (x : α) : Nat → α := fun c => if c = b then x else H c
theorem updF_same {α : Type} (H : Nat → α) (b : Nat) (x : α) : updF H b x b = x := by simp [updF]
theorem updF_other {α : Type} {H : Nat → α} {b c : Nat} {x : α} (h : c ≠ b) : updF H b x c = H c := by simp [updF, h]

theorem Old.new {C : Cx} {H : Nat → Option ABox} {D : Nat → Prop} {g : Nat → List Value} (h : Old C H D g) {b : Nat} (hb : ¬ D b) (x : ABox) (gl : List Value) :
    Old C (updF H b (some x)) (fun c => D c ∨ c = b) (updF g b gl) := by
  have hne : ∀ c, D c → c ≠ b := by rintro c hc rfl; exact hb hc
  refine ⟨fun c hc ver v hv => ?_, fun c hc => .inl (h.gm c hc), fun c hc => ?_, fun c y hy => ?_⟩
  · rw [updF_other (hne c (h.gm c hc))]; exact h.ge c hc ver v hv
  · have := h.gx c hc
    rw [updF_other (hne c (h.gm c this.1))]; exact this
  · by_cases e : c = b
    · subst e; exact fun hf => hb (h.gm _ (h.gx _ hf).1)
    · rw [updF_other e] at hy; exact h.gh c y hy
theorem Old.grow {C : Cx} {H : Nat → Option ABox} {D : Nat → Prop} {g : Nat → List Value} (h : Old C H D g) {b : Nat} {x0 : ABox} (hb : H b = some x0) (x : ABox) (v' : Value) :
    Old C (updF H b (some x)) D (updF g b (g b ++ [v'])) := by
  refine ⟨fun c hc ver v hv => ?_, h.gm, fun c hc => ?_, fun c y hy => ?_⟩
  · have := h.ge c hc ver v hv
    by_cases e : c = b
    · subst e; rw [updF_same, List.getElem?_append_left (List.getElem?_eq_some_iff.1 this).1]; exact this
    · rw [updF_other e]; exact this
  · have e : c ≠ b := by rintro rfl; exact h.gh _ _ hb hc
    rw [updF_other e]; exact h.gx c hc
  · by_cases e : c = b
    · subst e; exact h.gh _ _ hb
    · rw [updF_other e] at hy; exact h.gh c y hy
theorem Old.set {C : Cx} {H : Nat → Option ABox} {D : Nat → Prop} {g : Nat → List Value} (h : Old C H D g) {b : Nat} {x0 : ABox} (hb : H b = some x0) (x : ABox) : Old C (updF H b (some x)) D g :=
  h.mono (fun c y hy => by
    by_cases e : c = b
    · subst e; exact ⟨_, hb⟩
    · rw [updF_other e] at hy; exact ⟨y, hy⟩) (fun _ h => h)

theorem put_getD {a : Act} {d : Option Nat} {v : Value} {t : Nat} : (a.put d v).tmps.getD t undef = match d with
    | some d => if t = d ∧ d < a.tmps.size then v else a.tmps.getD t undef
    | none => a.tmps.getD t undef := by
  cases d with
  | none => rfl
  | some d =>
    simp only [Act.put, Array.getD_eq_getD_getElem?, Array.getElem?_setIfInBounds]
    by_cases h : d = t
    · subst h
      by_cases h' : d < a.tmps.size <;> simp [h']
    · have : ¬ t = d := fun e => h e.symm
      simp [h, this]

theorem put_size {a : Act} {d : Option Nat} {v : Value} : (a.put d v).tmps.size = a.tmps.size := by
  cases d <;> simp [Act.put]
theorem put_defers {a : Act} {d : Option Nat} {v : Value} : (a.put d v).defers = a.defers := by
  cases d <;> simp [Act.put]

section
variable {C : Cx} {T : Nat → AV} {H : Nat → Option ABox} {D : Nat → Prop} {g : Nat → List Value} {a : Act} {w : World}

theorem Rel.put {v : AV} {val : Value} (h : Rel C T H D g a w) (d : Option Nat) (hv : Rep w (Own C.O g H) g v val) :
    Rel C (updT C.n T d v) H D g (a.put d val) w := by
  refine { h with df := by rw [put_defers]; exact h.df, sz := by rw [put_size]; exact h.sz, tm := fun t => ?_ }
  rw [put_getD]
  cases d with
  | none => exact h.tm t
  | some d =>
    simp only [updT]
    rw [h.sz]
    split
    · exact hv
    · exact h.tm t

theorem BoxRep.later {w w' : World} {O O' : Nat → Prop} {g g' : Nat → List Value} {b : Nat} {x : ABox} (hl : Later w O w' O') (hg : Ext g g')
    (hk : ∀ k, ownBlk g b x = some k → w'.heap[k]? = w.heap[k]?) (hb : g' b = g b) (h : BoxRep w O g b x) : BoxRep w' O' g' b x := by
  cases x with
  | var v =>
    obtain ⟨blk, vs, ty, h1, h2, h3, h4⟩ := h
    refine ⟨blk, vs, ty, by rw [hb]; exact h1, ?_, h3, fun j hj => (h4 j hj).later hl hg⟩
    rw [hk blk (by simp [ownBlk, h1])]
    exact h2
  | nl => exact hb.trans h
  | row e z ver es =>
    obtain ⟨sv, xs, h1, h2, h3, h4, h5⟩ := h
    refine ⟨sv, xs, by rw [hb]; exact h1, by rw [hb]; exact h2, ?_, h4, fun i hi j hj => (h5 i hi j hj).later hl hg⟩
    refine ⟨h3.1, ?_⟩
    rcases h3.2 with h0 | ⟨gg, cap, cur, hsv, hh, rest⟩
    · exact .inl h0
    · refine .inr ⟨gg, cap, cur, hsv, ?_, rest⟩
      rw [hk gg (by simp [ownBlk, h1, hsv, rowBlk])]
      exact hh
  | ob o =>
    obtain ⟨blk, h1, h2⟩ := h
    exact ⟨blk, by rw [hb]; exact h1, by rw [hk blk (by simp [ownBlk, h1])]; exact h2⟩

/-- nothing that was there has turned: new blocks, draws. -/
theorem Rel.grow {w' : World} (h : Rel C T H D g a w) (hk : Kept w (fun _ => False) w') : Rel C T H D g a w' := by
  have hl : Later w (Own C.O g H) w' (Own C.O g H) := ⟨hk.size, fun k hk' _ => hk.block k hk' id, fun _ _ h => h⟩
  refine ⟨h.df, h.sz, fun t => (h.tm t).later hl (Ext.refl g), fun b x hx => (h.bx b x hx).later hl (Ext.refl g) (fun k hk' => ?_) rfl, h.fresh, h.dom, h.sep,
    fun b x k hx hk' => ?_, h.oo, h.kept.trans hk (fun _ _ f => f.elim), h.old⟩
  · exact hk.block k (h.own b x k hx hk').2.2 id
  · obtain ⟨h1, h2, h3⟩ := h.own b x k hx hk'
    exact ⟨h1, h2, Nat.lt_of_lt_of_le h3 hk.size⟩

theorem Rel.drew (h : Rel C T H D g a w) : Rel C T H D g a { w with drawn := w.drawn + 1 } :=
  h.grow ⟨rfl, rfl, rfl, Nat.le_refl _, fun _ _ _ => rfl, Nat.le_succ _⟩

theorem ownBlk_congr {g g' : Nat → List Value} {b : Nat} (x : ABox) (h : g' b = g b) : ownBlk g' b x = ownBlk g b x := by
  cases x <;> simp [ownBlk, h]

theorem Ext.new {b : Nat} {l : List Value} (h : g b = []) : Ext g (updF g b l) := by
  intro c ver v hv
  by_cases hc : c = b
  · subst hc; rw [h] at hv; simp at hv
  · rw [updF_other hc]; exact hv

/-- a new box. -/
theorem Rel.newvar {b : Nat} {v : AV} {vs : Array Value} (h : Rel C T H D g a w) (hb : ¬ D b) (ty : TypeId) (hs : vs.size = v.cells.length)
    (hv : ∀ j, j < v.cells.length → Rep w (Own C.O g H) g (v.cells.getD j .und) (vs.getD j undef)) :
    Rel C T (updF H b (some (.var v))) (fun c => D c ∨ c = b) (updF g b [.pointer (some ⟨w.heap.size, 0, none⟩)]) a (w.alloc (.cells vs ty)) := by
  have hg0 : g b = [] := h.fresh b hb
  have hext : Ext g (updF g b [.pointer (some ⟨w.heap.size, 0, none⟩)]) := Ext.new hg0
  have hH : H b = none := by
    cases hx : H b with
    | none => rfl
    | some x => exact absurd (h.dom b x hx) hb
  have hnew : ownBlk (updF g b [.pointer (some ⟨w.heap.size, 0, none⟩)]) b (.var v) = some w.heap.size := by simp [ownBlk, updF]
  have hownlt : ∀ k, Own C.O g H k → k < w.heap.size := by
    rintro k (hk | ⟨c, x, hx, hk⟩)
    · exact Nat.lt_of_lt_of_le (h.oo k hk) h.kept.size
    · exact (h.own c x k hx hk).2.2
  have hother : ∀ c x, updF H b (some (.var v)) c = some x → (c = b ∧ x = .var v) ∨ (c ≠ b ∧ H c = some x) := by
    intro c x hx
    by_cases hc : c = b
    · subst hc; rw [updF_same] at hx; left; exact ⟨rfl, by injection hx with hx; exact hx.symm⟩
    · rw [updF_other hc] at hx; exact .inr ⟨hc, hx⟩
  have hOwn : ∀ k, k < w.heap.size → Own C.O (updF g b [.pointer (some ⟨w.heap.size, 0, none⟩)]) (updF H b (some (.var v))) k → Own C.O g H k := by
    rintro k hk (hk' | ⟨c, x, hx, hk'⟩)
    · exact .inl hk'
    · rcases hother c x hx with ⟨rfl, rfl⟩ | ⟨hc, hx⟩
      · rw [hnew] at hk'; injection hk' with hk'; omega
      · rw [ownBlk_congr x (updF_other hc)] at hk'; exact .inr ⟨c, x, hx, hk'⟩
  have hl : Later w (Own C.O g H) (w.alloc (.cells vs ty)) (Own C.O (updF g b [.pointer (some ⟨w.heap.size, 0, none⟩)]) (updF H b (some (.var v)))) :=
    ⟨by simp, fun k hk _ => Below.heap_alloc w _ k hk, hOwn⟩
  refine ⟨h.df, h.sz, fun t => (h.tm t).later hl hext, fun c x hx => ?_, fun c hc => ?_, fun c x hx => ?_, fun c c' x x' k hx hx' hk hk' => ?_, fun c x k hx hk => ?_, h.oo, ?_, h.old.new hb _ _⟩
  · rcases hother c x hx with ⟨rfl, rfl⟩ | ⟨hc, hx⟩
    · exact ⟨w.heap.size, vs, ty, by simp [updF], heap_alloc_new w _, hs, fun j hj => (hv j hj).later hl hext⟩
    · exact (h.bx c x hx).later hl hext (fun k hk => Below.heap_alloc w _ k (h.own c x k hx hk).2.2) (updF_other hc)
  · have hcb : c ≠ b := fun e => hc (.inr e)
    rw [updF_other hcb]; exact h.fresh c (fun hd => hc (.inl hd))
  · rcases hother c x hx with ⟨rfl, _⟩ | ⟨_, hx⟩
    · exact .inr rfl
    · exact .inl (h.dom c x hx)
  · rcases hother c x hx with ⟨hcb, rfl⟩ | ⟨hc, hx⟩ <;> rcases hother c' x' hx' with ⟨hcb', rfl⟩ | ⟨hc', hx'⟩
    · exact hcb.trans hcb'.symm
    · rw [hcb, hnew] at hk; rw [ownBlk_congr x' (updF_other hc')] at hk'
      injection hk with hk; have := (h.own c' x' k hx' hk').2.2; omega
    · rw [hcb', hnew] at hk'; rw [ownBlk_congr x (updF_other hc)] at hk
      injection hk' with hk'; have := (h.own c x k hx hk).2.2; omega
    · rw [ownBlk_congr x (updF_other hc)] at hk; rw [ownBlk_congr x' (updF_other hc')] at hk'
      exact h.sep c c' x x' k hx hx' hk hk'
  · rcases hother c x hx with ⟨rfl, rfl⟩ | ⟨hc, hx⟩
    · rw [hnew] at hk; injection hk with hk
      have h1 := h.kept.size
      refine ⟨fun ho => ?_, .inr (by omega), by simp; omega⟩
      have := h.oo k ho; omega
    · rw [ownBlk_congr x (updF_other hc)] at hk
      obtain ⟨h1, h2, h3⟩ := h.own c x k hx hk
      exact ⟨h1, h2, by simp; omega⟩
  · refine h.kept.trans (F' := fun _ => False) ⟨rfl, rfl, rfl, by simp, fun k hk _ => Below.heap_alloc w _ k hk, Nat.le_refl _⟩ (fun _ _ f => f.elim)

/-- a new box, of whatever kind, in a new block. -/
theorem Rel.newbox {b : Nat} {x0 : ABox} {gl : List Value} {o : Obj} (h : Rel C T H D g a w) (hb : ¬ D b) (hnew : ownBlk (updF g b gl) b x0 = some w.heap.size)
    (hbx : Later w (Own C.O g H) (w.alloc o) (Own C.O (updF g b gl) (updF H b (some x0))) → Ext g (updF g b gl) → BoxRep (w.alloc o) (Own C.O (updF g b gl) (updF H b (some x0))) (updF g b gl) b x0) :
    Rel C T (updF H b (some x0)) (fun c => D c ∨ c = b) (updF g b gl) a (w.alloc o) := by
  have hg0 : g b = [] := h.fresh b hb
  have hext : Ext g (updF g b gl) := Ext.new hg0
  have hother : ∀ c x, updF H b (some x0) c = some x → (c = b ∧ x = x0) ∨ (c ≠ b ∧ H c = some x) := by
    intro c x hx
    by_cases hc : c = b
    · subst hc; rw [updF_same] at hx; left; exact ⟨rfl, by injection hx with hx; exact hx.symm⟩
    · rw [updF_other hc] at hx; exact .inr ⟨hc, hx⟩
  have hOwn : ∀ k, k < w.heap.size → Own C.O (updF g b gl) (updF H b (some x0)) k → Own C.O g H k := by
    rintro k hk (hk' | ⟨c, x, hx, hk'⟩)
    · exact .inl hk'
    · rcases hother c x hx with ⟨hcb, hxx⟩ | ⟨hc, hx⟩
      · rw [hcb, hxx, hnew] at hk'; injection hk' with hk'; omega
      · rw [ownBlk_congr x (updF_other hc)] at hk'; exact .inr ⟨c, x, hx, hk'⟩
  have hl : Later w (Own C.O g H) (w.alloc o) (Own C.O (updF g b gl) (updF H b (some x0))) :=
    ⟨by simp, fun k hk _ => Below.heap_alloc w _ k hk, hOwn⟩
  refine ⟨h.df, h.sz, fun t => (h.tm t).later hl hext, fun c x hx => ?_, fun c hc => ?_, fun c x hx => ?_, fun c c' x x' k hx hx' hk hk' => ?_, fun c x k hx hk => ?_, h.oo, ?_, h.old.new hb _ _⟩
  · rcases hother c x hx with ⟨hcb, hxx⟩ | ⟨hc, hx⟩
    · rw [hcb, hxx]; exact hbx hl hext
    · exact (h.bx c x hx).later hl hext (fun k hk => Below.heap_alloc w _ k (h.own c x k hx hk).2.2) (updF_other hc)
  · have hcb : c ≠ b := fun e => hc (.inr e)
    rw [updF_other hcb]; exact h.fresh c (fun hd => hc (.inl hd))
  · rcases hother c x hx with ⟨hcb, _⟩ | ⟨_, hx⟩
    · exact .inr hcb
    · exact .inl (h.dom c x hx)
  · rcases hother c x hx with ⟨hcb, hxx⟩ | ⟨hc, hx⟩ <;> rcases hother c' x' hx' with ⟨hcb', hxx'⟩ | ⟨hc', hx'⟩
    · exact hcb.trans hcb'.symm
    · rw [hcb, hxx, hnew] at hk; rw [ownBlk_congr x' (updF_other hc')] at hk'
      injection hk with hk; have := (h.own c' x' k hx' hk').2.2; omega
    · rw [hcb', hxx', hnew] at hk'; rw [ownBlk_congr x (updF_other hc)] at hk
      injection hk' with hk'; have := (h.own c x k hx hk).2.2; omega
    · rw [ownBlk_congr x (updF_other hc)] at hk; rw [ownBlk_congr x' (updF_other hc')] at hk'
      exact h.sep c c' x x' k hx hx' hk hk'
  · rcases hother c x hx with ⟨hcb, hxx⟩ | ⟨hc, hx⟩
    · rw [hcb, hxx, hnew] at hk; injection hk with hk
      have h1 := h.kept.size
      refine ⟨fun ho => ?_, .inr (by omega), by simp; omega⟩
      have := h.oo k ho; omega
    · rw [ownBlk_congr x (updF_other hc)] at hk
      obtain ⟨h1, h2, h3⟩ := h.own c x k hx hk
      exact ⟨h1, h2, by simp; omega⟩
  · refine h.kept.trans (F' := fun _ => False) ⟨rfl, rfl, rfl, by simp, fun k hk _ => Below.heap_alloc w _ k hk, Nat.le_refl _⟩ (fun _ _ f => f.elim)

/-- a new box in a world that has grown. -/
theorem Rel.newown {b : Nat} {x0 : ABox} {gl : List Value} {w' : World} (h : Rel C T H D g a w) (hb : ¬ D b) (hk0 : Kept w (fun _ => False) w')
    (hnew : ∀ k, ownBlk (updF g b gl) b x0 = some k → w.heap.size ≤ k ∧ k < w'.heap.size)
    (hbx : Later w (Own C.O g H) w' (Own C.O (updF g b gl) (updF H b (some x0))) → Ext g (updF g b gl) → BoxRep w' (Own C.O (updF g b gl) (updF H b (some x0))) (updF g b gl) b x0) :
    Rel C T (updF H b (some x0)) (fun c => D c ∨ c = b) (updF g b gl) a w' := by
  have hg0 : g b = [] := h.fresh b hb
  have hext : Ext g (updF g b gl) := Ext.new hg0
  have hother : ∀ c x, updF H b (some x0) c = some x → (c = b ∧ x = x0) ∨ (c ≠ b ∧ H c = some x) := by
    intro c x hx
    by_cases hc : c = b
    · subst hc; rw [updF_same] at hx; left; exact ⟨rfl, by injection hx with hx; exact hx.symm⟩
    · rw [updF_other hc] at hx; exact .inr ⟨hc, hx⟩
  have hOwn : ∀ k, k < w.heap.size → Own C.O (updF g b gl) (updF H b (some x0)) k → Own C.O g H k := by
    rintro k hk (hk' | ⟨c, x, hx, hk'⟩)
    · exact .inl hk'
    · rcases hother c x hx with ⟨hcb, hxx⟩ | ⟨hc, hx⟩
      · rw [hcb, hxx] at hk'; have := (hnew k hk').1; omega
      · rw [ownBlk_congr x (updF_other hc)] at hk'; exact .inr ⟨c, x, hx, hk'⟩
  have hkeep : ∀ k, k < w.heap.size → w'.heap[k]? = w.heap[k]? := fun k hk => hk0.block k hk id
  have hl : Later w (Own C.O g H) w' (Own C.O (updF g b gl) (updF H b (some x0))) := ⟨hk0.size, fun k hk _ => hkeep k hk, hOwn⟩
  refine ⟨h.df, h.sz, fun t => (h.tm t).later hl hext, fun c x hx => ?_, fun c hc => ?_, fun c x hx => ?_, fun c c' x x' k hx hx' hk hk' => ?_, fun c x k hx hk => ?_, h.oo, ?_, h.old.new hb _ _⟩
  · rcases hother c x hx with ⟨hcb, hxx⟩ | ⟨hc, hx⟩
    · rw [hcb, hxx]; exact hbx hl hext
    · exact (h.bx c x hx).later hl hext (fun k hk => hkeep k (h.own c x k hx hk).2.2) (updF_other hc)
  · have hcb : c ≠ b := fun e => hc (.inr e)
    rw [updF_other hcb]; exact h.fresh c (fun hd => hc (.inl hd))
  · rcases hother c x hx with ⟨hcb, _⟩ | ⟨_, hx⟩
    · exact .inr hcb
    · exact .inl (h.dom c x hx)
  · rcases hother c x hx with ⟨hcb, hxx⟩ | ⟨hc, hx⟩ <;> rcases hother c' x' hx' with ⟨hcb', hxx'⟩ | ⟨hc', hx'⟩
    · exact hcb.trans hcb'.symm
    · rw [hcb, hxx] at hk; rw [ownBlk_congr x' (updF_other hc')] at hk'
      have := (h.own c' x' k hx' hk').2.2; have := (hnew k hk).1; omega
    · rw [hcb', hxx'] at hk'; rw [ownBlk_congr x (updF_other hc)] at hk
      have := (h.own c x k hx hk).2.2; have := (hnew k hk').1; omega
    · rw [ownBlk_congr x (updF_other hc)] at hk; rw [ownBlk_congr x' (updF_other hc')] at hk'
      exact h.sep c c' x x' k hx hx' hk hk'
  · rcases hother c x hx with ⟨hcb, hxx⟩ | ⟨hc, hx⟩
    · rw [hcb, hxx] at hk
      have h1 := h.kept.size
      have h2 := hnew k hk
      refine ⟨fun ho => ?_, .inr (by omega), h2.2⟩
      have := h.oo k ho; omega
    · rw [ownBlk_congr x (updF_other hc)] at hk
      obtain ⟨h1, h2, h3⟩ := h.own c x k hx hk
      exact ⟨h1, h2, Nat.lt_of_lt_of_le h3 hk0.size⟩
  · exact h.kept.trans hk0 (fun _ _ f => f.elim)

/-- a nil slice of one's own: no block is wanted. -/
theorem Rel.newnl {b : Nat} (h : Rel C T H D g a w) (hb : ¬ D b) :
    Rel C T (updF H b (some .nl)) (fun c => D c ∨ c = b) (updF g b [.slice none 0 0]) a w := by
  have hg0 : g b = [] := h.fresh b hb
  have hext : Ext g (updF g b [.slice none 0 0]) := Ext.new hg0
  have hnew : ownBlk (updF g b [.slice none 0 0]) b .nl = none := rfl
  have hother : ∀ c x, updF H b (some .nl) c = some x → (c = b ∧ x = .nl) ∨ (c ≠ b ∧ H c = some x) := by
    intro c x hx
    by_cases hc : c = b
    · subst hc; rw [updF_same] at hx; left; exact ⟨rfl, by injection hx with hx; exact hx.symm⟩
    · rw [updF_other hc] at hx; exact .inr ⟨hc, hx⟩
  have hOwn : ∀ k, Own C.O (updF g b [.slice none 0 0]) (updF H b (some .nl)) k → Own C.O g H k := by
    rintro k (hk' | ⟨c, x, hx, hk'⟩)
    · exact .inl hk'
    · rcases hother c x hx with ⟨rfl, rfl⟩ | ⟨hc, hx⟩
      · rw [hnew] at hk'; cases hk'
      · rw [ownBlk_congr x (updF_other hc)] at hk'; exact .inr ⟨c, x, hx, hk'⟩
  have hl : Later w (Own C.O g H) w (Own C.O (updF g b [.slice none 0 0]) (updF H b (some .nl))) :=
    ⟨Nat.le_refl _, fun k _ _ => rfl, fun k _ => hOwn k⟩
  refine ⟨h.df, h.sz, fun t => (h.tm t).later hl hext, fun c x hx => ?_, fun c hc => ?_, fun c x hx => ?_, fun c c' x x' k hx hx' hk hk' => ?_, fun c x k hx hk => ?_, h.oo, h.kept, h.old.new hb _ _⟩
  · rcases hother c x hx with ⟨rfl, rfl⟩ | ⟨hc, hx⟩
    · exact updF_same _ _ _
    · exact (h.bx c x hx).later hl hext (fun _ _ => rfl) (updF_other hc)
  · have hcb : c ≠ b := fun e => hc (.inr e)
    rw [updF_other hcb]; exact h.fresh c (fun hd => hc (.inl hd))
  · rcases hother c x hx with ⟨rfl, _⟩ | ⟨_, hx⟩
    · exact .inr rfl
    · exact .inl (h.dom c x hx)
  · rcases hother c x hx with ⟨hcb, rfl⟩ | ⟨hc, hx⟩ <;> rcases hother c' x' hx' with ⟨hcb', rfl⟩ | ⟨hc', hx'⟩
    · exact hcb.trans hcb'.symm
    · rw [hcb, hnew] at hk; cases hk
    · rw [hcb', hnew] at hk'; cases hk'
    · rw [ownBlk_congr x (updF_other hc)] at hk; rw [ownBlk_congr x' (updF_other hc')] at hk'
      exact h.sep c c' x x' k hx hx' hk hk'
  · rcases hother c x hx with ⟨rfl, rfl⟩ | ⟨hc, hx⟩
    · rw [hnew] at hk; cases hk
    · rw [ownBlk_congr x (updF_other hc)] at hk; exact h.own c x k hx hk

/-- a row that has grown, in its place or into a new block. -/
theorem Rel.regrow {b : Nat} {x0 x1 : ABox} {v' : Value} {w' : World} (h : Rel C T H D g a w) (hH : H b = some x0) (hgr : w.grownBy w' (ownBlk g b x0)) (hdr : w.drawn ≤ w'.drawn)
    (hnb : ∀ k, ownBlk (updF g b (g b ++ [v'])) b x1 = some k → ownBlk g b x0 = some k ∨ (w.heap.size ≤ k ∧ k < w'.heap.size))
    (hbx : Later w (Own C.O g H) w' (Own C.O (updF g b (g b ++ [v'])) (updF H b (some x1))) → Ext g (updF g b (g b ++ [v'])) → BoxRep w' (Own C.O (updF g b (g b ++ [v'])) (updF H b (some x1))) (updF g b (g b ++ [v'])) b x1) :
    Rel C T (updF H b (some x1)) D (updF g b (g b ++ [v'])) a w' := by
  have hext : Ext g (updF g b (g b ++ [v'])) := by
    intro c ver v hv
    by_cases hc : c = b
    · subst hc; rw [updF_same, List.getElem?_append_left (List.getElem?_eq_some_iff.1 hv).1]; exact hv
    · rw [updF_other hc]; exact hv
  have hother : ∀ c x, updF H b (some x1) c = some x → (c = b ∧ x = x1) ∨ (c ≠ b ∧ H c = some x) := by
    intro c x hx
    by_cases hc : c = b
    · subst hc; rw [updF_same] at hx; left; exact ⟨rfl, by injection hx with hx; exact hx.symm⟩
    · rw [updF_other hc] at hx; exact .inr ⟨hc, hx⟩
  have hOwn : ∀ k, k < w.heap.size → Own C.O (updF g b (g b ++ [v'])) (updF H b (some x1)) k → Own C.O g H k := by
    rintro k hk (hk' | ⟨c, x, hx, hk'⟩)
    · exact .inl hk'
    · rcases hother c x hx with ⟨hcb, hxx⟩ | ⟨hc, hx⟩
      · rw [hcb, hxx] at hk'
        rcases hnb k hk' with e | ⟨e, _⟩
        · exact .inr ⟨b, x0, hH, e⟩
        · omega
      · rw [ownBlk_congr x (updF_other hc)] at hk'; exact .inr ⟨c, x, hx, hk'⟩
  have hkeep : ∀ k, k < w.heap.size → some k ≠ ownBlk g b x0 → w'.heap[k]? = w.heap[k]? := hgr.block
  have hl : Later w (Own C.O g H) w' (Own C.O (updF g b (g b ++ [v'])) (updF H b (some x1))) :=
    ⟨hgr.size, fun k hk hn => hkeep k hk (fun e => hn (.inr ⟨b, x0, hH, e.symm⟩)), hOwn⟩
  refine ⟨h.df, h.sz, fun t => (h.tm t).later hl hext, fun c x hx => ?_, fun c hc => ?_, fun c x hx => ?_, fun c c' x x' k hx hx' hk hk' => ?_, fun c x k hx hk => ?_, h.oo, ?_, h.old.grow hH _ _⟩
  · rcases hother c x hx with ⟨hcb, hxx⟩ | ⟨hc, hx⟩
    · rw [hcb, hxx]; exact hbx hl hext
    · refine (h.bx c x hx).later hl hext (fun k hk => hkeep k (h.own c x k hx hk).2.2 (fun e => hc (h.sep c b x x0 k hx hH hk e.symm))) (updF_other hc)
  · have hcb : c ≠ b := fun e => hc (e ▸ h.dom b x0 hH)
    rw [updF_other hcb]; exact h.fresh c hc
  · rcases hother c x hx with ⟨hcb, _⟩ | ⟨_, hx⟩
    · rw [hcb]; exact h.dom b x0 hH
    · exact h.dom c x hx
  · have hbb : ∀ k, ownBlk (updF g b (g b ++ [v'])) b x1 = some k → k < w.heap.size → ownBlk g b x0 = some k := by
      intro k hk hlt
      rcases hnb k hk with e | ⟨e, _⟩
      · exact e
      · omega
    rcases hother c x hx with ⟨hcb, hxx⟩ | ⟨hc, hx⟩ <;> rcases hother c' x' hx' with ⟨hcb', hxx'⟩ | ⟨hc', hx'⟩
    · exact hcb.trans hcb'.symm
    · rw [hcb, hxx] at hk; rw [ownBlk_congr x' (updF_other hc')] at hk'
      rw [hcb]
      exact h.sep b c' x0 x' k hH hx' (hbb k hk (h.own c' x' k hx' hk').2.2) hk'
    · rw [hcb', hxx'] at hk'; rw [ownBlk_congr x (updF_other hc)] at hk
      rw [hcb']
      exact h.sep c b x x0 k hx hH hk (hbb k hk' (h.own c x k hx hk).2.2)
    · rw [ownBlk_congr x (updF_other hc)] at hk; rw [ownBlk_congr x' (updF_other hc')] at hk'
      exact h.sep c c' x x' k hx hx' hk hk'
  · rcases hother c x hx with ⟨hcb, hxx⟩ | ⟨hc, hx⟩
    · rw [hcb, hxx] at hk
      rcases hnb k hk with e | ⟨e, hlt⟩
      · obtain ⟨h1, h2, h3⟩ := h.own b x0 k hH e
        exact ⟨h1, h2, Nat.lt_of_lt_of_le h3 hgr.size⟩
      · have h1 := h.kept.size
        refine ⟨fun ho => ?_, .inr (by omega), by omega⟩
        have := h.oo k ho; omega
    · rw [ownBlk_congr x (updF_other hc)] at hk
      obtain ⟨h1, h2, h3⟩ := h.own c x k hx hk
      exact ⟨h1, h2, Nat.lt_of_lt_of_le h3 hgr.size⟩
  · refine h.kept.trans (F' := fun k => ownBlk g b x0 = some k) ⟨hgr.os, hgr.tape, hgr.output, hgr.size, fun k hk hn => hkeep k hk (fun e => hn e.symm), hdr⟩ (fun k hk e => ?_)
    rcases (h.own b x0 k hH e).2.1 with hf | hf
    · exact hf
    · omega

/-- a store into a box. -/
theorem Rel.setvar {b blk : Nat} {v0 v : AV} {vs0 vs : Array Value} {ty : TypeId} {w' : World} (h : Rel C T H D g a w) (hH : H b = some (.var v0))
    (hg : (g b)[0]? = some (.pointer (some ⟨blk, 0, none⟩))) (_hw : w.heap[blk]? = some (.cells vs0 ty (0, 0)))
    (hw' : w'.heap[blk]? = some (.cells vs ty (0, 0))) (hs : vs.size = v.cells.length) (hwo : w'.os = w.os) (hwt : w'.tape = w.tape) (hwu : w'.output = w.output) (hwz : w'.heap.size = w.heap.size) (hwd : w.drawn ≤ w'.drawn)
    (hwb : ∀ k, k ≠ blk → w'.heap[k]? = w.heap[k]?)
    (hv : ∀ j, j < v.cells.length → Rep w (Own C.O g H) g (v.cells.getD j .und) (vs.getD j undef)) :
    Rel C T (updF H b (some (.var v))) D g a w' := by
  have hbk : ownBlk g b (.var v0) = some blk := by simp [ownBlk, hg]
  have hbk' : ownBlk g b (.var v) = some blk := by simp [ownBlk, hg]
  have hother : ∀ c x, updF H b (some (.var v)) c = some x → (c = b ∧ x = .var v) ∨ (c ≠ b ∧ H c = some x) := by
    intro c x hx
    by_cases hc : c = b
    · subst hc; rw [updF_same] at hx; left; exact ⟨rfl, by injection hx with hx; exact hx.symm⟩
    · rw [updF_other hc] at hx; exact .inr ⟨hc, hx⟩
  have hOwn : ∀ k, Own C.O g (updF H b (some (.var v))) k → Own C.O g H k := by
    rintro k (hk' | ⟨c, x, hx, hk'⟩)
    · exact .inl hk'
    · rcases hother c x hx with ⟨rfl, rfl⟩ | ⟨hc, hx⟩
      · rw [hbk', ← hbk] at hk'; exact .inr ⟨c, _, hH, hk'⟩
      · exact .inr ⟨c, x, hx, hk'⟩
  have hOb : Own C.O g H blk := .inr ⟨b, _, hH, hbk⟩
  have hl : Later w (Own C.O g H) w' (Own C.O g (updF H b (some (.var v)))) :=
    ⟨by omega, fun k _ hk' => hwb k (fun e => hk' (e ▸ hOb)), fun k _ hk => hOwn k hk⟩
  refine ⟨h.df, h.sz, fun t => (h.tm t).later hl (Ext.refl g), fun c x hx => ?_, h.fresh, fun c x hx => ?_, fun c c' x x' k hx hx' hk hk' => ?_, fun c x k hx hk => ?_, h.oo, ?_, h.old.set hH _⟩
  · rcases hother c x hx with ⟨rfl, rfl⟩ | ⟨hc, hx⟩
    · exact ⟨blk, vs, ty, hg, hw', hs, fun j hj => (hv j hj).later hl (Ext.refl g)⟩
    · exact (h.bx c x hx).later hl (Ext.refl g) (fun k hk => hwb k (fun e => hc (h.sep c b x _ blk hx hH (e ▸ hk) hbk))) rfl
  · rcases hother c x hx with ⟨rfl, _⟩ | ⟨_, hx⟩
    · exact h.dom _ _ hH
    · exact h.dom c x hx
  · rcases hother c x hx with ⟨hcb, rfl⟩ | ⟨hc, hx⟩ <;> rcases hother c' x' hx' with ⟨hcb', rfl⟩ | ⟨hc', hx'⟩
    · exact hcb.trans hcb'.symm
    · rw [hcb, hbk', ← hbk] at hk; rw [hcb]; exact h.sep _ _ _ _ k hH hx' hk hk'
    · rw [hcb', hbk', ← hbk] at hk'; rw [hcb']; exact h.sep _ _ _ _ k hx hH hk hk'
    · exact h.sep _ _ _ _ k hx hx' hk hk'
  · rw [hwz]
    rcases hother c x hx with ⟨rfl, rfl⟩ | ⟨hc, hx⟩
    · rw [hbk', ← hbk] at hk; exact h.own _ _ _ hH hk
    · exact h.own _ _ _ hx hk
  · refine h.kept.trans (F' := fun k => k = blk) ⟨hwo, hwt, hwu, by omega, fun k _ hk => hwb k hk, hwd⟩ (fun k hk e => ?_)
    subst e
    rcases (h.own _ _ _ hH hbk).2.1 with hf | hf
    · exact hf
    · omega
end
end Go.AL
