/-
  An abstract logic for walks: abstract values, and what it is that a model value stands for one. Conditions: none, over any program.
-/
import Derived.WalkKit
import Derived.WalkSpells
import Derived.WalkLawsBesides
import Derived.Lib.SliceRun
import Derived.Orders
set_option linter.all false
namespace Go.AL
open Go.RowKit
inductive AV where
  | sc (v : Value)
  | agg (cs : List AV)
  | tup (vs : List AV)
  | sl (es : List AV)
  | cp (cs : List AV)
  | pt (b off : Nat)
  | ow (b ver : Nat)
  | rp (b ver z i off : Nat)
  | rs (b ver z i : Nat)
  | px (b ver n : Nat)
  | e0
  | mp (b : Nat)
  | clo (f : Nat) (cap : List AV)
  | gd (x : Bool) (v : AV)
  | nb (known val : Bool)
  | und
abbrev AV.i (n : Int) : AV := .sc (.int .i64 n)
abbrev AV.b (x : Bool) : AV := .sc (.bool x)
def AV.cells : AV → List AV
  | .agg cs => cs
  | v => [v]
inductive Rep (w : World) (O : Nat → Prop) (g : Nat → List Value) : AV → Value → Prop
  | sc (v : Value) : Rep w O g (.sc v) v
  | agg (cs : List AV) (vs : Array Value) (hl : vs.size = cs.length)
      (h : ∀ j, j < cs.length → Rep w O g (cs.getD j .und) (vs.getD j undef)) : Rep w O g (.agg cs) (.agg vs)
  | tup (cs : List AV) (vs : Array Value) (hl : vs.size = cs.length)
      (h : ∀ j, j < cs.length → Rep w O g (cs.getD j .und) (vs.getD j undef)) : Rep w O g (.tup cs) (.tuple vs)
  | sl0 (a : Option Addr) (cap : Nat) : Rep w O g (.sl []) (.slice a 0 cap)
  | sl1 (z : Nat) (es : List AV) (blk off cap : Nat) (f : Nat → Value) (hc : es.length ≤ cap)
      (hz : ∀ e ∈ es, e.cells.length = z) (hO : ¬ O blk) (hb : blk < w.heap.size)
      (hcell : ∀ i, i < es.length * z → w.cell? ⟨blk, off + i, none⟩ = some (f i))
      (hrep : ∀ i, i < es.length → ∀ j, j < z → Rep w O g ((es.getD i .und).cells.getD j .und) (f (i * z + j))) :
      Rep w O g (.sl es) (.slice (some ⟨blk, off, none⟩) es.length cap)
  | cp (cs : List AV) (blk off : Nat) (f : Nat → Value) (hO : ¬ O blk) (hb : blk < w.heap.size)
      (hcell : ∀ i, i < cs.length → w.cell? ⟨blk, off + i, none⟩ = some (f i))
      (hrep : ∀ i, i < cs.length → Rep w O g (cs.getD i .und) (f i)) : Rep w O g (.cp cs) (.pointer (some ⟨blk, off, none⟩))
  | pt (b off blk : Nat) (h : (g b)[0]? = some (.pointer (some ⟨blk, 0, none⟩))) : Rep w O g (.pt b off) (.pointer (some ⟨blk, off, none⟩))
  | ow (b ver : Nat) (a : Option Addr) (n c : Nat) (h : (g b)[ver]? = some (.slice a n c)) : Rep w O g (.ow b ver) (.slice a n c)
  | rp (b ver z i off blk n c : Nat) (h : (g b)[ver]? = some (.slice (some ⟨blk, 0, none⟩) n c)) : Rep w O g (.rp b ver z i off) (.pointer (some ⟨blk, i * z + off, none⟩))
  | rs (b ver z i blk n c o m : Nat) (h : (g b)[ver]? = some (.slice (some ⟨blk, 0, none⟩) n c)) (ho : 0 < n - i → o = i * z) : Rep w O g (.rs b ver z i) (.slice (some ⟨blk, o, none⟩) (n - i) m)
  | px (b ver n blk len c m : Nat) (h : (g b)[ver]? = some (.slice (some ⟨blk, 0, none⟩) len c)) (hn : n ≤ len) : Rep w O g (.px b ver n) (.slice (some ⟨blk, 0, none⟩) n m)
  | e0 (a : Option Addr) : Rep w O g .e0 (.slice a 0 0)
  | mp (b blk : Nat) (h : (g b)[0]? = some (.map (some blk))) : Rep w O g (.mp b) (.map (some blk))
  | clo (f : Nat) (cs : List AV) (vs : Array Value) (hl : vs.size = cs.length)
      (h : ∀ j, j < cs.length → Rep w O g (cs.getD j .und) (vs.getD j undef)) : Rep w O g (.clo f cs) (.func (.func f) #[] vs)
  | gd (x : Bool) (v : AV) (val : Value) (h : x = true → Rep w O g v val) (h' : x = false → val = undef) : Rep w O g (.gd x v) val
  | nb (known val x : Bool) (h : known = true → x = val) : Rep w O g (.nb known val) (.bool x)
  | und (val : Value) : Rep w O g .und val
def Ext (g g' : Nat → List Value) : Prop := ∀ (b ver : Nat) (v : Value), (g b)[ver]? = some v → (g' b)[ver]? = some v
theorem Ext.refl (g : Nat → List Value) : Ext g g := fun _ _ _ h => h
theorem Ext.trans {g g' g'' : Nat → List Value} (h : Ext g g') (h' : Ext g' g'') : Ext g g'' := fun b ver v hv => h' b ver v (h b ver v hv)
structure Later (w : World) (O : Nat → Prop) (w' : World) (O' : Nat → Prop) : Prop where
  size : w.heap.size ≤ w'.heap.size
  keep : ∀ k, k < w.heap.size → ¬ O k → w'.heap[k]? = w.heap[k]?
  sub : ∀ k, k < w.heap.size → O' k → O k
theorem Rep.later {w w' : World} {O O' : Nat → Prop} {g g' : Nat → List Value} {v : AV} {val : Value} (hl : Later w O w' O') (hg : Ext g g')
    (h : Rep w O g v val) : Rep w' O' g' v val := by
  induction h with
  | sc v => exact .sc v
  | agg cs vs h1 _ ih => exact .agg cs vs h1 ih
  | tup cs vs h1 _ ih => exact .tup cs vs h1 ih
  | sl0 a cap => exact .sl0 a cap
  | sl1 z es blk off cap f hc hz hO hb hcell _ ih =>
    refine .sl1 z es blk off cap f hc hz (fun h => hO (hl.sub _ hb h)) (Nat.lt_of_lt_of_le hb hl.size) (fun i hi => ?_) ih
    rw [World.cell?_of_block (w := w) (hl.keep blk hb hO)]
    exact hcell i hi
  | cp cs blk off f hO hb hcell _ ih =>
    refine .cp cs blk off f (fun h => hO (hl.sub _ hb h)) (Nat.lt_of_lt_of_le hb hl.size) (fun i hi => ?_) ih
    rw [World.cell?_of_block (w := w) (hl.keep blk hb hO)]
    exact hcell i hi
  | pt b off blk h => exact .pt b off blk (hg _ _ _ h)
  | ow b ver a n c h => exact .ow b ver a n c (hg _ _ _ h)
  | rp b ver z i off blk n c h => exact .rp b ver z i off blk n c (hg _ _ _ h)
  | rs b ver z i blk n c o m h ho => exact .rs b ver z i blk n c o m (hg _ _ _ h) ho
  | px b ver n blk len c m h hn => exact .px b ver n blk len c m (hg _ _ _ h) hn
  | e0 a => exact .e0 a
  | mp b blk h => exact .mp b blk (hg _ _ _ h)
  | clo f cs vs h1 _ ih => exact .clo f cs vs h1 ih
  | gd x v val _ h' ih => exact .gd x v val ih h'
  | nb k v x h => exact .nb k v x h
  | und val => exact .und val
theorem Rep.sub {w : World} {O O' : Nat → Prop} {g : Nat → List Value} {v : AV} {val : Value} (hO : ∀ k, O' k → O k)
    (h : Rep w O g v val) : Rep w O' g v val :=
  h.later ⟨Nat.le_refl _, fun _ _ _ => rfl, fun k _ h => hO k h⟩ (Ext.refl g)
inductive Lt (N : Nat) : AV → Prop
  | sc (v : Value) : Lt N (.sc v)
  | agg (cs : List AV) (h : ∀ c ∈ cs, Lt N c) : Lt N (.agg cs)
  | tup (cs : List AV) (h : ∀ c ∈ cs, Lt N c) : Lt N (.tup cs)
  | sl (cs : List AV) (h : ∀ c ∈ cs, Lt N c) : Lt N (.sl cs)
  | cp (cs : List AV) (h : ∀ c ∈ cs, Lt N c) : Lt N (.cp cs)
  | pt (b off : Nat) (h : b < N) : Lt N (.pt b off)
  | ow (b ver : Nat) (h : b < N) : Lt N (.ow b ver)
  | rp (b ver z i off : Nat) (h : b < N) : Lt N (.rp b ver z i off)
  | rs (b ver z i : Nat) (h : b < N) : Lt N (.rs b ver z i)
  | px (b ver n : Nat) (h : b < N) : Lt N (.px b ver n)
  | e0 : Lt N .e0
  | mp (b : Nat) (h : b < N) : Lt N (.mp b)
  | clo (f : Nat) (cs : List AV) (h : ∀ c ∈ cs, Lt N c) : Lt N (.clo f cs)
  | gd (x : Bool) (v : AV) (h : Lt N v) : Lt N (.gd x v)
  | nb (k v : Bool) : Lt N (.nb k v)
  | und : Lt N .und
theorem getD_mem {α : Type} {l : List α} {j : Nat} {d : α} (h : j < l.length) : l.getD j d ∈ l := by
  rw [List.getD_eq_getElem?_getD, List.getElem?_eq_getElem h]
  exact List.getElem_mem h
theorem Lt.cells {N : Nat} {v c : AV} (h : Lt N v) (hc : c ∈ v.cells) : Lt N c := by
  cases h with
  | agg cs h => exact h c hc
  | sc => simp [AV.cells] at hc; subst hc; exact .sc _
  | tup cs h => simp [AV.cells] at hc; subst hc; exact .tup _ h
  | sl cs h => simp [AV.cells] at hc; subst hc; exact .sl _ h
  | cp cs h => simp [AV.cells] at hc; subst hc; exact .cp _ h
  | pt b off h => simp [AV.cells] at hc; subst hc; exact .pt _ _ h
  | ow b ver h => simp [AV.cells] at hc; subst hc; exact .ow _ _ h
  | rp b ver z i off h => simp [AV.cells] at hc; subst hc; exact .rp _ _ _ _ _ h
  | rs b ver z i h => simp [AV.cells] at hc; subst hc; exact .rs _ _ _ _ h
  | px b ver n h => simp [AV.cells] at hc; subst hc; exact .px _ _ _ h
  | e0 => simp [AV.cells] at hc; subst hc; exact .e0
  | mp b h => simp [AV.cells] at hc; subst hc; exact .mp _ h
  | clo f cs h => simp [AV.cells] at hc; subst hc; exact .clo _ _ h
  | gd x v h => simp [AV.cells] at hc; subst hc; exact .gd _ _ h
  | nb k v => simp [AV.cells] at hc; subst hc; exact .nb _ _
  | und => simp [AV.cells] at hc; subst hc; exact .und
theorem Rep.reset {w : World} {O : Nat → Prop} {g g' : Nat → List Value} {N : Nat} {v : AV} {val : Value} (hg : ∀ b, b < N → g' b = g b)
    (h : Rep w O g v val) : Lt N v → Rep w O g' v val := by
  induction h with
  | sc v => exact fun _ => .sc v
  | agg cs vs h1 _ ih => exact fun hl => by cases hl with | agg _ hl => exact .agg cs vs h1 fun j hj => ih j hj (hl _ (getD_mem hj))
  | tup cs vs h1 _ ih => exact fun hl => by cases hl with | tup _ hl => exact .tup cs vs h1 fun j hj => ih j hj (hl _ (getD_mem hj))
  | sl0 a cap => exact fun _ => .sl0 a cap
  | sl1 z es blk off cap f hc hz hO hb hcell _ ih =>
    intro hl
    cases hl with
    | sl _ hl =>
      refine .sl1 z es blk off cap f hc hz hO hb hcell fun i hi j hj => ih i hi j hj ?_
      exact (hl (es.getD i .und) (getD_mem hi)).cells (getD_mem (by rw [hz _ (getD_mem hi)]; exact hj))
  | cp cs blk off f hO hb hcell _ ih => exact fun hl => by cases hl with | cp _ hl => exact .cp cs blk off f hO hb hcell fun i hi => ih i hi (hl _ (getD_mem hi))
  | pt b off blk h => exact fun hl => by cases hl with | pt _ _ hl => exact .pt b off blk (by rw [hg b hl]; exact h)
  | ow b ver a n c h => exact fun hl => by cases hl with | ow _ _ hl => exact .ow b ver a n c (by rw [hg b hl]; exact h)
  | rp b ver z i off blk n c h => exact fun hl => by cases hl with | rp _ _ _ _ _ hl => exact .rp b ver z i off blk n c (by rw [hg b hl]; exact h)
  | rs b ver z i blk n c o m h ho => exact fun hl => by cases hl with | rs _ _ _ _ hl => exact .rs b ver z i blk n c o m (by rw [hg b hl]; exact h) ho
  | px b ver n blk len c m h hn => exact fun hl => by cases hl with | px _ _ _ hl => exact .px b ver n blk len c m (by rw [hg b hl]; exact h) hn
  | e0 a => exact fun _ => .e0 a
  | mp b blk h => exact fun hl => by cases hl with | mp _ hl => exact .mp b blk (by rw [hg b hl]; exact h)
  | clo f cs vs h1 _ ih => exact fun hl => by cases hl with | clo _ _ hl => exact .clo f cs vs h1 fun j hj => ih j hj (hl _ (getD_mem hj))
  | gd x v val _ h' ih => exact fun hl => by cases hl with | gd _ _ hl => exact .gd x v val (fun hx => ih hx hl) h'
  | nb k v x h => exact fun _ => .nb k v x h
  | und val => exact fun _ => .und val
section
variable {w : World} {O : Nat → Prop} {g : Nat → List Value} {val : Value}
theorem Rep.sc_inv {v : Value} (h : Rep w O g (.sc v) val) : val = v := by cases h; rfl
theorem Rep.nb_inv {k v : Bool} (h : Rep w O g (.nb k v) val) : ∃ x : Bool, val = .bool x ∧ (k = true → x = v) := by cases h with | nb _ _ x h => exact ⟨x, rfl, h⟩
theorem Rep.agg_inv {cs : List AV} (h : Rep w O g (.agg cs) val) : ∃ vs : Array Value, val = .agg vs ∧ vs.size = cs.length ∧ ∀ j, j < cs.length → Rep w O g (cs.getD j .und) (vs.getD j undef) := by
  cases h with | agg _ vs h1 h2 => exact ⟨vs, rfl, h1, h2⟩
theorem Rep.tup_inv {cs : List AV} (h : Rep w O g (.tup cs) val) : ∃ vs : Array Value, val = .tuple vs ∧ vs.size = cs.length ∧ ∀ j, j < cs.length → Rep w O g (cs.getD j .und) (vs.getD j undef) := by
  cases h with | tup _ vs h1 h2 => exact ⟨vs, rfl, h1, h2⟩
theorem Rep.clo_inv {f : Nat} {cs : List AV} (h : Rep w O g (.clo f cs) val) : ∃ vs : Array Value, val = .func (.func f) #[] vs ∧ vs.size = cs.length ∧ ∀ j, j < cs.length → Rep w O g (cs.getD j .und) (vs.getD j undef) := by
  cases h with | clo _ _ vs h1 h2 => exact ⟨vs, rfl, h1, h2⟩
theorem Rep.pt_inv {b off : Nat} (h : Rep w O g (.pt b off) val) : ∃ blk, val = .pointer (some ⟨blk, off, none⟩) ∧ (g b)[0]? = some (.pointer (some ⟨blk, 0, none⟩)) := by
  cases h with | pt _ _ blk h => exact ⟨blk, rfl, h⟩
theorem Rep.ow_inv {b ver : Nat} (h : Rep w O g (.ow b ver) val) : ∃ a n c, val = .slice a n c ∧ (g b)[ver]? = some (.slice a n c) := by
  cases h with | ow _ _ a n c h => exact ⟨a, n, c, rfl, h⟩
theorem Rep.rp_inv {b ver z i off : Nat} (h : Rep w O g (.rp b ver z i off) val) : ∃ blk n c, val = .pointer (some ⟨blk, i * z + off, none⟩) ∧ (g b)[ver]? = some (.slice (some ⟨blk, 0, none⟩) n c) := by
  cases h with | rp _ _ _ _ _ blk n c h => exact ⟨blk, n, c, rfl, h⟩
theorem Rep.mp_inv {b : Nat} (h : Rep w O g (.mp b) val) : ∃ blk, val = .map (some blk) ∧ (g b)[0]? = some (.map (some blk)) := by cases h with | mp _ blk h => exact ⟨blk, rfl, h⟩
theorem Rep.px_inv {b ver n : Nat} (h : Rep w O g (.px b ver n) val) : ∃ blk len c m, val = .slice (some ⟨blk, 0, none⟩) n m ∧ (g b)[ver]? = some (.slice (some ⟨blk, 0, none⟩) len c) ∧ n ≤ len := by
  cases h with | px _ _ _ blk len c m h hn => exact ⟨blk, len, c, m, rfl, h, hn⟩
theorem Rep.e0_inv (h : Rep w O g .e0 val) : ∃ a, val = .slice a 0 0 := by cases h with | e0 a => exact ⟨a, rfl⟩
theorem Rep.cp_inv {cs : List AV} (h : Rep w O g (.cp cs) val) : ∃ (blk off : Nat) (f : Nat → Value), val = .pointer (some ⟨blk, off, none⟩) ∧ ¬ O blk ∧ blk < w.heap.size ∧
    (∀ i, i < cs.length → w.cell? ⟨blk, off + i, none⟩ = some (f i)) ∧ ∀ i, i < cs.length → Rep w O g (cs.getD i .und) (f i) := by
  cases h with | cp _ blk off f a b c d => exact ⟨blk, off, f, rfl, a, b, c, d⟩
theorem Rep.sl_inv {es : List AV} (h : Rep w O g (.sl es) val) : ∃ (a : Option Addr) (cap : Nat), val = .slice a es.length cap ∧ (0 < es.length → es.length ≤ cap ∧ ∃ (z blk off : Nat) (f : Nat → Value),
    a = some ⟨blk, off, none⟩ ∧ (∀ e ∈ es, e.cells.length = z) ∧ ¬ O blk ∧ blk < w.heap.size ∧ (∀ i, i < es.length * z → w.cell? ⟨blk, off + i, none⟩ = some (f i)) ∧
    ∀ i, i < es.length → ∀ j, j < z → Rep w O g ((es.getD i .und).cells.getD j .und) (f (i * z + j))) := by
  cases h with
  | sl0 a cap => exact ⟨a, cap, rfl, fun h => by simp at h⟩
  | sl1 z es blk off cap f hc hz hO hb h1 h2 => exact ⟨_, cap, rfl, fun _ => ⟨hc, z, blk, off, f, rfl, hz, hO, hb, h1, h2⟩⟩
end
end Go.AL
/-
  The abstract logic: boxes, the relation between an abstract frame and a model frame, and what each change of the world does to it. Conditions: none.
-/
namespace Go.AL
open Go.RowKit
/-! ### draws are only made, never taken back -/
theorem ask_drawn {α : Type} : ∀ (q : Ask α) (w : World), w.drawn ≤ (w.ask q).2.drawn
  | .done a, w => Nat.le_refl _
  | .ask what range k, w => by
    unfold World.ask
    dsimp only
    split
    · exact ask_drawn _ _
    · exact Nat.le_trans (Nat.le_succ _) (ask_drawn _ { w with drawn := w.drawn + 1 })
theorem sys_drawn (w : World) (c : Sys) : w.drawn ≤ (w.sys c).2.drawn := by
  have h := ask_drawn (Kernel.perform c w.os) w
  unfold World.sys
  split
  · exact Nat.le_refl _
  · rename_i r os w' hx e
    rw [e] at h
    exact h
theorem viewStore_drawn {p : Program} {w : World} {at_ : Addr} {u : TypeId} {k : Addr} {v : Value} {atomic : Bool} {r : World × List Addr} (h : w.viewStore p at_ u k v atomic = .ok r) : r.1.drawn = w.drawn := by
  unfold World.viewStore at h
  simp only [bind, Except.bind, pure, Except.pure] at h
  repeat' (split at h)
  all_goals first
    | (cases h; done)
    | (simp only [Except.ok.injEq] at h; subst h; rfl)
    | skip
theorem farStore_drawn {p : Program} {w : World} {a : Addr} {v : Value} {atomic : Bool} {r : World × List Addr} (h : w.farStore p a v atomic = .ok r) : r.1.drawn = w.drawn := by
  unfold World.farStore at h
  split at h
  · split at h
    · rename_i e
      injection h with h
      subst h
      exact viewStore_drawn e
    · cases h
  · cases h
theorem run_drawn {α : Type} {P : Program} {m : Sem α} : ∀ {w w' : World} {x : α}, m.run P w = .ok x w' → w.drawn ≤ w'.drawn := by
  induction m with
  | pure a => intro w w' x h; injection h with _ h; subst h; exact Nat.le_refl _
  | load m a k ih =>
    intro w w' x h
    unfold Sem.run at h
    split at h
    · exact ih _ h
    · split at h
      · exact ih _ h
      · cases h
  | store m a v k ih =>
    intro w w' x h
    cases v <;> simp only [Sem.run] at h
    case agg => cases h
    case tuple => cases h
    all_goals
      split at h
      · split at h
        · cases h
        · exact ih (w := w.setCell a _) h
      · split at h
        · rename_i e; rw [← farStore_drawn e]; exact ih h
        · cases h
  | new o k ih => intro w w' x h; exact ih _ (w := { w with heap := w.heap.push o }) h
  | shape r k ih => intro w w' x h; exact ih _ h
  | freeze a n k ih =>
    intro w w' x h
    have := ih (w := w.freeze a n) h
    have e : (w.freeze a n).drawn = w.drawn := by unfold World.freeze; split <;> rfl
    rwa [e] at this
  | frozen a k ih => intro w w' x h; exact ih _ h
  | getObj r k ih =>
    intro w w' x h
    unfold Sem.run at h
    split at h
    · cases h
    · exact ih _ h
    · cases h
  | setObj r o k ih =>
    intro w w' x h
    unfold Sem.run at h
    split at h
    · cases h
    · exact ih (w := { w with heap := w.heap.setIfInBounds r o }) h
    · cases h
  | choose q k ih =>
    intro w w' x h
    unfold Sem.run at h
    split at h
    · exact ih _ h
    · exact Nat.le_trans (Nat.le_succ _) (ih _ (w := { w with drawn := w.drawn + 1 }) h)
  | sys c k ih => intro w w' x h; exact Nat.le_trans (sys_drawn w c) (ih _ (w := (w.sys c).2) h)
  | program k ih => intro w w' x h; exact ih _ h
  | mark m k ih => intro w w' x h; exact ih h
  | halt h => intro w w' x h; cases h
inductive ABox where
  | var (v : AV)
  | nl
  | row (e z ver : Nat) (es : List AV)
  | ob (o : Obj)
  | mq (F : List Value → Obj) (vs : List AV)
def rowBlk : Value → Option Nat
  | .slice (some a) _ (_ + 1) => some a.block
  | _ => none
theorem rowBlk_own {v : Value} {k : Nat} (h : rowBlk v = some k) : v.ownBlock = some k := by
  unfold rowBlk at h
  split at h
  · exact h
  · cases h
def ownBlk (g : Nat → List Value) (b : Nat) : ABox → Option Nat
  | .var _ => match ((g b)[0]? : Option Value) with
    | some (.pointer (some a)) => some a.block
    | _ => none
  | .nl => none
  | .row _ _ ver _ => match ((g b)[ver]? : Option Value) with
    | some v => rowBlk v
    | none => none
  | .ob _ => match ((g b)[0]? : Option Value) with
    | some (.map (some r)) => some r
    | _ => none
  | .mq _ _ => match ((g b)[0]? : Option Value) with
    | some (.map (some r)) => some r
    | _ => none
def Own (O : Nat → Prop) (g : Nat → List Value) (H : Nat → Option ABox) (k : Nat) : Prop := O k ∨ ∃ b x, H b = some x ∧ ownBlk g b x = some k
def rowOk (w : World) (e z : Nat) (sv : Value) (n : Nat) (xs : List Value) : Prop :=
  xs.length = n * z ∧ ((n = 0 ∧ ∃ a, sv = .slice a 0 0) ∨
    ∃ g cap cur, sv = .slice (some ⟨g, 0, none⟩) n (cap + 1) ∧ w.heap[g]? = some (.cells cur e (0, 0)) ∧ n ≤ cap + 1 ∧ cap + 1 ≤ maxLen ∧ cur.size = (cap + 1) * z ∧ cur.toList.take (n * z) = xs)
theorem rowOk.of_owns {w : World} {e z : Nat} {sv : Value} {n : Nat} {xs : List Value} (h : w.ownsRow 0 e z sv n xs) : rowOk w e z sv n xs := by
  refine ⟨h.1, ?_⟩
  rcases h.2 with ⟨rfl, rfl⟩ | ⟨g, cap, cur, rfl, _, h2, h3, h4, h5, h6⟩
  · exact .inl ⟨rfl, _, rfl⟩
  · cases cap with
    | zero => exact .inl ⟨by omega, _, by rw [show n = 0 by omega]⟩
    | succ cap => exact .inr ⟨g, cap, cur, rfl, h2, h3, h4, h5, h6⟩
theorem rowOk.empty (w : World) (e z : Nat) (a : Option Addr) : rowOk w e z (.slice a 0 0) 0 [] := ⟨by simp, .inl ⟨rfl, a, rfl⟩⟩
theorem rowOk.to_owns {w : World} {e z : Nat} {sv : Value} {n : Nat} {xs : List Value} (h : rowOk w e z sv n xs) : w.ownsRow 0 e z sv n xs ∨ (n = 0 ∧ xs = [] ∧ ∃ a, sv = .slice a 0 0) := by
  rcases h.2 with ⟨h1, a, h2⟩ | ⟨g, cap, cur, h1, h2, h3, h4, h5, h6⟩
  · exact .inr ⟨h1, List.eq_nil_of_length_eq_zero (by rw [h.1, h1]; simp), a, h2⟩
  · exact .inl ⟨h.1, .inr ⟨g, cap + 1, cur, h1, Nat.zero_le _, h2, h3, h4, h5, h6⟩⟩
theorem rowOk.slice {w : World} {e z : Nat} {sv : Value} {n : Nat} {xs : List Value} (h : rowOk w e z sv n xs) : ∃ a c, sv = .slice a n c ∧ n ≤ c := by
  rcases h.2 with ⟨h1, a, h2⟩ | ⟨g, cap, cur, h1, h2, h3, h4, h5, h6⟩
  · exact ⟨a, 0, by rw [h2, h1], by omega⟩
  · exact ⟨_, _, h1, h3⟩
def BoxRep (w : World) (O : Nat → Prop) (g : Nat → List Value) (b : Nat) : ABox → Prop
  | .var v => ∃ blk vs ty, (g b)[0]? = some (.pointer (some ⟨blk, 0, none⟩)) ∧ w.heap[blk]? = some (.cells vs ty (0, 0)) ∧ vs.size = v.cells.length ∧
      ∀ j, j < v.cells.length → Rep w O g (v.cells.getD j .und) (vs.getD j undef)
  | .nl => g b = [.slice none 0 0]
  | .row e z ver es => ∃ sv xs, (g b)[ver]? = some sv ∧ (g b).length = ver + 1 ∧ rowOk w e z sv es.length xs ∧ (∀ a ∈ es, a.cells.length = z) ∧
      ∀ i, i < es.length → ∀ j, j < z → Rep w O g ((es.getD i .und).cells.getD j .und) (xs.getD (i * z + j) undef)
  | .ob o => ∃ blk, (g b)[0]? = some (.map (some blk)) ∧ w.heap[blk]? = some o
  | .mq F vs => ∃ (blk : Nat) (us : List Value), (g b)[0]? = some (.map (some blk)) ∧ w.heap[blk]? = some (F us) ∧ us.length = vs.length ∧ ∀ j, j < vs.length → Rep w O g (vs.getD j .und) (us.getD j undef)
structure Cx where
  P : Program
  n : Nat
  w0 : World
  F0 : Nat → Prop
  O : Nat → Prop
  m : Nat
  g0 : Nat → List Value
  fx : Nat → Prop
  ds : List Deferred
structure Kept (w0 : World) (F0 : Nat → Prop) (w : World) : Prop where
  os : w.os = w0.os
  tape : w.tape = w0.tape
  output : w.output = w0.output
  size : w0.heap.size ≤ w.heap.size
  block : ∀ k, k < w0.heap.size → ¬ F0 k → w.heap[k]? = w0.heap[k]?
  drawn : w0.drawn ≤ w.drawn
theorem Kept.refl (w : World) (F : Nat → Prop) : Kept w F w := ⟨rfl, rfl, rfl, Nat.le_refl _, fun _ _ _ => rfl, Nat.le_refl _⟩
theorem Kept.trans {w0 w w' : World} {F F' : Nat → Prop} (h : Kept w0 F w) (h' : Kept w F' w') (hF : ∀ k, k < w0.heap.size → F' k → F k) : Kept w0 F w' :=
  ⟨h'.os.trans h.os, h'.tape.trans h.tape, h'.output.trans h.output, Nat.le_trans h.size h'.size,
    fun k hk hn => (h'.block k (Nat.lt_of_lt_of_le hk h.size) (fun hf => hn (hF k hk hf))).trans (h.block k hk hn), Nat.le_trans h.drawn h'.drawn⟩
theorem Kept.below {w w' : World} (h : Kept w (fun _ => False) w') : Below w.heap.size w w' :=
  ⟨h.os, h.tape, h.output, h.size, fun k hk => h.block k hk id⟩
structure Old (C : Cx) (H : Nat → Option ABox) (D : Nat → Prop) (g : Nat → List Value) : Prop where
  ge : ∀ b, b < C.m → ∀ (ver : Nat) (v : Value), (C.g0 b)[ver]? = some v → (g b)[ver]? = some v
  gm : ∀ b, b < C.m → D b
  gx : ∀ b, C.fx b → b < C.m ∧ g b = C.g0 b
  gh : ∀ b x, H b = some x → ¬ C.fx b
theorem Old.mono {C : Cx} {H H' : Nat → Option ABox} {D D' : Nat → Prop} {g : Nat → List Value} (h : Old C H D g) (hH : ∀ b x, H' b = some x → ∃ y, H b = some y) (hD : ∀ b, D b → D' b) : Old C H' D' g :=
  ⟨h.ge, fun b hb => hD b (h.gm b hb), h.gx, fun b x hx => by obtain ⟨y, hy⟩ := hH b x hx; exact h.gh b y hy⟩
structure Rel (C : Cx) (T : Nat → AV) (H : Nat → Option ABox) (D : Nat → Prop) (g : Nat → List Value) (a : Act) (w : World) : Prop where
  df : a.defers = C.ds
  sz : a.tmps.size = C.n
  tm : ∀ t, Rep w (Own C.O g H) g (T t) (a.tmps.getD t undef)
  bx : ∀ b x, H b = some x → BoxRep w (Own C.O g H) g b x
  fresh : ∀ b, ¬ D b → g b = []
  dom : ∀ b x, H b = some x → D b
  sep : ∀ b b' x x' k, H b = some x → H b' = some x' → ownBlk g b x = some k → ownBlk g b' x' = some k → b = b'
  own : ∀ b x k, H b = some x → ownBlk g b x = some k → ¬ C.O k ∧ (C.F0 k ∨ C.w0.heap.size ≤ k) ∧ k < w.heap.size
  oo : ∀ k, C.O k → k < C.w0.heap.size
  kept : Kept C.w0 C.F0 w
  old : Old C H D g
def updT (n : Nat) (T : Nat → AV) (d : Option Nat) (v : AV) : Nat → AV :=
  fun t => match d with
    | some d => if t = d ∧ d < n then v else T t
    | none => T t
def updF {α : Type} (H : Nat → α) (b : Nat) (x : α) : Nat → α := fun c => if c = b then x else H c
theorem updF_same {α : Type} (H : Nat → α) (b : Nat) (x : α) : updF H b x b = x := by simp [updF]
theorem updF_other {α : Type} {H : Nat → α} {b c : Nat} {x : α} (h : c ≠ b) : updF H b x c = H c := by simp [updF, h]
theorem Old.new {C : Cx} {H : Nat → Option ABox} {D : Nat → Prop} {g : Nat → List Value} (h : Old C H D g) {b : Nat} (hb : ¬ D b) (x : ABox) (gl : List Value) :
    Old C (updF H b (some x)) (fun c => D c ∨ c = b) (updF g b gl) := by
  have hne : ∀ c, D c → c ≠ b := by rintro c hc rfl; exact hb hc
  refine ⟨fun c hc ver v hv => ?_, fun c hc => .inl (h.gm c hc), fun c hc => ?_, fun c y hy => ?_⟩
  · rw [updF_other (hne c (h.gm c hc))]; exact h.ge c hc ver v hv
  · have := h.gx c hc
    rw [updF_other (hne c (h.gm c this.1))]; exact this
  · by_cases e : c = b
    · subst e; exact fun hf => hb (h.gm _ (h.gx _ hf).1)
    · rw [updF_other e] at hy; exact h.gh c y hy
theorem Old.grow {C : Cx} {H : Nat → Option ABox} {D : Nat → Prop} {g : Nat → List Value} (h : Old C H D g) {b : Nat} {x0 : ABox} (hb : H b = some x0) (x : ABox) (v' : Value) :
    Old C (updF H b (some x)) D (updF g b (g b ++ [v'])) := by
  refine ⟨fun c hc ver v hv => ?_, h.gm, fun c hc => ?_, fun c y hy => ?_⟩
  · have := h.ge c hc ver v hv
    by_cases e : c = b
    · subst e; rw [updF_same, List.getElem?_append_left (List.getElem?_eq_some_iff.1 this).1]; exact this
    · rw [updF_other e]; exact this
  · have e : c ≠ b := by rintro rfl; exact h.gh _ _ hb hc
    rw [updF_other e]; exact h.gx c hc
  · by_cases e : c = b
    · subst e; exact h.gh _ _ hb
    · rw [updF_other e] at hy; exact h.gh c y hy
theorem Old.set {C : Cx} {H : Nat → Option ABox} {D : Nat → Prop} {g : Nat → List Value} (h : Old C H D g) {b : Nat} {x0 : ABox} (hb : H b = some x0) (x : ABox) : Old C (updF H b (some x)) D g :=
  h.mono (fun c y hy => by
    by_cases e : c = b
    · subst e; exact ⟨_, hb⟩
    · rw [updF_other e] at hy; exact ⟨y, hy⟩) (fun _ h => h)
theorem put_getD {a : Act} {d : Option Nat} {v : Value} {t : Nat} : (a.put d v).tmps.getD t undef = match d with
    | some d => if t = d ∧ d < a.tmps.size then v else a.tmps.getD t undef
    | none => a.tmps.getD t undef := by
  cases d with
  | none => rfl
  | some d =>
    simp only [Act.put, Array.getD_eq_getD_getElem?, Array.getElem?_setIfInBounds]
    by_cases h : d = t
    · subst h
      by_cases h' : d < a.tmps.size <;> simp [h']
    · have : ¬ t = d := fun e => h e.symm
      simp [h, this]
theorem put_size {a : Act} {d : Option Nat} {v : Value} : (a.put d v).tmps.size = a.tmps.size := by
  cases d <;> simp [Act.put]
theorem put_defers {a : Act} {d : Option Nat} {v : Value} : (a.put d v).defers = a.defers := by
  cases d <;> simp [Act.put]
section
variable {C : Cx} {T : Nat → AV} {H : Nat → Option ABox} {D : Nat → Prop} {g : Nat → List Value} {a : Act} {w : World}
theorem Rel.put {v : AV} {val : Value} (h : Rel C T H D g a w) (d : Option Nat) (hv : Rep w (Own C.O g H) g v val) :
    Rel C (updT C.n T d v) H D g (a.put d val) w := by
  refine { h with df := by rw [put_defers]; exact h.df, sz := by rw [put_size]; exact h.sz, tm := fun t => ?_ }
  rw [put_getD]
  cases d with
  | none => exact h.tm t
  | some d =>
    simp only [updT]
    rw [h.sz]
    split
    · exact hv
    · exact h.tm t
theorem BoxRep.later {w w' : World} {O O' : Nat → Prop} {g g' : Nat → List Value} {b : Nat} {x : ABox} (hl : Later w O w' O') (hg : Ext g g')
    (hk : ∀ k, ownBlk g b x = some k → w'.heap[k]? = w.heap[k]?) (hb : g' b = g b) (h : BoxRep w O g b x) : BoxRep w' O' g' b x := by
  cases x with
  | var v =>
    obtain ⟨blk, vs, ty, h1, h2, h3, h4⟩ := h
    refine ⟨blk, vs, ty, by rw [hb]; exact h1, ?_, h3, fun j hj => (h4 j hj).later hl hg⟩
    rw [hk blk (by simp [ownBlk, h1])]
    exact h2
  | nl => exact hb.trans h
  | row e z ver es =>
    obtain ⟨sv, xs, h1, h2, h3, h4, h5⟩ := h
    refine ⟨sv, xs, by rw [hb]; exact h1, by rw [hb]; exact h2, ?_, h4, fun i hi j hj => (h5 i hi j hj).later hl hg⟩
    refine ⟨h3.1, ?_⟩
    rcases h3.2 with h0 | ⟨gg, cap, cur, hsv, hh, rest⟩
    · exact .inl h0
    · refine .inr ⟨gg, cap, cur, hsv, ?_, rest⟩
      rw [hk gg (by simp [ownBlk, h1, hsv, rowBlk])]
      exact hh
  | ob o =>
    obtain ⟨blk, h1, h2⟩ := h
    exact ⟨blk, by rw [hb]; exact h1, by rw [hk blk (by simp [ownBlk, h1])]; exact h2⟩
  | mq F vs =>
    obtain ⟨blk, us, h1, h2, h3, h4⟩ := h
    exact ⟨blk, us, by rw [hb]; exact h1, by rw [hk blk (by simp [ownBlk, h1])]; exact h2, h3, fun j hj => (h4 j hj).later hl hg⟩
theorem Rel.grow {w' : World} (h : Rel C T H D g a w) (hk : Kept w (fun _ => False) w') : Rel C T H D g a w' := by
  have hl : Later w (Own C.O g H) w' (Own C.O g H) := ⟨hk.size, fun k hk' _ => hk.block k hk' id, fun _ _ h => h⟩
  refine ⟨h.df, h.sz, fun t => (h.tm t).later hl (Ext.refl g), fun b x hx => (h.bx b x hx).later hl (Ext.refl g) (fun k hk' => ?_) rfl, h.fresh, h.dom, h.sep,
    fun b x k hx hk' => ?_, h.oo, h.kept.trans hk (fun _ _ f => f.elim), h.old⟩
  · exact hk.block k (h.own b x k hx hk').2.2 id
  · obtain ⟨h1, h2, h3⟩ := h.own b x k hx hk'
    exact ⟨h1, h2, Nat.lt_of_lt_of_le h3 hk.size⟩
theorem Rel.drew (h : Rel C T H D g a w) : Rel C T H D g a { w with drawn := w.drawn + 1 } :=
  h.grow ⟨rfl, rfl, rfl, Nat.le_refl _, fun _ _ _ => rfl, Nat.le_succ _⟩
theorem ownBlk_congr {g g' : Nat → List Value} {b : Nat} (x : ABox) (h : g' b = g b) : ownBlk g' b x = ownBlk g b x := by
  cases x <;> simp [ownBlk, h]
theorem Ext.new {b : Nat} {l : List Value} (h : g b = []) : Ext g (updF g b l) := by
  intro c ver v hv
  by_cases hc : c = b
  · subst hc; rw [h] at hv; simp at hv
  · rw [updF_other hc]; exact hv
theorem Rel.newvar {b : Nat} {v : AV} {vs : Array Value} (h : Rel C T H D g a w) (hb : ¬ D b) (ty : TypeId) (hs : vs.size = v.cells.length)
    (hv : ∀ j, j < v.cells.length → Rep w (Own C.O g H) g (v.cells.getD j .und) (vs.getD j undef)) :
    Rel C T (updF H b (some (.var v))) (fun c => D c ∨ c = b) (updF g b [.pointer (some ⟨w.heap.size, 0, none⟩)]) a (w.alloc (.cells vs ty)) := by
  have hg0 : g b = [] := h.fresh b hb
  have hext : Ext g (updF g b [.pointer (some ⟨w.heap.size, 0, none⟩)]) := Ext.new hg0
  have hH : H b = none := by
    cases hx : H b with
    | none => rfl
    | some x => exact absurd (h.dom b x hx) hb
  have hnew : ownBlk (updF g b [.pointer (some ⟨w.heap.size, 0, none⟩)]) b (.var v) = some w.heap.size := by simp [ownBlk, updF]
  have hownlt : ∀ k, Own C.O g H k → k < w.heap.size := by
    rintro k (hk | ⟨c, x, hx, hk⟩)
    · exact Nat.lt_of_lt_of_le (h.oo k hk) h.kept.size
    · exact (h.own c x k hx hk).2.2
  have hother : ∀ c x, updF H b (some (.var v)) c = some x → (c = b ∧ x = .var v) ∨ (c ≠ b ∧ H c = some x) := by
    intro c x hx
    by_cases hc : c = b
    · subst hc; rw [updF_same] at hx; left; exact ⟨rfl, by injection hx with hx; exact hx.symm⟩
    · rw [updF_other hc] at hx; exact .inr ⟨hc, hx⟩
  have hOwn : ∀ k, k < w.heap.size → Own C.O (updF g b [.pointer (some ⟨w.heap.size, 0, none⟩)]) (updF H b (some (.var v))) k → Own C.O g H k := by
    rintro k hk (hk' | ⟨c, x, hx, hk'⟩)
    · exact .inl hk'
    · rcases hother c x hx with ⟨rfl, rfl⟩ | ⟨hc, hx⟩
      · rw [hnew] at hk'; injection hk' with hk'; omega
      · rw [ownBlk_congr x (updF_other hc)] at hk'; exact .inr ⟨c, x, hx, hk'⟩
  have hl : Later w (Own C.O g H) (w.alloc (.cells vs ty)) (Own C.O (updF g b [.pointer (some ⟨w.heap.size, 0, none⟩)]) (updF H b (some (.var v)))) :=
    ⟨by simp, fun k hk _ => Below.heap_alloc w _ k hk, hOwn⟩
  refine ⟨h.df, h.sz, fun t => (h.tm t).later hl hext, fun c x hx => ?_, fun c hc => ?_, fun c x hx => ?_, fun c c' x x' k hx hx' hk hk' => ?_, fun c x k hx hk => ?_, h.oo, ?_, h.old.new hb _ _⟩
  · rcases hother c x hx with ⟨rfl, rfl⟩ | ⟨hc, hx⟩
    · exact ⟨w.heap.size, vs, ty, by simp [updF], heap_alloc_new w _, hs, fun j hj => (hv j hj).later hl hext⟩
    · exact (h.bx c x hx).later hl hext (fun k hk => Below.heap_alloc w _ k (h.own c x k hx hk).2.2) (updF_other hc)
  · have hcb : c ≠ b := fun e => hc (.inr e)
    rw [updF_other hcb]; exact h.fresh c (fun hd => hc (.inl hd))
  · rcases hother c x hx with ⟨rfl, _⟩ | ⟨_, hx⟩
    · exact .inr rfl
    · exact .inl (h.dom c x hx)
  · rcases hother c x hx with ⟨hcb, rfl⟩ | ⟨hc, hx⟩ <;> rcases hother c' x' hx' with ⟨hcb', rfl⟩ | ⟨hc', hx'⟩
    · exact hcb.trans hcb'.symm
    · rw [hcb, hnew] at hk; rw [ownBlk_congr x' (updF_other hc')] at hk'
      injection hk with hk; have := (h.own c' x' k hx' hk').2.2; omega
    · rw [hcb', hnew] at hk'; rw [ownBlk_congr x (updF_other hc)] at hk
      injection hk' with hk'; have := (h.own c x k hx hk).2.2; omega
    · rw [ownBlk_congr x (updF_other hc)] at hk; rw [ownBlk_congr x' (updF_other hc')] at hk'
      exact h.sep c c' x x' k hx hx' hk hk'
  · rcases hother c x hx with ⟨rfl, rfl⟩ | ⟨hc, hx⟩
    · rw [hnew] at hk; injection hk with hk
      have h1 := h.kept.size
      refine ⟨fun ho => ?_, .inr (by omega), by simp; omega⟩
      have := h.oo k ho; omega
    · rw [ownBlk_congr x (updF_other hc)] at hk
      obtain ⟨h1, h2, h3⟩ := h.own c x k hx hk
      exact ⟨h1, h2, by simp; omega⟩
  · refine h.kept.trans (F' := fun _ => False) ⟨rfl, rfl, rfl, by simp, fun k hk _ => Below.heap_alloc w _ k hk, Nat.le_refl _⟩ (fun _ _ f => f.elim)
theorem Rel.newbox {b : Nat} {x0 : ABox} {gl : List Value} {o : Obj} (h : Rel C T H D g a w) (hb : ¬ D b) (hnew : ownBlk (updF g b gl) b x0 = some w.heap.size)
    (hbx : Later w (Own C.O g H) (w.alloc o) (Own C.O (updF g b gl) (updF H b (some x0))) → Ext g (updF g b gl) → BoxRep (w.alloc o) (Own C.O (updF g b gl) (updF H b (some x0))) (updF g b gl) b x0) :
    Rel C T (updF H b (some x0)) (fun c => D c ∨ c = b) (updF g b gl) a (w.alloc o) := by
  have hg0 : g b = [] := h.fresh b hb
  have hext : Ext g (updF g b gl) := Ext.new hg0
  have hother : ∀ c x, updF H b (some x0) c = some x → (c = b ∧ x = x0) ∨ (c ≠ b ∧ H c = some x) := by
    intro c x hx
    by_cases hc : c = b
    · subst hc; rw [updF_same] at hx; left; exact ⟨rfl, by injection hx with hx; exact hx.symm⟩
    · rw [updF_other hc] at hx; exact .inr ⟨hc, hx⟩
  have hOwn : ∀ k, k < w.heap.size → Own C.O (updF g b gl) (updF H b (some x0)) k → Own C.O g H k := by
    rintro k hk (hk' | ⟨c, x, hx, hk'⟩)
    · exact .inl hk'
    · rcases hother c x hx with ⟨hcb, hxx⟩ | ⟨hc, hx⟩
      · rw [hcb, hxx, hnew] at hk'; injection hk' with hk'; omega
      · rw [ownBlk_congr x (updF_other hc)] at hk'; exact .inr ⟨c, x, hx, hk'⟩
  have hl : Later w (Own C.O g H) (w.alloc o) (Own C.O (updF g b gl) (updF H b (some x0))) :=
    ⟨by simp, fun k hk _ => Below.heap_alloc w _ k hk, hOwn⟩
  refine ⟨h.df, h.sz, fun t => (h.tm t).later hl hext, fun c x hx => ?_, fun c hc => ?_, fun c x hx => ?_, fun c c' x x' k hx hx' hk hk' => ?_, fun c x k hx hk => ?_, h.oo, ?_, h.old.new hb _ _⟩
  · rcases hother c x hx with ⟨hcb, hxx⟩ | ⟨hc, hx⟩
    · rw [hcb, hxx]; exact hbx hl hext
    · exact (h.bx c x hx).later hl hext (fun k hk => Below.heap_alloc w _ k (h.own c x k hx hk).2.2) (updF_other hc)
  · have hcb : c ≠ b := fun e => hc (.inr e)
    rw [updF_other hcb]; exact h.fresh c (fun hd => hc (.inl hd))
  · rcases hother c x hx with ⟨hcb, _⟩ | ⟨_, hx⟩
    · exact .inr hcb
    · exact .inl (h.dom c x hx)
  · rcases hother c x hx with ⟨hcb, hxx⟩ | ⟨hc, hx⟩ <;> rcases hother c' x' hx' with ⟨hcb', hxx'⟩ | ⟨hc', hx'⟩
    · exact hcb.trans hcb'.symm
    · rw [hcb, hxx, hnew] at hk; rw [ownBlk_congr x' (updF_other hc')] at hk'
      injection hk with hk; have := (h.own c' x' k hx' hk').2.2; omega
    · rw [hcb', hxx', hnew] at hk'; rw [ownBlk_congr x (updF_other hc)] at hk
      injection hk' with hk'; have := (h.own c x k hx hk).2.2; omega
    · rw [ownBlk_congr x (updF_other hc)] at hk; rw [ownBlk_congr x' (updF_other hc')] at hk'
      exact h.sep c c' x x' k hx hx' hk hk'
  · rcases hother c x hx with ⟨hcb, hxx⟩ | ⟨hc, hx⟩
    · rw [hcb, hxx, hnew] at hk; injection hk with hk
      have h1 := h.kept.size
      refine ⟨fun ho => ?_, .inr (by omega), by simp; omega⟩
      have := h.oo k ho; omega
    · rw [ownBlk_congr x (updF_other hc)] at hk
      obtain ⟨h1, h2, h3⟩ := h.own c x k hx hk
      exact ⟨h1, h2, by simp; omega⟩
  · refine h.kept.trans (F' := fun _ => False) ⟨rfl, rfl, rfl, by simp, fun k hk _ => Below.heap_alloc w _ k hk, Nat.le_refl _⟩ (fun _ _ f => f.elim)
theorem Rel.newown {b : Nat} {x0 : ABox} {gl : List Value} {w' : World} (h : Rel C T H D g a w) (hb : ¬ D b) (hk0 : Kept w (fun _ => False) w')
    (hnew : ∀ k, ownBlk (updF g b gl) b x0 = some k → w.heap.size ≤ k ∧ k < w'.heap.size)
    (hbx : Later w (Own C.O g H) w' (Own C.O (updF g b gl) (updF H b (some x0))) → Ext g (updF g b gl) → BoxRep w' (Own C.O (updF g b gl) (updF H b (some x0))) (updF g b gl) b x0) :
    Rel C T (updF H b (some x0)) (fun c => D c ∨ c = b) (updF g b gl) a w' := by
  have hg0 : g b = [] := h.fresh b hb
  have hext : Ext g (updF g b gl) := Ext.new hg0
  have hother : ∀ c x, updF H b (some x0) c = some x → (c = b ∧ x = x0) ∨ (c ≠ b ∧ H c = some x) := by
    intro c x hx
    by_cases hc : c = b
    · subst hc; rw [updF_same] at hx; left; exact ⟨rfl, by injection hx with hx; exact hx.symm⟩
    · rw [updF_other hc] at hx; exact .inr ⟨hc, hx⟩
  have hOwn : ∀ k, k < w.heap.size → Own C.O (updF g b gl) (updF H b (some x0)) k → Own C.O g H k := by
    rintro k hk (hk' | ⟨c, x, hx, hk'⟩)
    · exact .inl hk'
    · rcases hother c x hx with ⟨hcb, hxx⟩ | ⟨hc, hx⟩
      · rw [hcb, hxx] at hk'; have := (hnew k hk').1; omega
      · rw [ownBlk_congr x (updF_other hc)] at hk'; exact .inr ⟨c, x, hx, hk'⟩
  have hkeep : ∀ k, k < w.heap.size → w'.heap[k]? = w.heap[k]? := fun k hk => hk0.block k hk id
  have hl : Later w (Own C.O g H) w' (Own C.O (updF g b gl) (updF H b (some x0))) := ⟨hk0.size, fun k hk _ => hkeep k hk, hOwn⟩
  refine ⟨h.df, h.sz, fun t => (h.tm t).later hl hext, fun c x hx => ?_, fun c hc => ?_, fun c x hx => ?_, fun c c' x x' k hx hx' hk hk' => ?_, fun c x k hx hk => ?_, h.oo, ?_, h.old.new hb _ _⟩
  · rcases hother c x hx with ⟨hcb, hxx⟩ | ⟨hc, hx⟩
    · rw [hcb, hxx]; exact hbx hl hext
    · exact (h.bx c x hx).later hl hext (fun k hk => hkeep k (h.own c x k hx hk).2.2) (updF_other hc)
  · have hcb : c ≠ b := fun e => hc (.inr e)
    rw [updF_other hcb]; exact h.fresh c (fun hd => hc (.inl hd))
  · rcases hother c x hx with ⟨hcb, _⟩ | ⟨_, hx⟩
    · exact .inr hcb
    · exact .inl (h.dom c x hx)
  · rcases hother c x hx with ⟨hcb, hxx⟩ | ⟨hc, hx⟩ <;> rcases hother c' x' hx' with ⟨hcb', hxx'⟩ | ⟨hc', hx'⟩
    · exact hcb.trans hcb'.symm
    · rw [hcb, hxx] at hk; rw [ownBlk_congr x' (updF_other hc')] at hk'
      have := (h.own c' x' k hx' hk').2.2; have := (hnew k hk).1; omega
    · rw [hcb', hxx'] at hk'; rw [ownBlk_congr x (updF_other hc)] at hk
      have := (h.own c x k hx hk).2.2; have := (hnew k hk').1; omega
    · rw [ownBlk_congr x (updF_other hc)] at hk; rw [ownBlk_congr x' (updF_other hc')] at hk'
      exact h.sep c c' x x' k hx hx' hk hk'
  · rcases hother c x hx with ⟨hcb, hxx⟩ | ⟨hc, hx⟩
    · rw [hcb, hxx] at hk
      have h1 := h.kept.size
      have h2 := hnew k hk
      refine ⟨fun ho => ?_, .inr (by omega), h2.2⟩
      have := h.oo k ho; omega
    · rw [ownBlk_congr x (updF_other hc)] at hk
      obtain ⟨h1, h2, h3⟩ := h.own c x k hx hk
      exact ⟨h1, h2, Nat.lt_of_lt_of_le h3 hk0.size⟩
  · exact h.kept.trans hk0 (fun _ _ f => f.elim)
theorem Rel.newnl {b : Nat} (h : Rel C T H D g a w) (hb : ¬ D b) :
    Rel C T (updF H b (some .nl)) (fun c => D c ∨ c = b) (updF g b [.slice none 0 0]) a w := by
  have hg0 : g b = [] := h.fresh b hb
  have hext : Ext g (updF g b [.slice none 0 0]) := Ext.new hg0
  have hnew : ownBlk (updF g b [.slice none 0 0]) b .nl = none := rfl
  have hother : ∀ c x, updF H b (some .nl) c = some x → (c = b ∧ x = .nl) ∨ (c ≠ b ∧ H c = some x) := by
    intro c x hx
    by_cases hc : c = b
    · subst hc; rw [updF_same] at hx; left; exact ⟨rfl, by injection hx with hx; exact hx.symm⟩
    · rw [updF_other hc] at hx; exact .inr ⟨hc, hx⟩
  have hOwn : ∀ k, Own C.O (updF g b [.slice none 0 0]) (updF H b (some .nl)) k → Own C.O g H k := by
    rintro k (hk' | ⟨c, x, hx, hk'⟩)
    · exact .inl hk'
    · rcases hother c x hx with ⟨rfl, rfl⟩ | ⟨hc, hx⟩
      · rw [hnew] at hk'; cases hk'
      · rw [ownBlk_congr x (updF_other hc)] at hk'; exact .inr ⟨c, x, hx, hk'⟩
  have hl : Later w (Own C.O g H) w (Own C.O (updF g b [.slice none 0 0]) (updF H b (some .nl))) :=
    ⟨Nat.le_refl _, fun k _ _ => rfl, fun k _ => hOwn k⟩
  refine ⟨h.df, h.sz, fun t => (h.tm t).later hl hext, fun c x hx => ?_, fun c hc => ?_, fun c x hx => ?_, fun c c' x x' k hx hx' hk hk' => ?_, fun c x k hx hk => ?_, h.oo, h.kept, h.old.new hb _ _⟩
  · rcases hother c x hx with ⟨rfl, rfl⟩ | ⟨hc, hx⟩
    · exact updF_same _ _ _
    · exact (h.bx c x hx).later hl hext (fun _ _ => rfl) (updF_other hc)
  · have hcb : c ≠ b := fun e => hc (.inr e)
    rw [updF_other hcb]; exact h.fresh c (fun hd => hc (.inl hd))
  · rcases hother c x hx with ⟨rfl, _⟩ | ⟨_, hx⟩
    · exact .inr rfl
    · exact .inl (h.dom c x hx)
  · rcases hother c x hx with ⟨hcb, rfl⟩ | ⟨hc, hx⟩ <;> rcases hother c' x' hx' with ⟨hcb', rfl⟩ | ⟨hc', hx'⟩
    · exact hcb.trans hcb'.symm
    · rw [hcb, hnew] at hk; cases hk
    · rw [hcb', hnew] at hk'; cases hk'
    · rw [ownBlk_congr x (updF_other hc)] at hk; rw [ownBlk_congr x' (updF_other hc')] at hk'
      exact h.sep c c' x x' k hx hx' hk hk'
  · rcases hother c x hx with ⟨rfl, rfl⟩ | ⟨hc, hx⟩
    · rw [hnew] at hk; cases hk
    · rw [ownBlk_congr x (updF_other hc)] at hk; exact h.own c x k hx hk
theorem Rel.regrow {b : Nat} {x0 x1 : ABox} {v' : Value} {w' : World} (h : Rel C T H D g a w) (hH : H b = some x0) (hgr : w.grownBy w' (ownBlk g b x0)) (hdr : w.drawn ≤ w'.drawn)
    (hnb : ∀ k, ownBlk (updF g b (g b ++ [v'])) b x1 = some k → ownBlk g b x0 = some k ∨ (w.heap.size ≤ k ∧ k < w'.heap.size))
    (hbx : Later w (Own C.O g H) w' (Own C.O (updF g b (g b ++ [v'])) (updF H b (some x1))) → Ext g (updF g b (g b ++ [v'])) → BoxRep w' (Own C.O (updF g b (g b ++ [v'])) (updF H b (some x1))) (updF g b (g b ++ [v'])) b x1) :
    Rel C T (updF H b (some x1)) D (updF g b (g b ++ [v'])) a w' := by
  have hext : Ext g (updF g b (g b ++ [v'])) := by
    intro c ver v hv
    by_cases hc : c = b
    · subst hc; rw [updF_same, List.getElem?_append_left (List.getElem?_eq_some_iff.1 hv).1]; exact hv
    · rw [updF_other hc]; exact hv
  have hother : ∀ c x, updF H b (some x1) c = some x → (c = b ∧ x = x1) ∨ (c ≠ b ∧ H c = some x) := by
    intro c x hx
    by_cases hc : c = b
    · subst hc; rw [updF_same] at hx; left; exact ⟨rfl, by injection hx with hx; exact hx.symm⟩
    · rw [updF_other hc] at hx; exact .inr ⟨hc, hx⟩
  have hOwn : ∀ k, k < w.heap.size → Own C.O (updF g b (g b ++ [v'])) (updF H b (some x1)) k → Own C.O g H k := by
    rintro k hk (hk' | ⟨c, x, hx, hk'⟩)
    · exact .inl hk'
    · rcases hother c x hx with ⟨hcb, hxx⟩ | ⟨hc, hx⟩
      · rw [hcb, hxx] at hk'
        rcases hnb k hk' with e | ⟨e, _⟩
        · exact .inr ⟨b, x0, hH, e⟩
        · omega
      · rw [ownBlk_congr x (updF_other hc)] at hk'; exact .inr ⟨c, x, hx, hk'⟩
  have hkeep : ∀ k, k < w.heap.size → some k ≠ ownBlk g b x0 → w'.heap[k]? = w.heap[k]? := hgr.block
  have hl : Later w (Own C.O g H) w' (Own C.O (updF g b (g b ++ [v'])) (updF H b (some x1))) :=
    ⟨hgr.size, fun k hk hn => hkeep k hk (fun e => hn (.inr ⟨b, x0, hH, e.symm⟩)), hOwn⟩
  refine ⟨h.df, h.sz, fun t => (h.tm t).later hl hext, fun c x hx => ?_, fun c hc => ?_, fun c x hx => ?_, fun c c' x x' k hx hx' hk hk' => ?_, fun c x k hx hk => ?_, h.oo, ?_, h.old.grow hH _ _⟩
  · rcases hother c x hx with ⟨hcb, hxx⟩ | ⟨hc, hx⟩
    · rw [hcb, hxx]; exact hbx hl hext
    · refine (h.bx c x hx).later hl hext (fun k hk => hkeep k (h.own c x k hx hk).2.2 (fun e => hc (h.sep c b x x0 k hx hH hk e.symm))) (updF_other hc)
  · have hcb : c ≠ b := fun e => hc (e ▸ h.dom b x0 hH)
    rw [updF_other hcb]; exact h.fresh c hc
  · rcases hother c x hx with ⟨hcb, _⟩ | ⟨_, hx⟩
    · rw [hcb]; exact h.dom b x0 hH
    · exact h.dom c x hx
  · have hbb : ∀ k, ownBlk (updF g b (g b ++ [v'])) b x1 = some k → k < w.heap.size → ownBlk g b x0 = some k := by
      intro k hk hlt
      rcases hnb k hk with e | ⟨e, _⟩
      · exact e
      · omega
    rcases hother c x hx with ⟨hcb, hxx⟩ | ⟨hc, hx⟩ <;> rcases hother c' x' hx' with ⟨hcb', hxx'⟩ | ⟨hc', hx'⟩
    · exact hcb.trans hcb'.symm
    · rw [hcb, hxx] at hk; rw [ownBlk_congr x' (updF_other hc')] at hk'
      rw [hcb]
      exact h.sep b c' x0 x' k hH hx' (hbb k hk (h.own c' x' k hx' hk').2.2) hk'
    · rw [hcb', hxx'] at hk'; rw [ownBlk_congr x (updF_other hc)] at hk
      rw [hcb']
      exact h.sep c b x x0 k hx hH hk (hbb k hk' (h.own c x k hx hk).2.2)
    · rw [ownBlk_congr x (updF_other hc)] at hk; rw [ownBlk_congr x' (updF_other hc')] at hk'
      exact h.sep c c' x x' k hx hx' hk hk'
  · rcases hother c x hx with ⟨hcb, hxx⟩ | ⟨hc, hx⟩
    · rw [hcb, hxx] at hk
      rcases hnb k hk with e | ⟨e, hlt⟩
      · obtain ⟨h1, h2, h3⟩ := h.own b x0 k hH e
        exact ⟨h1, h2, Nat.lt_of_lt_of_le h3 hgr.size⟩
      · have h1 := h.kept.size
        refine ⟨fun ho => ?_, .inr (by omega), by omega⟩
        have := h.oo k ho; omega
    · rw [ownBlk_congr x (updF_other hc)] at hk
      obtain ⟨h1, h2, h3⟩ := h.own c x k hx hk
      exact ⟨h1, h2, Nat.lt_of_lt_of_le h3 hgr.size⟩
  · refine h.kept.trans (F' := fun k => ownBlk g b x0 = some k) ⟨hgr.os, hgr.tape, hgr.output, hgr.size, fun k hk hn => hkeep k hk (fun e => hn e.symm), hdr⟩ (fun k hk e => ?_)
    rcases (h.own b x0 k hH e).2.1 with hf | hf
    · exact hf
    · omega
theorem Rel.setvar {b blk : Nat} {v0 v : AV} {vs0 vs : Array Value} {ty : TypeId} {w' : World} (h : Rel C T H D g a w) (hH : H b = some (.var v0))
    (hg : (g b)[0]? = some (.pointer (some ⟨blk, 0, none⟩))) (_hw : w.heap[blk]? = some (.cells vs0 ty (0, 0)))
    (hw' : w'.heap[blk]? = some (.cells vs ty (0, 0))) (hs : vs.size = v.cells.length) (hwo : w'.os = w.os) (hwt : w'.tape = w.tape) (hwu : w'.output = w.output) (hwz : w'.heap.size = w.heap.size) (hwd : w.drawn ≤ w'.drawn)
    (hwb : ∀ k, k ≠ blk → w'.heap[k]? = w.heap[k]?)
    (hv : ∀ j, j < v.cells.length → Rep w (Own C.O g H) g (v.cells.getD j .und) (vs.getD j undef)) :
    Rel C T (updF H b (some (.var v))) D g a w' := by
  have hbk : ownBlk g b (.var v0) = some blk := by simp [ownBlk, hg]
  have hbk' : ownBlk g b (.var v) = some blk := by simp [ownBlk, hg]
  have hother : ∀ c x, updF H b (some (.var v)) c = some x → (c = b ∧ x = .var v) ∨ (c ≠ b ∧ H c = some x) := by
    intro c x hx
    by_cases hc : c = b
    · subst hc; rw [updF_same] at hx; left; exact ⟨rfl, by injection hx with hx; exact hx.symm⟩
    · rw [updF_other hc] at hx; exact .inr ⟨hc, hx⟩
  have hOwn : ∀ k, Own C.O g (updF H b (some (.var v))) k → Own C.O g H k := by
    rintro k (hk' | ⟨c, x, hx, hk'⟩)
    · exact .inl hk'
    · rcases hother c x hx with ⟨rfl, rfl⟩ | ⟨hc, hx⟩
      · rw [hbk', ← hbk] at hk'; exact .inr ⟨c, _, hH, hk'⟩
      · exact .inr ⟨c, x, hx, hk'⟩
  have hOb : Own C.O g H blk := .inr ⟨b, _, hH, hbk⟩
  have hl : Later w (Own C.O g H) w' (Own C.O g (updF H b (some (.var v)))) :=
    ⟨by omega, fun k _ hk' => hwb k (fun e => hk' (e ▸ hOb)), fun k _ hk => hOwn k hk⟩
  refine ⟨h.df, h.sz, fun t => (h.tm t).later hl (Ext.refl g), fun c x hx => ?_, h.fresh, fun c x hx => ?_, fun c c' x x' k hx hx' hk hk' => ?_, fun c x k hx hk => ?_, h.oo, ?_, h.old.set hH _⟩
  · rcases hother c x hx with ⟨rfl, rfl⟩ | ⟨hc, hx⟩
    · exact ⟨blk, vs, ty, hg, hw', hs, fun j hj => (hv j hj).later hl (Ext.refl g)⟩
    · exact (h.bx c x hx).later hl (Ext.refl g) (fun k hk => hwb k (fun e => hc (h.sep c b x _ blk hx hH (e ▸ hk) hbk))) rfl
  · rcases hother c x hx with ⟨rfl, _⟩ | ⟨_, hx⟩
    · exact h.dom _ _ hH
    · exact h.dom c x hx
  · rcases hother c x hx with ⟨hcb, rfl⟩ | ⟨hc, hx⟩ <;> rcases hother c' x' hx' with ⟨hcb', rfl⟩ | ⟨hc', hx'⟩
    · exact hcb.trans hcb'.symm
    · rw [hcb, hbk', ← hbk] at hk; rw [hcb]; exact h.sep _ _ _ _ k hH hx' hk hk'
    · rw [hcb', hbk', ← hbk] at hk'; rw [hcb']; exact h.sep _ _ _ _ k hx hH hk hk'
    · exact h.sep _ _ _ _ k hx hx' hk hk'
  · rw [hwz]
    rcases hother c x hx with ⟨rfl, rfl⟩ | ⟨hc, hx⟩
    · rw [hbk', ← hbk] at hk; exact h.own _ _ _ hH hk
    · exact h.own _ _ _ hx hk
  · refine h.kept.trans (F' := fun k => k = blk) ⟨hwo, hwt, hwu, by omega, fun k _ hk => hwb k hk, hwd⟩ (fun k hk e => ?_)
    subst e
    rcases (h.own _ _ _ hH hbk).2.1 with hf | hf
    · exact hf
    · omega
end
end Go.AL
/-
  The abstract logic: what single operations give, over abstract values. Conditions: none.
-/
namespace Go.AL
open Go.RowKit
def aggB (P : Program) (t : TypeId) : Bool := match P.underlying t with
  | some (.struct _) | some (.array _ _) => true
  | _ => false
def tyI (P : Program) (t : TypeId) : Option (Nat × Bool) := match P.info? t, P.underlying t with
  | some i, some _ => some (i.size, aggB P t)
  | _, _ => none
theorem tyI_some {P : Program} {t : TypeId} {n : Nat} {b : Bool} (h : tyI P t = some (n, b)) : ∃ i d, P.info? t = some i ∧ P.underlying t = some d ∧ i.size = n ∧ aggB P t = b := by
  unfold tyI at h
  split at h
  · rename_i i d h1 h2
    simp only [Option.some.injEq, Prod.mk.injEq] at h
    exact ⟨i, d, h1, h2, h.1, h.2⟩
  · cases h
def fldI (P : Program) (s : TypeId) (f : Nat) : Option (Nat × Nat × Bool) := match P.underlying s with
  | some (.struct fs) => match fs[f]? with
    | some fd => match tyI P fd.type with
      | some (n, ag) => if n = 0 ∨ (ag = false ∧ n ≠ 1) then none else some (fd.offset, n, ag)
      | none => none
    | none => none
  | _ => none
def elI (P : Program) (t : TypeId) : Option (TypeId × Nat × Nat × Bool) := match P.underlying t with
  | some (.slice e) => match P.info? e, tyI P e with
    | some i, some (n, ag) => if n = 0 ∨ (ag = false ∧ n ≠ 1) then none else some (e, n, i.bytes, ag)
    | _, _ => none
  | _ => none
def arI (P : Program) (t : TypeId) : Option (Nat × Nat × Bool) := match P.underlying t with
  | some (.array m e) => match tyI P e with
    | some (n, ag) => if n = 0 ∨ (ag = false ∧ n ≠ 1) then none else some (m, n, ag)
    | none => none
  | _ => none
def zI (P : Program) (t : TypeId) : Option (List Value) := (P.info? t).bind fun i => i.zero.map fun z => z.cells.toList
theorem fldI_some {P : Program} {s f fo sz : Nat} {ag : Bool} (h : fldI P s f = some (fo, sz, ag)) :
    ∃ fs fd, P.underlying s = some (.struct fs) ∧ fs[f]? = some fd ∧ tyI P fd.type = some (sz, ag) ∧ sz ≠ 0 ∧ fd.offset = fo ∧ (ag = false → sz = 1) := by
  unfold fldI at h
  split at h
  · rename_i fs hs
    split at h
    · rename_i fd hfd
      split at h
      · rename_i n ag' hi
        split at h
        · cases h
        · rename_i hne
          simp only [Option.some.injEq, Prod.mk.injEq] at h
          obtain ⟨h1, rfl, rfl⟩ := h
          exact ⟨fs, fd, hs, hfd, hi, by omega, h1, fun ha => Decidable.byContradiction fun hn => hne (.inr ⟨ha, hn⟩)⟩
      · cases h
    · cases h
  · cases h
theorem elI_some {P : Program} {t e n by_ : Nat} {ag : Bool} (h : elI P t = some (e, n, by_, ag)) :
    ∃ i, P.underlying t = some (.slice e) ∧ P.info? e = some i ∧ i.size = n ∧ i.bytes = by_ ∧ tyI P e = some (n, ag) ∧ n ≠ 0 ∧ (ag = false → n = 1) := by
  unfold elI at h
  split at h
  · rename_i e' hs
    split at h
    · rename_i i n' ag' hi ht
      split at h
      · cases h
      · rename_i hne
        simp only [Option.some.injEq, Prod.mk.injEq] at h
        obtain ⟨rfl, rfl, h1, rfl⟩ := h
        obtain ⟨i', d, h2, h3, h4, h5⟩ := tyI_some ht
        rw [hi] at h2
        injection h2 with h2
        subst h2
        exact ⟨i, hs, hi, h4, h1, ht, by omega, fun ha => Decidable.byContradiction fun hn => hne (.inr ⟨ha, hn⟩)⟩
    · cases h
  · cases h
theorem arI_some {P : Program} {t m n : Nat} {ag : Bool} (h : arI P t = some (m, n, ag)) :
    ∃ e, P.underlying t = some (.array m e) ∧ tyI P e = some (n, ag) ∧ n ≠ 0 ∧ (ag = false → n = 1) := by
  unfold arI at h
  split at h
  · rename_i m' e hs
    split at h
    · rename_i n' ag' ht
      split at h
      · cases h
      · rename_i hne
        simp only [Option.some.injEq, Prod.mk.injEq] at h
        obtain ⟨rfl, rfl, rfl⟩ := h
        exact ⟨e, hs, ht, by omega, fun ha => Decidable.byContradiction fun hn => hne (.inr ⟨ha, hn⟩)⟩
    · cases h
  · cases h
def AV.get : AV → AV
  | .gd _ v => v
  | v => v
def AV.cond : AV → Bool
  | .gd x _ => x
  | _ => true
def AV.one : AV → Bool
  | .sc v => v.oneCell'
  | .agg _ | .tup _ | .gd _ _ | .und => false
  | _ => true
def AV.ok : AV → Bool
  | .agg _ => true
  | v => v.one
theorem Rep.get {w : World} {O : Nat → Prop} {g : Nat → List Value} {v : AV} {val : Value} (h : Rep w O g v val) (hc : v.cond = true) : Rep w O g v.get val := by
  cases v with
  | gd x v => cases h with | gd x v val h _ => exact h hc
  | _ => exact h
theorem Rep.oneCell {w : World} {O : Nat → Prop} {g : Nat → List Value} {v : AV} {val : Value} (h : Rep w O g v val)
    (h1 : v.one = true) : val.oneCell' = true := by
  cases h with
  | sc => exact h1
  | agg | tup | gd | und => simp [AV.one] at h1
  | _ => rfl
theorem cells_one {val : Value} (h : val.oneCell' = true) : val.cells = #[val] := by cases val <;> first | rfl | simp [Value.oneCell'] at h
theorem Rep.cells {w : World} {O : Nat → Prop} {g : Nat → List Value} {v : AV} {val : Value} (h : Rep w O g v val)
    (hok : v.ok = true) :
    val.cells.size = v.cells.length ∧ ∀ j, j < v.cells.length → Rep w O g (v.cells.getD j .und) (val.cells.getD j undef) := by
  by_cases hv : ∃ cs, v = .agg cs
  · obtain ⟨cs, rfl⟩ := hv
    cases h with
    | agg _ vs h1 h2 => exact ⟨h1, h2⟩
  · have h1 : v.one = true := by cases v <;> first | exact hok | exact absurd ⟨_, rfl⟩ hv
    have hc : v.cells = [v] := by cases v <;> first | rfl | exact absurd ⟨_, rfl⟩ hv
    rw [cells_one (h.oneCell h1), hc]
    refine ⟨rfl, fun j hj => ?_⟩
    have : j = 0 := by simp at hj; exact hj
    subst this
    exact h
end Go.AL
/-
  The abstract logic: single operations, what each gives over abstract values, and that it does. Conditions: none.
-/
namespace Go.AL
open Go.RowKit
def avCell : Value → AV
  | .slice none 0 0 => .e0
  | v => .sc v
def avOf : Value → AV
  | .agg cs => .agg (cs.toList.map avCell)
  | v => avCell v
def evO (T : Nat → AV) : Operand → AV
  | .tmp t => T t
  | .const v => avOf v
  | .func f => .clo f []
  | .global _ => .und
def ev (T : Nat → AV) (x : Operand) : AV := (evO T x).get
theorem rep_avCell (w : World) (O : Nat → Prop) (g : Nat → List Value) (v : Value) : Rep w O g (avCell v) v := by
  unfold avCell
  split
  · exact .e0 none
  · exact .sc v
theorem rep_avOf (w : World) (O : Nat → Prop) (g : Nat → List Value) (v : Value) : Rep w O g (avOf v) v := by
  cases v with
  | agg cs =>
    refine .agg _ _ (by simp) fun j hj => ?_
    have hj' : j < cs.size := by simpa using hj
    have e1 : (cs.toList.map avCell).getD j AV.und = avCell (cs[j]) := by
      rw [List.getD_eq_getElem?_getD, List.getElem?_map]; simp [hj']
    have e2 : cs.getD j undef = cs[j] := by simp [Array.getD, hj']
    rw [e1, e2]; exact rep_avCell _ _ _ _
  | slice a n c => show Rep w O g (avCell (.slice a n c)) _; exact rep_avCell w O g _
  | _ => exact .sc _
section
variable {C : Cx} {T : Nat → AV} {H : Nat → Option ABox} {D : Nat → Prop} {g : Nat → List Value} {a : Act} {w : World}
theorem Rel.evO (h : Rel C T H D g a w) (x : Operand) : Rep w (Own C.O g H) g (evO T x) (a.eval x) := by
  cases x with
  | tmp t => exact h.tm t
  | const v => exact rep_avOf _ _ _ v
  | func f => exact .clo f [] #[] rfl (fun j hj => by simp at hj)
  | global n => exact .und _
theorem Rel.ev (h : Rel C T H D g a w) (x : Operand) (hc : (AL.evO T x).cond = true) : Rep w (Own C.O g H) g (ev T x) (a.eval x) := (h.evO x).get hc
theorem Rel.dmono {D' : Nat → Prop} (h : Rel C T H D g a w) (hD : ∀ b, D b → D' b) : Rel C T H D' g a w :=
  ⟨h.df, h.sz, h.tm, h.bx, fun b hb => h.fresh b (fun hd => hb (hD b hd)), fun b x hx => hD b (h.dom b x hx), h.sep, h.own, h.oo, h.kept, h.old.mono (fun b x hx => ⟨x, hx⟩) hD⟩
end
structure Res where
  v : AV
  wb : List (Nat × ABox)
  nw : Nat
  rb : List Nat
def updL (H : Nat → Option ABox) : List (Nat × ABox) → Nat → Option ABox
  | [] => H
  | (b, x) :: r => updL (updF H b (some x)) r
def OpS (C : Cx) (o : Oper) (T : Nat → AV) (H : Nat → Option ABox) (nx : Nat) (r : Res) : Prop :=
  ∀ T' H' D g a w, Rel C T' H' D g a w → (∀ x ∈ o.op.operands, evO T' x = evO T x) → (∀ b ∈ r.rb, H' b = H b) → (∀ i, i < r.nw → ¬ D (nx + i)) →
  ∀ (K : Act → World → Prop) (Q : Exit → Act → World → Prop),
    (∀ v w' g', Rel C T' (updL H' r.wb) (fun c => D c ∨ (nx ≤ c ∧ c < nx + r.nw)) g' a w' → Rep w' (Own C.O g' (updL H' r.wb)) g' r.v v → K (a.put o.dst v) w') → o.wp C.P a w K Q
theorem wp_of_value {P : Program} {o : Oper} {a : Act} {w w' : World} {v : Value} {K : Act → World → Prop} {Q : Exit → Act → World → Prop}
    (h : (execOp a.eval o).run P w = .ok (.value v) w') (hk : K (a.put o.dst v) w') : o.wp P a w K Q := by
  unfold Oper.wp; rw [h]; exact hk
theorem wp_of_skip {P : Program} {o : Oper} {a : Act} {w w' : World} {K : Act → World → Prop} {Q : Exit → Act → World → Prop}
    (h : (execOp a.eval o).run P w = .ok .skip w') (hk : K (a.put o.dst undef) w') : o.wp P a w K Q := by
  unfold Oper.wp; rw [h]; exact hk
theorem opS_pure {C : Cx} {o : Oper} {T : Nat → AV} {H : Nat → Option ABox} {nx : Nat} {v : AV} {rb : List Nat}
    (h : ∀ T' H' D g a w, Rel C T' H' D g a w → (∀ x ∈ o.op.operands, evO T' x = evO T x) → (∀ b ∈ rb, H' b = H b) →
      ∃ val, (execOp a.eval o).run C.P w = .ok (.value val) w ∧ Rep w (Own C.O g H') g v val) : OpS C o T H nx ⟨v, [], 0, rb⟩ := by
  intro T' H' D g a w hr hT hH _ K Q hK
  obtain ⟨val, h1, h2⟩ := h T' H' D g a w hr hT hH
  refine wp_of_value h1 (hK val w g (hr.dmono fun b hb => .inl hb) h2)
def conds (T : Nat → AV) (o : Oper) : Prop := ∀ x ∈ o.op.operands, (evO T x).cond = true
def aint (op : BinOp) (k : IntKind) (a b : Int) : Option (Prop × AV) :=
  match op with
  | .add => some (True, .sc (.int k (k.wrap (a + b))))
  | .sub => some (True, .sc (.int k (k.wrap (a - b))))
  | .mul => some (True, .sc (.int k (k.wrap (a * b))))
  | .quo => some (b ≠ 0, .sc (.int k (k.wrap (a.tdiv b))))
  | .rem => some (b ≠ 0, .sc (.int k (a.tmod b)))
  | .and => some (True, .sc (.int k (bits .and k a b)))
  | .or => some (True, .sc (.int k (bits .or k a b)))
  | .eql => some (True, .sc (.bool (decide (a = b))))
  | .neq => some (True, .sc (.bool (!decide (a = b))))
  | .lss => some (True, .sc (.bool (decide (a < b))))
  | .leq => some (True, .sc (.bool (decide (a ≤ b))))
  | .gtr => some (True, .sc (.bool (decide (b < a))))
  | .geq => some (True, .sc (.bool (decide (b ≤ a))))
  | _ => none
def ash (op : BinOp) (k : IntKind) (a b : Int) : Option (Prop × AV) :=
  match op with
  | .shl => some (0 ≤ b, .sc (.int k (k.wrap (a * 2 ^ (min b.toNat k.bits)))))
  | .shr => some (0 ≤ b, .sc (.int k (a.fdiv (2 ^ (min b.toNat k.bits)))))
  | _ => none
def abin (P : Program) (t : TypeId) (op : BinOp) (x y : AV) : Option (Prop × AV) :=
  match x, y with
  | .sc (.int k a), .sc (.int k' b) => match ash op k a b with
    | some (p, v) => some (p, v)
    | none => match aint op k a b with
      | some (p, v) => some (k = k' ∧ p, v)
      | none => none
  | .sc (.bool a), .sc (.bool b) => match op with
    | .eql => some (P.underlying t = some .bool, .sc (.bool (a == b)))
    | .neq => some (P.underlying t = some .bool, .sc (.bool (!(a == b))))
    | _ => none
  | _, _ => none
def veq : Value → Value → Bool
  | .int _ a, .int _ b => decide (a = b)
  | .bool a, .bool b => a == b
  | _, _ => false
def veqs : List Value → List Value → Bool
  | x :: xs, y :: ys => veq x y && veqs xs ys
  | _, _ => true
def aeq : AV → AV → Bool
  | .sc a, .sc b => veq a b
  | _, _ => false
def aeqs : List AV → List AV → Bool
  | x :: xs, y :: ys => aeq x y && aeqs xs ys
  | _, _ => true
def kindOf : Value → Option (Option IntKind)
  | .int k _ => some (some k)
  | .bool _ => some none
  | _ => none
def akind : AV → Option (Option IntKind)
  | .sc v => kindOf v
  | _ => none
def EqT (P : Program) (t : TypeId) (ks : List (Option IntKind)) : Prop :=
  P.eqGuardType P.depth t = false ∧ ∀ (w : World) (xs ys : Array Value), xs.toList.map kindOf = ks.map some → ys.toList.map kindOf = ks.map some →
    (Op.equalIn 10000 t (.agg xs) (.agg ys)).run P w = .ok (veqs xs.toList ys.toList) w
def apick (c x y : AV) : Option (Prop × AV) :=
  match c.get, x.get, y.get with
  | .sc (.bool c'), .sc (.bool p), .sc (.bool q) => some (c.cond = true ∧ (c' = true → x.cond = true) ∧ (c' = false → y.cond = true), .sc (.bool (bif c' then p else q)))
  | _, _, _ => none
theorem run_move {P : Program} {o : Oper} {a : Act} {w : World} {x : Operand} (h : o.op = .move x ∨ o.op = .assign x) : (execOp a.eval o).run P w = .ok (.value (a.eval x)) w := by
  unfold execOp; rcases h with h | h <;> simp only [h] <;> rfl
section
variable {C : Cx} {o : Oper} {T : Nat → AV} {H : Nat → Option ABox} {nx : Nat}
theorem opS_move {x : Operand} (h : o.op = .move x ∨ o.op = .assign x) (hc : (evO T x).cond = true) : OpS C o T H nx ⟨ev T x, [], 0, []⟩ := by
  refine opS_pure fun T' H' D g a w hr hT _ => ⟨_, run_move h, ?_⟩
  have hx : evO T' x = evO T x := hT x (by rcases h with h | h <;> simp [h, Op.operands])
  have := hr.evO x
  rw [hx] at this
  exact this.get hc
theorem opS_assign_nil (h : o.op = .assign (.const (.slice none 0 0))) : OpS C o T H nx ⟨.ow nx 0, [(nx, .nl)], 1, []⟩ := by
  intro T' H' D g a w hr _ _ hn K Q hK
  have hn0 : ¬ D nx := hn 0 (Nat.lt_succ_self 0)
  refine wp_of_value (run_move (.inr h)) (hK _ w _ ((hr.newnl hn0).dmono fun b hb => ?_) ?_)
  · rcases hb with hb | rfl
    · exact .inl hb
    · exact .inr ⟨Nat.le_refl _, Nat.lt_succ_self _⟩
  · exact .ow nx 0 none 0 0 (by simp [updF])
theorem opS_pick {c x y : Operand} {p : Prop} {v : AV} (h : o.op = .pick c x y) (hp : apick (evO T c) (evO T x) (evO T y) = some (p, v)) (hpp : p) : OpS C o T H nx ⟨v, [], 0, []⟩ := by
  refine opS_pure fun T' H' D g a w hr hT _ => ?_
  have e1 : evO T' c = evO T c := hT c (by simp [h, Op.operands])
  have e2 : evO T' x = evO T x := hT x (by simp [h, Op.operands])
  have e3 : evO T' y = evO T y := hT y (by simp [h, Op.operands])
  have r1 := hr.evO c
  have r2 := hr.evO x
  have r3 := hr.evO y
  rw [e1] at r1; rw [e2] at r2; rw [e3] at r3
  unfold apick at hp
  split at hp
  · rename_i c' p' q' hc hx hy
    simp only [Option.some.injEq, Prod.mk.injEq] at hp
    obtain ⟨rfl, rfl⟩ := hp
    obtain ⟨h1, h2, h3⟩ := hpp
    have r1' := r1.get h1
    rw [hc] at r1'
    have hcv : a.eval c = .bool c' := r1'.sc_inv
    cases c' with
    | true =>
      have r2' := r2.get (h2 rfl)
      rw [hx] at r2'
      refine ⟨a.eval x, ?_, ?_⟩
      · unfold execOp; simp only [h, hcv]; rfl
      · simpa using r2'
    | false =>
      have r3' := r3.get (h3 rfl)
      rw [hy] at r3'
      refine ⟨a.eval y, ?_, ?_⟩
      · unfold execOp; simp only [h, hcv]; rfl
      · simpa using r3'
  · cases hp
theorem run_binOp_int {P : Program} {op : BinOp} {t : TypeId} {k : IntKind} {a b : Int} {p : Prop} {v : AV} {w : World} (hp : aint op k a b = some (p, v)) (hpp : p) :
    ∃ u, v = .sc u ∧ (binOp op t (.int k a) (.int k b)).run P w = .ok u w := by
  cases op <;> simp only [aint] at hp <;> first
    | (cases hp; done)
    | (simp only [Option.some.injEq, Prod.mk.injEq] at hp
       obtain ⟨rfl, rfl⟩ := hp
       refine ⟨_, rfl, ?_⟩
       first
         | (simp [binOp, Op.intArith]; done)
         | (simp [binOp, Op.intCmp]; done)
         | (simp [binOp, Op.intCmp]; rfl)
         | (simp [binOp, Op.intCmp, bne]; rfl)
         | (simp only [binOp, Op.intDiv, ne_eq, not_true_eq_false, if_false, if_neg hpp]; rfl)
         | (simp [binOp, go_sem]; done))
theorem run_eqGuard_int {P : Program} {op : BinOp} {t : TypeId} {x y : Operand} {k k' : IntKind} {a b : Int} {w : World} : (eqGuard op t x y (.int k a) (.int k' b)).run P w = .ok () w := by
  unfold eqGuard; split <;> rfl
theorem run_eqGuard_bool {P : Program} {op : BinOp} {t : TypeId} {x y : Operand} {a b : Bool} {w : World} : (eqGuard op t x y (.bool a) (.bool b)).run P w = .ok () w := by
  unfold eqGuard; split <;> rfl
theorem opS_bin {op : BinOp} {t t' : TypeId} {x y : Operand} {p : Prop} {v : AV} (h : o.op = .binOp op t x y t') (hc1 : (evO T x).cond = true) (hc2 : (evO T y).cond = true)
    (hp : abin C.P t op (ev T x) (ev T y) = some (p, v)) (hpp : p) : OpS C o T H nx ⟨v, [], 0, []⟩ := by
  refine opS_pure fun T' H' D g a w hr hT _ => ?_
  have e1 : evO T' x = evO T x := hT x (by simp [h, Op.operands])
  have e2 : evO T' y = evO T y := hT y (by simp [h, Op.operands])
  have r1 := hr.evO x
  have r2 := hr.evO y
  rw [e1] at r1; rw [e2] at r2
  have r1 := r1.get hc1
  have r2 := r2.get hc2
  change Rep w _ g (ev T x) _ at r1
  change Rep w _ g (ev T y) _ at r2
  unfold abin at hp
  split at hp
  · rename_i k m k' m' hx hy
    rw [hx] at r1; rw [hy] at r2
    have v1 : a.eval x = .int k m := r1.sc_inv
    have v2 : a.eval y = .int k' m' := r2.sc_inv
    split at hp
    · rename_i p' v' hi
      simp only [Option.some.injEq, Prod.mk.injEq] at hp
      obtain ⟨rfl, rfl⟩ := hp
      unfold ash at hi
      split at hi
      · simp only [Option.some.injEq, Prod.mk.injEq] at hi
        obtain ⟨rfl, rfl⟩ := hi
        refine ⟨_, ?_, .sc _⟩
        unfold execOp
        simp [h, v1, v2, Sem.run_bind, run_eqGuard_int, Result.andThen_ok, binOp, Op.shift, Int.not_lt.2 hpp]
      · simp only [Option.some.injEq, Prod.mk.injEq] at hi
        obtain ⟨rfl, rfl⟩ := hi
        refine ⟨_, ?_, .sc _⟩
        unfold execOp
        simp [h, v1, v2, Sem.run_bind, run_eqGuard_int, Result.andThen_ok, binOp, Op.shift, Int.not_lt.2 hpp]
      · cases hi
    · split at hp
      · rename_i p' v' hi
        simp only [Option.some.injEq, Prod.mk.injEq] at hp
        obtain ⟨rfl, rfl⟩ := hp
        obtain ⟨rfl, hp'⟩ := hpp
        obtain ⟨u, rfl, hrun⟩ := run_binOp_int (P := C.P) (t := t) (w := w) hi hp'
        refine ⟨u, ?_, .sc u⟩
        unfold execOp
        simp only [h, v1, v2, Sem.run_bind, run_eqGuard_int, Result.andThen_ok, hrun]
        rfl
      · cases hp
  · rename_i m m' hx hy
    rw [hx] at r1; rw [hy] at r2
    have v1 : a.eval x = .bool m := r1.sc_inv
    have v2 : a.eval y = .bool m' := r2.sc_inv
    split at hp
    · simp only [Option.some.injEq, Prod.mk.injEq] at hp
      obtain ⟨rfl, rfl⟩ := hp
      have hu := hpp
      refine ⟨_, ?_, .sc _⟩
      unfold execOp
      simp [h, v1, v2, Sem.run_bind, run_eqGuard_bool, Result.andThen_ok, binOp, Op.equal, Op.maxDepth, run_equalIn_bool' w 9999 t m m' hu]
    · simp only [Option.some.injEq, Prod.mk.injEq] at hp
      obtain ⟨rfl, rfl⟩ := hp
      have hu := hpp
      refine ⟨_, ?_, .sc _⟩
      unfold execOp
      simp [h, v1, v2, Sem.run_bind, run_eqGuard_bool, Result.andThen_ok, binOp, Op.equal, Op.maxDepth, run_equalIn_bool' w 9999 t m m' hu]
    · cases hp
  · cases hp
end
end Go.AL
/-
  The abstract logic: operations on boxes, pointers and slices. Conditions: none.
-/
namespace Go.AL
open Go.RowKit
theorem cells_agg (cs : List AV) : (AV.agg cs).cells = cs := rfl
def AV.subv (v : AV) (off sz : Nat) (agg : Bool) : AV := if agg then .agg ((v.cells.drop off).take sz) else v.cells.getD off .und
def AV.setv (v : AV) (off : Nat) (x : AV) : AV :=
  if off = 0 ∧ x.cells.length = v.cells.length then x else .agg (v.cells.take off ++ x.cells ++ v.cells.drop (off + x.cells.length))
theorem getD_drop_take {α : Type} (l : List α) (off sz j : Nat) (d : α) (hj : j < sz) (h : off + sz ≤ l.length) : ((l.drop off).take sz).getD j d = l.getD (off + j) d := by
  rw [List.getD_eq_getElem?_getD, List.getD_eq_getElem?_getD, List.getElem?_take, if_pos hj, List.getElem?_drop]
theorem add_addr (blk off i : Nat) : (⟨blk, off, none⟩ : Addr).add i = ⟨blk, off + i, none⟩ := by
  unfold Addr.add; split <;> simp_all
theorem run_isAgg (P : Program) (t : TypeId) (w : World) {d : TypeDesc} (h : P.underlying t = some d) : (isAgg t).run P w = .ok (aggB P t) w := by
  unfold isAgg aggB
  simp only [Sem.run_bind, run_underlying h, Result.andThen_ok, h]
  cases d <;> rfl
theorem run_loadVar_cells {P : Program} {t : TypeId} {n : Nat} {b : Bool} {w : World} {blk off : Nat} {f : Nat → Value} (ht : tyI P t = some (n, b)) (hn : b = false → n = 1)
    (hc : ∀ j, j < n → w.cell? ⟨blk, off + j, none⟩ = some (f j)) :
    (loadVar t ⟨blk, off, none⟩).run P w = .ok (if b then .agg ((List.range n).map f).toArray else f 0) w := by
  obtain ⟨i, d, h1, h2, rfl, rfl⟩ := tyI_some ht
  unfold loadVar
  simp only [Sem.run_bind, run_isAgg P t w h2, Result.andThen_ok]
  cases hb : aggB P t with
  | true =>
    simp only [if_true, Sem.run_bind]
    unfold sizeOf
    simp only [Sem.run_bind, run_typeInfo w h1, Result.andThen_ok, Sem.run_pure]
    rw [run_loadCells w ⟨blk, off, none⟩ i.size f (fun j hj => by rw [add_addr]; exact hc j hj)]
    rfl
  | false =>
    have h0 := hc 0 (by rw [hn hb]; exact Nat.one_pos)
    simp only [Bool.false_eq_true, if_false]
    show (Sem.load Mode.plain ⟨blk, off, none⟩ Sem.pure).run P w = _
    simp only [Sem.run]
    rw [Nat.add_zero] at h0
    rw [h0]
section
variable {C : Cx} {o : Oper} {T : Nat → AV} {H : Nat → Option ABox} {nx : Nat}
theorem opS_load_pt {t : TypeId} {x : Operand} {b off n : Nat} {ag : Bool} {v : AV} (h : o.op = .load t x) (hc : (evO T x).cond = true) (hx : ev T x = .pt b off) (hb : H b = some (.var v))
    (ht : tyI C.P t = some (n, ag)) (hn : ag = false → n = 1) (hfit : off + n ≤ v.cells.length) : OpS C o T H nx ⟨v.subv off n ag, [], 0, [b]⟩ := by
  refine opS_pure fun T' H' D g a w hr hT hH => ?_
  have e1 : evO T' x = evO T x := hT x (by simp [h, Op.operands])
  have r1 := hr.evO x
  rw [e1] at r1
  have r1 := r1.get hc
  change Rep w _ g (ev T x) _ at r1
  rw [hx] at r1
  obtain ⟨blk, hv, hg⟩ := r1.pt_inv
  have hb' : H' b = some (.var v) := (hH b (by simp)).trans hb
  obtain ⟨blk', vs, ty, h1, h2, h3, h4⟩ := hr.bx b _ hb'
  have : blk' = blk := by rw [hg] at h1; simpa using h1.symm
  subst this
  refine ⟨if ag then .agg ((List.range n).map fun j => vs.getD (off + j) undef).toArray else vs.getD (off + 0) undef, ?_, ?_⟩
  · unfold execOp
    simp only [h, hv, Instr.loadAt, Instr.sureAddr]
    simp only [Sem.run_bind, Sem.run_pure, Result.andThen_ok]
    rw [run_loadVar_cells (f := fun j => vs.getD (off + j) undef) ht hn (fun j hj => by
      rw [cell_of_row w blk' (off + j) vs ty (0, 0) h2]
      have : off + j < vs.size := by omega
      simp [Array.getD, this])]
    simp only [Result.andThen_ok]
  · unfold AV.subv
    cases ag with
    | true =>
      simp only [if_true]
      refine .agg _ _ (by simp; omega) fun j hj => ?_
      have hj' : j < n := by simp at hj; omega
      rw [getD_drop_take _ _ _ _ _ hj' hfit]
      have : ((List.range n).map fun j => vs.getD (off + j) undef).toArray.getD j undef = vs.getD (off + j) undef := by simp [Array.getD, hj']
      rw [this]
      exact h4 _ (by omega)
    | false =>
      have := hn rfl
      simp only [Bool.false_eq_true, if_false]
      exact h4 off (by omega)
theorem opS_load_cp {t : TypeId} {x : Operand} {n : Nat} {ag : Bool} {cs : List AV} (h : o.op = .load t x) (hc : (evO T x).cond = true) (hx : ev T x = .cp cs)
    (ht : tyI C.P t = some (n, ag)) (hn : ag = false → n = 1) (hfit : n ≤ cs.length) : OpS C o T H nx ⟨(AV.agg cs).subv 0 n ag, [], 0, []⟩ := by
  refine opS_pure fun T' H' D g a w hr hT hH => ?_
  have e1 : evO T' x = evO T x := hT x (by simp [h, Op.operands])
  have r1 := hr.evO x
  rw [e1] at r1
  have r1 := r1.get hc
  change Rep w _ g (ev T x) _ at r1
  rw [hx] at r1
  obtain ⟨blk, off, f, hv, hO, hlt, h1, h2⟩ := r1.cp_inv
  refine ⟨if ag then .agg ((List.range n).map f).toArray else f 0, ?_, ?_⟩
  · unfold execOp
    simp only [h, hv, Instr.loadAt, Instr.sureAddr]
    simp only [Sem.run_bind, Sem.run_pure, Result.andThen_ok]
    rw [run_loadVar_cells (f := f) ht hn (fun j hj => h1 j (by omega))]
    simp only [Result.andThen_ok]
  · unfold AV.subv
    cases ag with
    | true =>
      simp only [if_true, AV.cells]
      refine .agg _ _ (by simp; omega) fun j hj => ?_
      have hj' : j < n := by simp at hj; omega
      rw [getD_drop_take _ _ _ _ _ hj' (by omega), Nat.zero_add]
      have : ((List.range n).map f).toArray.getD j undef = f j := by simp [Array.getD, hj']
      rw [this]
      exact h2 _ (by omega)
    | false =>
      have := hn rfl
      simp only [Bool.false_eq_true, if_false, AV.cells]
      exact h2 0 (by omega)
theorem opS_box {t : TypeId} {x : Operand} (h : o.op = .box t x) (hc : (evO T x).cond = true) (hok : (ev T x).ok = true) : OpS C o T H nx ⟨.pt nx 0, [(nx, .var (ev T x))], 1, []⟩ := by
  intro T' H' D g a w hr hT _ hn K Q hK
  have hn0 : ¬ D nx := hn 0 (Nat.lt_succ_self 0)
  have e1 : evO T' x = evO T x := hT x (by simp [h, Op.operands])
  have r1 := hr.evO x
  rw [e1] at r1
  have r1 := r1.get hc
  change Rep w _ g (ev T x) _ at r1
  obtain ⟨h1, h2⟩ := r1.cells hok
  have hrun : (execOp a.eval o).run C.P w = .ok (.value (.pointer (some ⟨w.heap.size, 0, none⟩))) (w.alloc (.cells (a.eval x).cells t)) := by
    unfold execOp; simp only [h, Instr.box, newVar, newRow, newObj]; rfl
  refine wp_of_value hrun (hK _ _ _ ((hr.newvar hn0 t h1 h2).dmono fun b hb => ?_) (.pt nx 0 w.heap.size (by simp [updF])))
  rcases hb with hb | rfl
  · exact .inl hb
  · exact .inr ⟨Nat.le_refl _, Nat.lt_succ_self _⟩
theorem opS_store {t : TypeId} {x y : Operand} {b off n : Nat} {ag : Bool} {v : AV} (h : o.op = .store t x y) (hc : (evO T x).cond = true) (hc' : (evO T y).cond = true) (hx : ev T x = .pt b off) (hb : H b = some (.var v))
    (ht : tyI C.P t = some (n, ag)) (hok : (ev T y).ok = true) (hone : ∀ c ∈ (ev T y).cells, c.one = true) (hlen : (ev T y).cells.length = n) (hfit : off + n ≤ v.cells.length) :
    OpS C o T H nx ⟨.und, [(b, .var (v.setv off (ev T y)))], 0, [b]⟩ := by
  intro T' H' D g a w hr hT hH _ K Q hK
  have e1 : evO T' x = evO T x := hT x (by simp [h, Op.operands])
  have e2 : evO T' y = evO T y := hT y (by simp [h, Op.operands])
  have r1 := hr.evO x
  have r2 := hr.evO y
  rw [e1] at r1; rw [e2] at r2
  have r1 := r1.get hc
  have r2 := r2.get hc'
  change Rep w _ g (ev T x) _ at r1
  change Rep w _ g (ev T y) _ at r2
  rw [hx] at r1
  obtain ⟨blk, hv, hg⟩ := r1.pt_inv
  obtain ⟨s1, s2⟩ := r2.cells hok
  have hb' : H' b = some (.var v) := (hH b (by simp)).trans hb
  obtain ⟨blk', vs, ty, h1, h2, h3, h4⟩ := hr.bx b _ hb'
  have : blk' = blk := by rw [hg] at h1; simpa using h1.symm
  subst this
  obtain ⟨i, d, hi, hu, rfl, rfl⟩ := tyI_some ht
  have hone' : ∀ u ∈ (a.eval y).cells.toList, u.oneCell' = true := by
    intro u hu
    obtain ⟨j, hj, rfl⟩ := List.mem_iff_getElem.1 hu
    have hj' : j < (a.eval y).cells.size := by simpa using hj
    have := s2 j (by omega)
    have e : (a.eval y).cells.getD j undef = (a.eval y).cells[j] := by simp [Array.getD, hj']
    rw [e] at this
    exact this.oneCell (hone _ (getD_mem (by omega)))
  have hst := run_storeCells_at (P := C.P) blk' off ty (a.eval y).cells.toList 0 vs w h2 (by simp; omega) hone'
  rw [Nat.add_zero] at hst
  have hsz : (sizeOf t).run C.P w = .ok i.size w := by
    unfold sizeOf; simp only [Sem.run_bind, run_typeInfo w hi, Result.andThen_ok, Sem.run_pure]
  have hrun : (execOp a.eval o).run C.P w = .ok .skip (w.setRow blk' (vs.toList.take off ++ (a.eval y).cells.toList ++ vs.toList.drop (off + (a.eval y).cells.toList.length)).toArray) := by
    unfold execOp
    simp only [h, hv, Instr.storeAt, Instr.sureAddr, storeVar, Sem.run_bind, Sem.run_pure, Result.andThen_ok, hsz]
    rw [if_neg (by simp; omega)]
    simp only [Sem.run_bind, Sem.run_pure, Result.andThen_ok, hst]
  refine wp_of_skip hrun (hK _ _ g ((hr.setvar hb' hg h2 (setRow_heap w blk' vs _ ty (0, 0) h2) ?_ rfl rfl rfl (by simp) (Nat.le_refl _) (fun k hk => setRow_other w blk' k _ hk) ?_).dmono fun b hb => .inl hb) (.und _))
  · unfold AV.setv
    split
    · rename_i hw; obtain ⟨rfl, hw⟩ := hw
      simp; omega
    · rw [cells_agg]; simp; omega
  · intro j hj
    have hcell : ∀ j, j < vs.size → (vs.toList.take off ++ (a.eval y).cells.toList ++ vs.toList.drop (off + (a.eval y).cells.toList.length)).toArray.getD j undef =
        if off ≤ j ∧ j < off + i.size then (a.eval y).cells.getD (j - off) undef else vs.getD j undef := by
      intro j hj
      have hs : (a.eval y).cells.toList.length = i.size := by simp; omega
      rw [Array.getD_eq_getD_getElem?]
      simp only [List.getElem?_toArray]
      by_cases c1 : j < off
      · rw [if_neg (by omega), List.append_assoc, List.getElem?_append_left (by simp; omega), List.getElem?_take, if_pos c1]
        simp [Array.getD, hj]
      · by_cases c2 : j < off + i.size
        · rw [if_pos (by omega), List.append_assoc, List.getElem?_append_right (by simp; omega), List.getElem?_append_left (by simp; omega)]
          have hm : min off vs.size = off := by omega
          simp only [List.length_take, Array.length_toList, hm]
          have : j - off < (a.eval y).cells.size := by omega
          simp [Array.getD, this]
        · rw [if_neg (by omega), List.getElem?_append_right (by simp; omega)]
          have hm : min off vs.size = off := by omega
          simp only [List.length_append, List.length_take, Array.length_toList, hm, hs, List.getElem?_drop]
          have e : off + i.size + (j - (off + i.size)) = j := by omega
          rw [e]
          simp [Array.getD, hj]
    have hvl : (v.setv off (ev T y)).cells.length = v.cells.length := by
      unfold AV.setv; split
      · rename_i hw; exact hw.2
      · rw [cells_agg]; simp; omega
    rw [hcell j (by omega)]
    have hav : (v.setv off (ev T y)).cells.getD j .und = if off ≤ j ∧ j < off + i.size then (ev T y).cells.getD (j - off) .und else v.cells.getD j .und := by
      unfold AV.setv
      split
      · rename_i hw; obtain ⟨rfl, hw⟩ := hw
        rw [if_pos (by omega)]; rfl
      · rw [cells_agg, List.getD_eq_getElem?_getD]
        by_cases c1 : j < off
        · rw [if_neg (by omega), List.append_assoc, List.getElem?_append_left (by simp; omega), List.getElem?_take, if_pos c1, List.getD_eq_getElem?_getD]
        · by_cases c2 : j < off + i.size
          · rw [if_pos (by omega), List.append_assoc, List.getElem?_append_right (by simp; omega), List.getElem?_append_left (by simp; omega)]
            have hm : min off v.cells.length = off := by omega
            simp only [List.length_take, hm, List.getD_eq_getElem?_getD]
          · rw [if_neg (by omega), List.getElem?_append_right (by simp; omega)]
            have hm : min off v.cells.length = off := by omega
            simp only [List.length_append, List.length_take, hm, List.getElem?_drop, List.getD_eq_getElem?_getD]
            have e : off + (ev T y).cells.length + (j - (off + (ev T y).cells.length)) = j := by omega
            rw [e]
    rw [hav]
    split
    · exact s2 _ (by omega)
    · exact h4 j (by omega)
end
end Go.AL
/-
  The abstract logic: fields, indexes, conversions, lengths. Conditions: none.
-/
namespace Go.AL
open Go.RowKit
theorem run_sizeOf' {P : Program} {t : TypeId} {i : TypeInfo} (h : P.info? t = some i) (w : World) : (sizeOf t).run P w = .ok i.size w := by
  unfold sizeOf; simp only [Sem.run_bind, run_typeInfo w h, Result.andThen_ok, Sem.run_pure]
theorem run_fieldAt {P : Program} {s f fo sz blk off : Nat} {ag : Bool} (h : fldI P s f = some (fo, sz, ag)) (w : World) :
    (Instr.fieldAt s (.pointer (some ⟨blk, off, none⟩)) f).run P w = .ok (.pointer (some ⟨blk, off + fo, none⟩)) w := by
  obtain ⟨fs, fd, h1, h2, h3, h4, h6, h7⟩ := fldI_some h
  obtain ⟨i, d, hi, hu, hz, _⟩ := tyI_some h3
  unfold Instr.fieldAt
  simp only [Sem.run_bind, run_underlying h1, Result.andThen_ok, h2, Instr.sureAddr, Sem.run_pure, fieldPlace, run_sizeOf' hi]
  rw [if_neg (by omega)]
  simp only [Sem.run_pure, Result.andThen_ok, add_addr, h6]
theorem run_part {P : Program} {t n off : Nat} {ag : Bool} (ht : tyI P t = some (n, ag)) (hn : ag = false → n = 1) (w : World) (cs : Array Value) (hc : off + n ≤ cs.size) :
    (part t cs off).run P w = .ok (if ag then .agg (cs.extract off (off + n)) else cs.getD off undef) w := by
  obtain ⟨i, d, hi, hu, rfl, rfl⟩ := tyI_some ht
  unfold part
  simp only [Sem.run_bind, run_isAgg P t w hu, Result.andThen_ok]
  cases hb : aggB P t with
  | true => simp only [if_true, Sem.run_bind, run_sizeOf' hi, Result.andThen_ok, Sem.run_pure]
  | false =>
    have := hn hb
    have hlt : off < cs.size := by omega
    simp only [Bool.false_eq_true, if_false, Array.getElem?_eq_getElem hlt, Sem.run_pure]
    simp [Array.getD, hlt]
section
variable {C : Cx} {o : Oper} {T : Nat → AV} {H : Nat → Option ABox} {nx : Nat}
theorem one_rep {T' : Nat → AV} {H' : Nat → Option ABox} {D : Nat → Prop} {g : Nat → List Value} {a : Act} {w : World} {x : Operand}
    (hr : Rel C T' H' D g a w) (hT : evO T' x = evO T x) (hc : (evO T x).cond = true) : Rep w (Own C.O g H') g (ev T x) (a.eval x) := by
  have r1 := hr.evO x
  rw [hT] at r1
  exact r1.get hc
theorem opS_fieldAddr_pt {s f fo sz b off : Nat} {ag : Bool} {x : Operand} (h : o.op = .fieldAddr s x f) (hc : (evO T x).cond = true) (hx : ev T x = .pt b off) (hf : fldI C.P s f = some (fo, sz, ag)) :
    OpS C o T H nx ⟨.pt b (off + fo), [], 0, []⟩ := by
  refine opS_pure fun T' H' D g a w hr hT hH => ?_
  have r1 := one_rep hr (hT x (by simp [h, Op.operands])) hc
  rw [hx] at r1
  obtain ⟨blk, hv, hg⟩ := r1.pt_inv
  refine ⟨_, ?_, .pt b (off + fo) blk hg⟩
  unfold execOp
  simp only [h, hv, Sem.run_bind, run_fieldAt hf, Result.andThen_ok, Sem.run_pure]
theorem opS_fieldAddr_cp {s f fo sz : Nat} {ag : Bool} {x : Operand} {cs : List AV} (h : o.op = .fieldAddr s x f) (hc : (evO T x).cond = true) (hx : ev T x = .cp cs) (hf : fldI C.P s f = some (fo, sz, ag)) :
    OpS C o T H nx ⟨.cp (cs.drop fo), [], 0, []⟩ := by
  refine opS_pure fun T' H' D g a w hr hT hH => ?_
  have r1 := one_rep hr (hT x (by simp [h, Op.operands])) hc
  rw [hx] at r1
  obtain ⟨blk, off, f', hv, hO, hlt, h1, h2⟩ := r1.cp_inv
  refine ⟨_, ?_, .cp _ blk (off + fo) (fun i => f' (fo + i)) hO hlt (fun i hi => ?_) (fun i hi => ?_)⟩
  · unfold execOp
    simp only [h, hv, Sem.run_bind, run_fieldAt hf, Result.andThen_ok, Sem.run_pure]
  · rw [Nat.add_assoc]; exact h1 _ (by simp at hi; omega)
  · have := h2 (fo + i) (by simp at hi; omega)
    rwa [List.getD_eq_getElem?_getD, List.getElem?_drop, ← List.getD_eq_getElem?_getD]
theorem rep_part {w : World} {O : Nat → Prop} {g : Nat → List Value} {cs : List AV} {vs : Array Value} {off n : Nat} {ag : Bool} (hn : ag = false → n = 1) (hl : vs.size = cs.length) (hfit : off + n ≤ cs.length)
    (h : ∀ j, j < cs.length → Rep w O g (cs.getD j .und) (vs.getD j undef)) : Rep w O g ((AV.agg cs).subv off n ag) (if ag then .agg (vs.extract off (off + n)) else vs.getD off undef) := by
  unfold AV.subv
  cases ag with
  | true =>
    simp only [if_true, cells_agg]
    refine .agg _ _ (by simp; omega) fun j hj => ?_
    have hj' : j < n := by simp at hj; omega
    rw [getD_drop_take _ _ _ _ _ hj' hfit]
    have : (vs.extract off (off + n)).getD j undef = vs.getD (off + j) undef := by
      have h2 : off + j < vs.size := by omega
      rw [Array.getD_eq_getD_getElem?, Array.getD_eq_getD_getElem?, Array.getElem?_extract, if_pos (by omega)]
    rw [this]
    exact h _ (by omega)
  | false =>
    have := hn rfl
    simp only [Bool.false_eq_true, if_false, cells_agg]
    exact h off (by omega)
theorem opS_field {s f fo sz : Nat} {ag : Bool} {x : Operand} {cs : List AV} (h : o.op = .field s x f) (hc : (evO T x).cond = true) (hx : ev T x = .agg cs) (hf : fldI C.P s f = some (fo, sz, ag)) (hfit : fo + sz ≤ cs.length) :
    OpS C o T H nx ⟨(AV.agg cs).subv fo sz ag, [], 0, []⟩ := by
  refine opS_pure fun T' H' D g a w hr hT hH => ?_
  have r1 := one_rep hr (hT x (by simp [h, Op.operands])) hc
  rw [hx] at r1
  obtain ⟨vs, hv, hl, h1⟩ := r1.agg_inv
  obtain ⟨fs, fd, k1, k2, k3, k4, k6, k7⟩ := fldI_some hf
  refine ⟨_, ?_, rep_part k7 hl hfit h1⟩
  have hp := run_part k3 k7 w vs (off := fo) (by omega)
  unfold execOp
  simp only [h, hv, Instr.field, Sem.run_bind, run_underlying k1, Result.andThen_ok, k2, asAgg, Sem.run_pure, k6, hp]
theorem opS_indexAddr {t e n by_ : Nat} {ag : Bool} {x y : Operand} {es : List AV} {k : IntKind} {i : Int} (h : o.op = .indexAddr t x y) (hc : (evO T x).cond = true) (hc' : (evO T y).cond = true) (hx : ev T x = .sl es)
    (hy : ev T y = .sc (.int k i)) (he : elI C.P t = some (e, n, by_, ag)) (h0 : 0 ≤ i) (hi : i < es.length) (hz : (es.getD i.toNat .und).cells.length = n) :
    OpS C o T H nx ⟨.cp (es.getD i.toNat .und).cells, [], 0, []⟩ := by
  refine opS_pure fun T' H' D g a w hr hT hH => ?_
  have r1 := one_rep hr (hT x (by simp [h, Op.operands])) hc
  have r2 := one_rep hr (hT y (by simp [h, Op.operands])) hc'
  rw [hx] at r1; rw [hy] at r2
  obtain ⟨a0, cap, hv, hrest⟩ := r1.sl_inv
  have hv2 := r2.sc_inv
  obtain ⟨hcap, z, blk, off, f, rfl, hzz, hO, hlt, h1, h2⟩ := hrest (by omega)
  obtain ⟨inf, k1, k2, k3, k4, k5, k6, k7⟩ := elI_some he
  have hlt' : i.toNat < es.length := by omega
  have hzn : z = n := by rw [← hz]; exact (hzz _ (getD_mem hlt')).symm
  subst hzn
  have hb : ∀ j, j < z → i.toNat * z + j < es.length * z := fun j hj => by
    have := Nat.mul_le_mul_right z (show i.toNat + 1 ≤ es.length by omega)
    rw [Nat.succ_mul] at this
    omega
  refine ⟨.pointer (some ⟨blk, off + i.toNat * z, none⟩), ?_, .cp _ blk (off + i.toNat * z) (fun j => f (i.toNat * z + j)) hO hlt (fun j hj => ?_) (fun j hj => ?_)⟩
  · unfold execOp
    simp only [h, hv, hv2, Instr.indexAt, asIntOf, Sem.run_bind, Sem.run_pure, Result.andThen_ok, run_underlying k1]
    rw [if_pos ⟨h0, hi⟩]
    simp only [Sem.run_bind, run_sizeOf' k2, Result.andThen_ok, Sem.run_pure, k3, add_addr]
  · rw [Nat.add_assoc]; exact h1 _ (hb j (by omega))
  · exact h2 _ hlt' j (by omega)
theorem opS_indexAddr_arr {t m n b off : Nat} {ag : Bool} {x y : Operand} {k : IntKind} {i : Int} (h : o.op = .indexAddr t x y) (hc : (evO T x).cond = true) (hc' : (evO T y).cond = true) (hx : ev T x = .pt b off)
    (hy : ev T y = .sc (.int k i)) (he : arI C.P t = some (m, n, ag)) (h0 : 0 ≤ i) (hi : i < m) : OpS C o T H nx ⟨.pt b (off + i.toNat * n), [], 0, []⟩ := by
  refine opS_pure fun T' H' D g a w hr hT hH => ?_
  have r1 := one_rep hr (hT x (by simp [h, Op.operands])) hc
  have r2 := one_rep hr (hT y (by simp [h, Op.operands])) hc'
  rw [hx] at r1; rw [hy] at r2
  obtain ⟨blk, hv, hg⟩ := r1.pt_inv
  have hv2 := r2.sc_inv
  obtain ⟨e, k1, k2, k3, k4⟩ := arI_some he
  obtain ⟨inf, d, k5, k6, k7, k8⟩ := tyI_some k2
  refine ⟨_, ?_, .pt b (off + i.toNat * n) blk hg⟩
  unfold execOp
  simp only [h, hv, hv2, Instr.indexAt, asIntOf, Instr.sureAddr, Sem.run_bind, Sem.run_pure, Result.andThen_ok, run_underlying k1]
  rw [if_pos ⟨h0, hi⟩]
  simp only [Sem.run_bind, run_sizeOf' k5, Result.andThen_ok, Sem.run_pure, k7, add_addr]
theorem opS_index {t m n : Nat} {ag : Bool} {x y : Operand} {k : IntKind} {i : Int} {cs : List AV} (h : o.op = .index t x y) (hc : (evO T x).cond = true) (hc' : (evO T y).cond = true) (hx : ev T x = .agg cs)
    (hy : ev T y = .sc (.int k i)) (he : arI C.P t = some (m, n, ag)) (h0 : 0 ≤ i) (hi : i < m) (hfit : i.toNat * n + n ≤ cs.length) : OpS C o T H nx ⟨(AV.agg cs).subv (i.toNat * n) n ag, [], 0, []⟩ := by
  refine opS_pure fun T' H' D g a w hr hT hH => ?_
  have r1 := one_rep hr (hT x (by simp [h, Op.operands])) hc
  have r2 := one_rep hr (hT y (by simp [h, Op.operands])) hc'
  rw [hx] at r1; rw [hy] at r2
  obtain ⟨vs, hv, hl, h1⟩ := r1.agg_inv
  have hv2 := r2.sc_inv
  obtain ⟨e, k1, k2, k3, k4⟩ := arI_some he
  obtain ⟨inf, d, k5, k6, k7, k8⟩ := tyI_some k2
  refine ⟨_, ?_, rep_part k4 hl hfit h1⟩
  have hp := run_part k2 k4 w vs (off := i.toNat * n) (by omega)
  unfold execOp
  simp only [h, hv, hv2, Instr.index, asIntOf, Sem.run_bind, Sem.run_pure, Result.andThen_ok, run_underlying k1]
  rw [if_pos ⟨h0, hi⟩]
  simp only [Sem.run_bind, run_sizeOf' k5, Result.andThen_ok, Sem.run_pure, k7, hp]
theorem opS_extract {x : Operand} {i : Nat} {vs : List AV} (h : o.op = .extract x i) (hc : (evO T x).cond = true) (hx : ev T x = .tup vs) (hi : i < vs.length) : OpS C o T H nx ⟨vs.getD i .und, [], 0, []⟩ := by
  refine opS_pure fun T' H' D g a w hr hT hH => ?_
  have r1 := one_rep hr (hT x (by simp [h, Op.operands])) hc
  rw [hx] at r1
  obtain ⟨us, hv, hl, h1⟩ := r1.tup_inv
  refine ⟨_, ?_, h1 i hi⟩
  have hlt : i < us.size := by omega
  unfold execOp
  simp only [h, hv, Instr.extract, Array.getElem?_eq_getElem hlt, Sem.run_bind, Sem.run_pure, Result.andThen_ok]
  simp [Array.getD, hlt]
def AV.ptr : AV → Bool
  | .pt _ _ | .cp _ | .clo _ _ | .rp _ _ _ _ _ => true
  | _ => false
theorem opS_nilCheck {x : Operand} (h : o.op = .nilCheck x) (hc : (evO T x).cond = true) (hx : (ev T x).ptr = true) : OpS C o T H nx ⟨ev T x, [], 0, []⟩ := by
  refine opS_pure fun T' H' D g a w hr hT hH => ?_
  have r1 := one_rep hr (hT x (by simp [h, Op.operands])) hc
  refine ⟨_, ?_, r1⟩
  generalize hy : ev T x = y at r1 hx
  unfold execOp
  simp only [h]
  cases y <;> simp [AV.ptr] at hx
  · obtain ⟨blk, off, f, hv, _⟩ := r1.cp_inv; rw [hv]; rfl
  · obtain ⟨blk, hv, _⟩ := r1.pt_inv; rw [hv]; rfl
  · obtain ⟨blk, n, c, hv, _⟩ := r1.rp_inv; rw [hv]; rfl
  · obtain ⟨vs, hv, _⟩ := r1.clo_inv; rw [hv]; rfl
theorem opS_makeFunc {f : Nat} {cap : Array Operand} (h : o.op = .makeFunc (.func f) #[] cap) (hc : ∀ x ∈ cap, (evO T x).cond = true) : OpS C o T H nx ⟨.clo f (cap.toList.map (ev T)), [], 0, []⟩ := by
  refine opS_pure fun T' H' D g a w hr hT hH => ?_
  refine ⟨.func (.func f) #[] (cap.map a.eval), ?_, .clo f _ _ (by simp) fun j hj => ?_⟩
  · unfold execOp
    simp only [h, Instr.makeFunc, Array.map_empty, Sem.run_bind, Sem.run_pure, Result.andThen_ok]
  · have hj' : j < cap.size := by simpa using hj
    have e1 : (cap.toList.map (ev T)).getD j .und = ev T cap[j] := by
      rw [List.getD_eq_getElem?_getD, List.getElem?_map]; simp [hj']
    have e2 : (cap.map a.eval).getD j undef = a.eval cap[j] := by simp [Array.getD, hj']
    rw [e1, e2]
    exact one_rep hr (hT _ (by simp [h, Op.operands])) (hc _ (Array.getElem_mem hj'))
def ikI (P : Program) (t : TypeId) : Option IntKind := match P.underlying t with
  | some (.int k) => some k
  | _ => none
theorem opS_convert {s t : Nat} {x : Operand} {k k' : IntKind} {n : Int} (h : o.op = .convert s t x) (hc : (evO T x).cond = true) (hx : ev T x = .sc (.int k n)) (hs : ikI C.P s ≠ none) (ht : ikI C.P t = some k') :
    OpS C o T H nx ⟨.sc (.int k' (k'.wrap n)), [], 0, []⟩ := by
  refine opS_pure fun T' H' D g a w hr hT hH => ?_
  have r1 := one_rep hr (hT x (by simp [h, Op.operands])) hc
  rw [hx] at r1
  have hv := r1.sc_inv
  have h1 : C.P.underlying t = some (.int k') := by unfold ikI at ht; split at ht <;> simp_all
  obtain ⟨k2, h2⟩ : ∃ k2, C.P.underlying s = some (.int k2) := by
    unfold ikI at hs; split at hs
    · exact ⟨_, by assumption⟩
    · exact absurd rfl hs
  refine ⟨_, ?_, .sc _⟩
  unfold execOp
  simp only [h, hv, convert, Sem.run_bind, run_underlying h1, run_underlying h2, Result.andThen_ok, Conv.intToInt, Sem.run_pure]
def aun (op : UnOp) : AV → Option AV
  | .sc (.int k n) => match op with
    | .neg => some (.sc (.int k (k.wrap (0 - n))))
    | _ => none
  | .sc (.bool b) => match op with
    | .not => some (.sc (.bool !b))
    | _ => none
  | _ => none
theorem opS_un {op : UnOp} {t : Nat} {x : Operand} {v : AV} (h : o.op = .unOp op t x) (hc : (evO T x).cond = true) (hv : aun op (ev T x) = some v) : OpS C o T H nx ⟨v, [], 0, []⟩ := by
  refine opS_pure fun T' H' D g a w hr hT hH => ?_
  have r1 := one_rep hr (hT x (by simp [h, Op.operands])) hc
  unfold aun at hv
  split at hv
  · rename_i k n hx
    rw [hx] at r1
    have hv' := r1.sc_inv
    split at hv
    · cases hv
      refine ⟨_, ?_, .sc _⟩
      unfold execOp
      simp [h, hv', Op.unary, Op.intArith]
    · cases hv
  · rename_i b hx
    rw [hx] at r1
    have hv' := r1.sc_inv
    split at hv
    · cases hv
      refine ⟨_, ?_, .sc _⟩
      unfold execOp
      simp [h, hv', Op.unary]
    · cases hv
  · cases hv
end
end Go.AL
/-
  The abstract logic: zero values, composite values, lengths, least and greatest, equality of structs. Conditions: none.
-/
namespace Go.AL
open Go.RowKit
def zav : List Value → Nat → List AV
  | [], _ => []
  | .slice none 0 0 :: r, n => .ow n 0 :: zav r (n + 1)
  | v :: r, n => .sc v :: zav r n
def zbx : List Value → Nat → List (Nat × ABox)
  | [], _ => []
  | .slice none 0 0 :: r, n => (n, .nl) :: zbx r (n + 1)
  | _ :: r, n => zbx r n
def zcn : List Value → Nat
  | [] => 0
  | .slice none 0 0 :: r => zcn r + 1
  | _ :: r => zcn r
theorem updL_append (H : Nat → Option ABox) (a b : List (Nat × ABox)) : updL H (a ++ b) = updL (updL H a) b := by
  induction a generalizing H with
  | nil => rfl
  | cons x a ih => obtain ⟨k, v⟩ := x; exact ih _
theorem zav_length (zs : List Value) : ∀ n, (zav zs n).length = zs.length := by
  induction zs with
  | nil => intro n; rfl
  | cons v r ih =>
    intro n
    unfold zav
    split
    · exact absurd ‹_› (by simp)
    · rename_i h; injection h with h1 h2; subst h2; simp [ih]
    · rename_i h; injection h with h1 h2; subst h2; simp [ih]
section
variable {C : Cx} {T : Nat → AV} {a : Act} {w : World}
theorem newnls (zs : List Value) : ∀ (n : Nat) {H : Nat → Option ABox} {D : Nat → Prop} {g : Nat → List Value}, Rel C T H D g a w → (∀ i, i < zcn zs → ¬ D (n + i)) →
    ∃ g', Ext g g' ∧ Rel C T (updL H (zbx zs n)) (fun c => D c ∨ (n ≤ c ∧ c < n + zcn zs)) g' a w ∧
      ∀ j, j < zs.length → Rep w (Own C.O g' (updL H (zbx zs n))) g' ((zav zs n).getD j .und) (zs.getD j undef) := by
  induction zs with
  | nil => exact fun n H D g h _ => ⟨g, Ext.refl g, h.dmono fun b hb => .inl hb, fun j hj => by simp at hj⟩
  | cons v r ih =>
    intro n H D g h hD
    by_cases hv : v = .slice none 0 0
    · subst hv
      have e1 : zcn (Value.slice none 0 0 :: r) = zcn r + 1 := rfl
      have e2 : zbx (Value.slice none 0 0 :: r) n = (n, .nl) :: zbx r (n + 1) := rfl
      have e3 : zav (Value.slice none 0 0 :: r) n = .ow n 0 :: zav r (n + 1) := rfl
      rw [e1] at hD ⊢
      rw [e2, e3]
      have hn : ¬ D n := hD 0 (Nat.succ_pos _)
      obtain ⟨g', hx, hr, hrep⟩ := ih (n + 1) (h.newnl hn) (fun i hi hd => by
        rcases hd with hd | hd
        · exact hD (i + 1) (by omega) (by rw [show n + (i + 1) = n + 1 + i by omega]; exact hd)
        · omega)
      refine ⟨g', (Ext.new (h.fresh n hn)).trans hx, hr.dmono fun b hb => ?_, fun j hj => ?_⟩
      · rcases hb with (hb | hb) | hb
        · exact .inl hb
        · exact .inr (by omega)
        · exact .inr (by omega)
      · cases j with
        | zero => exact .ow n 0 none 0 0 (hx n 0 _ (by simp [updF]))
        | succ j => exact hrep j (by simpa using hj)
    · have e1 : zcn (v :: r) = zcn r := by cases v <;> first | rfl | (rename_i x y z; cases x <;> first | rfl | (cases y <;> first | rfl | (cases z <;> first | rfl | exact absurd rfl hv)))
      have e2 : zbx (v :: r) n = zbx r n := by cases v <;> first | rfl | (rename_i x y z; cases x <;> first | rfl | (cases y <;> first | rfl | (cases z <;> first | rfl | exact absurd rfl hv)))
      have e3 : zav (v :: r) n = .sc v :: zav r n := by cases v <;> first | rfl | (rename_i x y z; cases x <;> first | rfl | (cases y <;> first | rfl | (cases z <;> first | rfl | exact absurd rfl hv)))
      rw [e1] at hD ⊢
      rw [e2, e3]
      obtain ⟨g', hx, hr, hrep⟩ := ih n h hD
      refine ⟨g', hx, hr, fun j hj => ?_⟩
      cases j with
      | zero => exact .sc v
      | succ j => exact hrep j (by simpa using hj)
end
theorem zI_some {P : Program} {t : TypeId} {zs : List Value} (h : zI P t = some zs) : ∃ i z, P.info? t = some i ∧ i.zero = some z ∧ z.cells.toList = zs := by
  unfold zI at h
  cases hi : P.info? t with
  | none => simp [hi] at h
  | some i =>
    simp only [hi, Option.bind_some] at h
    cases hz : i.zero with
    | none => simp [hz] at h
    | some z => simp only [hz, Option.map_some, Option.some.injEq] at h; exact ⟨i, z, rfl, hz, h⟩
theorem run_zeroValue {P : Program} {t : TypeId} {i : TypeInfo} {z : Value} (hi : P.info? t = some i) (hz : i.zero = some z) (w : World) : (zeroValue t).run P w = .ok z w := by
  unfold zeroValue; simp only [Sem.run_bind, run_typeInfo w hi, Result.andThen_ok, hz, Sem.run_pure]
section
variable {C : Cx} {o : Oper} {T : Nat → AV} {H : Nat → Option ABox} {nx : Nat}
theorem opS_alloc {t : Nat} {zs : List Value} (h : o.op = .alloc t) (hz : zI C.P t = some zs) :
    OpS C o T H nx ⟨.pt (nx + zcn zs) 0, zbx zs nx ++ [(nx + zcn zs, .var (.agg (zav zs nx)))], zcn zs + 1, []⟩ := by
  intro T' H' D g a w hr hT _ hn K Q hK
  obtain ⟨i, z, hi, hz0, hzs⟩ := zI_some hz
  obtain ⟨g', hx, hr', hrep⟩ := newnls zs nx hr (fun i hi => hn i (by simp only; omega))
  have hn0 : ¬ (D (nx + zcn zs) ∨ (nx ≤ nx + zcn zs ∧ nx + zcn zs < nx + zcn zs)) := by
    rintro (hd | hd)
    · exact hn _ (Nat.lt_succ_self _) hd
    · omega
  have hsz : z.cells.size = (AV.agg (zav zs nx)).cells.length := by rw [cells_agg, zav_length, ← hzs]; simp
  have hrel := hr'.newvar (v := .agg (zav zs nx)) (vs := z.cells) hn0 t hsz (fun j hj => by
    rw [cells_agg, zav_length] at hj
    have := hrep j hj
    rw [← hzs] at this
    rw [cells_agg]
    have e : z.cells.toList.getD j undef = z.cells.getD j undef := by rw [List.getD_eq_getElem?_getD, Array.getD_eq_getD_getElem?, Array.getElem?_toList]
    rw [e] at this
    rw [hzs] at this
    exact this)
  have hrun : (execOp a.eval o).run C.P w = .ok (.value (.pointer (some ⟨w.heap.size, 0, none⟩))) (w.alloc (.cells z.cells t)) := by
    unfold execOp
    simp only [h, Instr.alloc, Sem.run_bind, run_zeroValue hi hz0, Result.andThen_ok, newVar, newRow, newObj]
    rfl
  refine wp_of_value hrun (hK _ _ (updF g' (nx + zcn zs) [.pointer (some ⟨w.heap.size, 0, none⟩)]) ?_ ?_)
  · simp only [updL_append]
    refine hrel.dmono fun b hb => ?_
    rcases hb with (hb | hb) | rfl
    · exact .inl hb
    · exact .inr (by omega)
    · exact .inr (by omega)
  · exact .pt _ 0 w.heap.size (by simp [updF])
def plI (P : Program) (t : TypeId) : Option (List (Nat × Nat) × List Value) := match P.info? t, P.underlying t with
  | some it, some (.struct fields) => match it.zero, fields.toList.mapM (fun f => (P.info? f.type).map fun i => (f.offset, i.size)) with
    | some z, some places => some (places, z.cells.toList)
    | _, _ => none
  | some it, some (.array m e) => match it.zero, P.info? e with
    | some z, some ie => some ((List.range m).map fun i => (i * ie.size, ie.size), z.cells.toList)
    | _, _ => none
  | _, _ => none
theorem fill_congr {f f' : Nat → Option (Nat × Nat)} : ∀ (parts : List (Nat × Value)) (cs : Array Value), (∀ p ∈ parts, f p.1 = f' p.1) → Instr.fill f cs parts = Instr.fill f' cs parts
  | [], _, _ => rfl
  | (i, v) :: r, cs, h => by
    have h0 := h (i, v) (List.mem_cons_self ..)
    simp only at h0
    simp only [Instr.fill, h0]
    split
    · rfl
    · split
      · rfl
      · exact fill_congr r _ (fun p hp => h p (List.mem_cons_of_mem _ hp))
theorem built_of {P : Program} {t : TypeId} {pl : List (Nat × Nat)} {zs : List Value} (h : plI P t = some (pl, zs)) (parts : List (Nat × Value)) (hp : ∀ p ∈ parts, p.1 < pl.length) :
    P.built t parts = Instr.fill (pl[·]?) zs.toArray parts := by
  unfold plI at h
  unfold Program.built
  split at h
  · rename_i it fields hi hu
    simp only [hi, hu]
    split at h
    · rename_i z places hz hm
      simp only [Option.some.injEq, Prod.mk.injEq] at h
      obtain ⟨rfl, rfl⟩ := h
      simp only [hz, hm]
      simp
    · cases h
  · rename_i it m e hi hu
    simp only [hi, hu]
    split at h
    · rename_i z ie hz he
      simp only [Option.some.injEq, Prod.mk.injEq] at h
      obtain ⟨rfl, rfl⟩ := h
      simp only [hz, he]
      rw [Array.toArray_toList]
      refine fill_congr _ _ fun p hpp => ?_
      have := hp p hpp
      simp only [List.length_map, List.length_range] at this
      simp [this]
    · cases h
  · cases h
theorem foldset : ∀ (l : List Value) (k off : Nat) (cs : Array Value), ((l.zipIdx k).foldl (fun (cs : Array Value) (x : Value × Nat) => cs.setIfInBounds (off + x.2) x.1) cs).size = cs.size ∧
    ∀ m, m < cs.size → ((l.zipIdx k).foldl (fun (cs : Array Value) (x : Value × Nat) => cs.setIfInBounds (off + x.2) x.1) cs).getD m undef =
      if off + k ≤ m ∧ m < off + k + l.length then l.getD (m - (off + k)) undef else cs.getD m undef
  | [], k, off, cs => ⟨rfl, fun m _ => by
      rw [if_neg (by simp only [List.length_nil]; omega)]; rfl⟩
  | v :: l, k, off, cs => by
    obtain ⟨h1, h2⟩ := foldset l (k + 1) off (cs.setIfInBounds (off + k) v)
    simp only [List.zipIdx_cons, List.foldl_cons]
    refine ⟨by rw [h1]; simp, fun m hm => ?_⟩
    rw [h2 m (by simpa using hm)]
    have hset : (cs.setIfInBounds (off + k) v).getD m undef = if m = off + k then v else cs.getD m undef := by
      rw [Array.getD_eq_getD_getElem?, Array.getElem?_setIfInBounds, Array.getD_eq_getD_getElem?]
      by_cases e : off + k = m
      · subst e; simp [hm]
      · have : ¬ m = off + k := fun h => e h.symm
        simp [e, this]
    simp only [List.length_cons]
    by_cases c1 : off + (k + 1) ≤ m ∧ m < off + (k + 1) + l.length
    · rw [if_pos c1, if_pos (by omega), show m - (off + k) = (m - (off + (k + 1))) + 1 by omega, List.getD_cons_succ]
    · rw [if_neg c1, hset]
      by_cases c2 : m = off + k
      · subst c2; simp
      · rw [if_neg c2, if_neg (by omega)]
def afNext (pl : List (Nat × Nat)) (cs : List AV) (i : Nat) (v : AV) : List AV := match pl[i]? with
  | some (off, _) => cs.take off ++ v.cells ++ cs.drop (off + v.cells.length)
  | none => cs
def afV (pl : List (Nat × Nat)) : List AV → List (Nat × AV) → List AV
  | cs, [] => cs
  | cs, (i, v) :: r => afV pl (afNext pl cs i v) r
def afP (pl : List (Nat × Nat)) : List AV → List (Nat × AV) → Prop
  | _, [] => True
  | cs, (i, v) :: r => (match pl[i]? with
    | some (off, sz) => v.ok = true ∧ v.cells.length = sz ∧ off + sz ≤ cs.length
    | none => False) ∧ afP pl (afNext pl cs i v) r
theorem rep_fill {w : World} {O : Nat → Prop} {g : Nat → List Value} {pl : List (Nat × Nat)} : ∀ (parts : List (Nat × AV)) (us : List (Nat × Value)) (cs : List AV) (vs : Array Value), us.map (·.1) = parts.map (·.1) →
    (∀ j, j < parts.length → Rep w O g (parts.getD j (0, .und)).2 (us.getD j (0, undef)).2) → vs.size = cs.length → (∀ j, j < cs.length → Rep w O g (cs.getD j .und) (vs.getD j undef)) → afP pl cs parts →
    ∃ vs', Instr.fill (pl[·]?) vs us = some vs' ∧ vs'.size = (afV pl cs parts).length ∧ ∀ j, j < (afV pl cs parts).length → Rep w O g ((afV pl cs parts).getD j .und) (vs'.getD j undef)
  | [], us, cs, vs, hm, _, hl, hr, _ => by
    have : us = [] := by cases us with | nil => rfl | cons _ _ => simp at hm
    subst this
    exact ⟨vs, rfl, hl, hr⟩
  | (i, v) :: parts, [], cs, vs, hm, _, _, _, _ => by simp at hm
  | (i, v) :: parts, (i', u) :: us, cs, vs, hm, hrep, hl, hr, hp => by
    simp only [List.map_cons, List.cons.injEq] at hm
    obtain ⟨rfl, hm⟩ := hm
    obtain ⟨hp0, hp⟩ := hp
    have h0 : Rep w O g v u := hrep 0 (by simp)
    split at hp0
    · rename_i off sz hpl
      obtain ⟨hok, hsz, hfit⟩ := hp0
      obtain ⟨s1, s2⟩ := h0.cells hok
      have hfill : Instr.fill (pl[·]?) vs ((i', u) :: us) = Instr.fill (pl[·]?) ((u.cells.toList.zipIdx).foldl (fun (cs : Array Value) (x : Value × Nat) => cs.setIfInBounds (off + x.2) x.1) vs) us := by
        simp only [Instr.fill, hpl]
        rw [if_neg (by simp; omega)]
        congr 1
        rw [← Array.foldl_toList, Array.toList_zipIdx]
      obtain ⟨f1, f2⟩ := foldset u.cells.toList 0 off vs
      have hnl : (afNext pl cs i' v).length = cs.length := by
        simp only [afNext, hpl, List.length_append, List.length_take, List.length_drop]; omega
      rw [hfill]
      refine rep_fill parts us _ _ hm (fun j hj => hrep (j + 1) (by simpa using hj)) (by rw [f1, hnl, hl]) (fun j hj => ?_) hp
      rw [hnl] at hj
      rw [f2 j (by omega)]
      have hav : (afNext pl cs i' v).getD j .und = if off ≤ j ∧ j < off + sz then v.cells.getD (j - off) .und else cs.getD j .und := by
        simp only [afNext, hpl]
        rw [List.getD_eq_getElem?_getD]
        by_cases c1 : j < off
        · rw [if_neg (by omega), List.append_assoc, List.getElem?_append_left (by simp; omega), List.getElem?_take, if_pos c1, List.getD_eq_getElem?_getD]
        · by_cases c2 : j < off + sz
          · rw [if_pos (by omega), List.append_assoc, List.getElem?_append_right (by simp; omega), List.getElem?_append_left (by simp; omega)]
            have hmm : min off cs.length = off := by omega
            simp only [List.length_take, hmm, List.getD_eq_getElem?_getD]
          · rw [if_neg (by omega), List.getElem?_append_right (by simp; omega)]
            have hmm : min off cs.length = off := by omega
            simp only [List.length_append, List.length_take, hmm, List.getElem?_drop, List.getD_eq_getElem?_getD]
            have e : off + v.cells.length + (j - (off + v.cells.length)) = j := by omega
            rw [e]
      rw [hav]
      have hul : u.cells.toList.length = sz := by simp; omega
      simp only [Nat.add_zero, hul]
      split
      · rename_i hc
        have := s2 (j - off) (by omega)
        rwa [Array.getD_eq_getD_getElem?, ← Array.getElem?_toList, ← List.getD_eq_getElem?_getD] at this
      · exact hr j hj
    · exact hp0.elim
def alen (H : Nat → Option ABox) : AV → Option (Int × List Nat)
  | .sl es => some (es.length, [])
  | .e0 => some (0, [])
  | .ow b ver => match H b with
    | some .nl => if ver = 0 then some (0, [b]) else none
    | some (.row _ _ ver' es) => if ver = ver' then some (es.length, [b]) else none
    | _ => none
  | _ => none
theorem opS_build {t : Nat} {ps : Array (Nat × Operand)} {pl : List (Nat × Nat)} {zs : List Value} (h : o.op = .build t ps) (hpl : plI C.P t = some (pl, zs)) (hc : ∀ p ∈ ps.toList, (evO T p.2).cond = true)
    (hi : ∀ p ∈ ps.toList, p.1 < pl.length) (hp : afP pl (zav zs nx) (ps.toList.map fun p => (p.1, ev T p.2))) :
    OpS C o T H nx ⟨.agg (afV pl (zav zs nx) (ps.toList.map fun p => (p.1, ev T p.2))), zbx zs nx, zcn zs, []⟩ := by
  intro T' H' D g a w hr hT _ hn K Q hK
  obtain ⟨g', hx, hr', hrep⟩ := newnls zs nx hr hn
  have hev : ∀ p ∈ ps.toList, Rep w (Own C.O g' (updL H' (zbx zs nx))) g' (ev T p.2) (a.eval p.2) := fun p hpp => one_rep hr' (hT p.2 (by simp only [h, Op.operands]; simp; exact ⟨p.1, by simpa using hpp⟩)) (hc p hpp)
  obtain ⟨vs', hf, hs, hv⟩ := rep_fill (w := w) (O := Own C.O g' (updL H' (zbx zs nx))) (g := g') (pl := pl) (ps.toList.map fun p => (p.1, ev T p.2)) (ps.toList.map fun p => (p.1, a.eval p.2)) (zav zs nx) zs.toArray (by simp) (fun j hj => by
      have hj' : j < ps.size := by simpa using hj
      have e1 : (ps.toList.map fun p => (p.1, ev T p.2)).getD j (0, .und) = (ps[j].1, ev T ps[j].2) := by rw [List.getD_eq_getElem?_getD, List.getElem?_map]; simp [hj']
      have e2 : (ps.toList.map fun p => (p.1, a.eval p.2)).getD j (0, undef) = (ps[j].1, a.eval ps[j].2) := by rw [List.getD_eq_getElem?_getD, List.getElem?_map]; simp [hj']
      rw [e1, e2]; exact hev ps[j] (by simp)) (by simp [zav_length]) (fun j hj => by
      rw [zav_length] at hj
      have := hrep j hj
      have e : zs.toArray.getD j undef = zs.getD j undef := by rw [Array.getD_eq_getD_getElem?, List.getD_eq_getElem?_getD]; simp
      rw [e]; exact this) hp
  have hb : C.P.built t (ps.map fun p => (p.1, a.eval p.2)).toList = some vs' := by
    rw [built_of hpl _ (fun p hpp => by simp at hpp; obtain ⟨x, y, hxy, rfl⟩ := hpp; exact hi (x, y) (by simpa using hxy))]
    rw [← hf]; simp
  refine wp_of_value (v := .agg vs') ?_ (hK _ w g' hr' (.agg _ _ hs hv))
  unfold execOp
  simp only [h, Sem.run_bind, run_build w t _ vs' hb, Result.andThen_ok, Sem.run_pure]
theorem rep_alen {C : Cx} {T' : Nat → AV} {H' : Nat → Option ABox} {D : Nat → Prop} {g : Nat → List Value} {a : Act} {w : World} {v : AV} {val : Value} {n : Int} {rb : List Nat}
    (hr : Rel C T' H' D g a w) (hH : ∀ b ∈ rb, H' b = H b) (hv : Rep w (Own C.O g H') g v val) (h : alen H v = some (n, rb)) : ∃ a0 m c, val = .slice a0 m c ∧ (m : Int) = n := by
  unfold alen at h
  split at h
  · simp only [Option.some.injEq, Prod.mk.injEq] at h
    obtain ⟨a0, cap, hv, _⟩ := hv.sl_inv
    exact ⟨_, _, _, hv, h.1⟩
  · simp only [Option.some.injEq, Prod.mk.injEq] at h
    obtain ⟨a0, hv⟩ := hv.e0_inv
    exact ⟨_, _, _, hv, h.1⟩
  · rename_i b ver
    obtain ⟨a0, m, c, hv', hg⟩ := hv.ow_inv
    split at h
    · rename_i hb
      split at h
      · simp only [Option.some.injEq, Prod.mk.injEq] at h
        obtain ⟨rfl, rfl⟩ := h
        have := hr.bx b .nl ((hH b (by simp)).trans hb)
        rename_i h0; subst h0
        have hg' : g b = [.slice none 0 0] := this
        rw [hg'] at hg
        simp only [List.getElem?_cons_zero, Option.some.injEq, Value.slice.injEq] at hg
        exact ⟨_, _, _, hv', by omega⟩
      · cases h
    · rename_i e z ver' es hb
      split at h
      · simp only [Option.some.injEq, Prod.mk.injEq] at h
        obtain ⟨rfl, rfl⟩ := h
        rename_i h0; subst h0
        obtain ⟨sv, xs, h1, h2, h3, _⟩ := hr.bx b _ ((hH b (by simp)).trans hb)
        rw [hg] at h1
        injection h1 with h1
        subst h1
        obtain ⟨_, _, h4, _⟩ := h3.slice
        injection h4 with _ h4 _
        exact ⟨_, _, _, hv', by omega⟩
      · cases h
    · cases h
  · cases h
theorem slice_elem {P : Program} {t e : TypeId} (h : P.underlying t = some (.slice e)) : P.underlying t = some (.slice (P.elem t)) := by
  rw [h]; simp [Program.elem, h]
theorem opS_len {t e n by_ : Nat} {ag : Bool} {x : Operand} {m : Int} {rb : List Nat} (h : o.op = .call { callee := .builtin .len, args := #[x], argTypes := #[t] }) (hc : (evO T x).cond = true)
    (hl : alen H (ev T x) = some (m, rb)) (he : elI C.P t = some (e, n, by_, ag)) : OpS C o T H nx ⟨.sc (.int .i64 m), [], 0, rb⟩ := by
  refine opS_pure fun T' H' D g a w hr hT hH => ?_
  have r1 := one_rep hr (hT x (by simp [h, Op.operands, Call.operands])) hc
  obtain ⟨a0, k, c, hv, hk⟩ := rep_alen hr hH r1 hl
  obtain ⟨inf, k1, _⟩ := elI_some he
  refine ⟨.int .i64 m, ?_, .sc _⟩
  unfold execOp
  simp only [h, resolve, invoke, builtin, Sem.run_bind, Sem.run_pure, Result.andThen_ok, List.map_toArray, List.map_cons, List.map_nil, hv, run_len_slice w t o.type a0 k c (slice_elem k1), goInt, hk]
theorem opS_min {t1 t2 : Nat} {x y : Operand} {k k' : IntKind} {m n : Int} (h : o.op = .call { callee := .builtin .min, args := #[x, y], argTypes := #[t1, t2] }) (hc : (evO T x).cond = true) (hc' : (evO T y).cond = true)
    (hx : ev T x = .sc (.int k m)) (hy : ev T y = .sc (.int k' n)) : OpS C o T H nx ⟨.sc (.int k (if n < m then n else m)), [], 0, []⟩ := by
  refine opS_pure fun T' H' D g a w hr hT hH => ?_
  have r1 := one_rep hr (hT x (by simp [h, Op.operands, Call.operands])) hc
  have r2 := one_rep hr (hT y (by simp [h, Op.operands, Call.operands])) hc'
  rw [hx] at r1; rw [hy] at r2
  refine ⟨_, ?_, .sc _⟩
  unfold execOp
  simp only [h, resolve, invoke, builtin, Sem.run_bind, Sem.run_pure, Result.andThen_ok, List.map_toArray, List.map_cons, List.map_nil, r1.sc_inv, r2.sc_inv, run_min_int2]
theorem opS_max {t1 t2 : Nat} {x y : Operand} {k k' : IntKind} {m n : Int} (h : o.op = .call { callee := .builtin .max, args := #[x, y], argTypes := #[t1, t2] }) (hc : (evO T x).cond = true) (hc' : (evO T y).cond = true)
    (hx : ev T x = .sc (.int k m)) (hy : ev T y = .sc (.int k' n)) : OpS C o T H nx ⟨.sc (.int k (if m < n then n else m)), [], 0, []⟩ := by
  refine opS_pure fun T' H' D g a w hr hT hH => ?_
  have r1 := one_rep hr (hT x (by simp [h, Op.operands, Call.operands])) hc
  have r2 := one_rep hr (hT y (by simp [h, Op.operands, Call.operands])) hc'
  rw [hx] at r1; rw [hy] at r2
  refine ⟨_, ?_, .sc _⟩
  unfold execOp
  simp only [h, resolve, invoke, builtin, Sem.run_bind, Sem.run_pure, Result.andThen_ok, List.map_toArray, List.map_cons, List.map_nil, r1.sc_inv, r2.sc_inv, run_max_int2, gt_iff_lt]
theorem kinds_rep {w : World} {O : Nat → Prop} {g : Nat → List Value} {cs : List AV} {vs : Array Value} (hl : vs.size = cs.length) (h : ∀ j, j < cs.length → Rep w O g (cs.getD j .und) (vs.getD j undef))
    {ks : List (Option IntKind)} (hk : cs.map akind = ks.map some) : vs.toList.map kindOf = ks.map some ∧ cs = vs.toList.map .sc := by
  have hcs : cs = vs.toList.map .sc := by
    refine List.ext_getElem (by simp [hl]) fun j h1 h2 => ?_
    have hr := h j h1
    have e1 : cs.getD j .und = cs[j] := by simp [List.getD_eq_getElem?_getD, h1]
    have e2 : vs.getD j undef = vs[j]'(by omega) := by simp [Array.getD, show j < vs.size by omega]
    rw [e1, e2] at hr
    have hkj : akind cs[j] ≠ none := by
      have : (cs.map akind)[j]? = (ks.map some)[j]? := by rw [hk]
      rw [List.getElem?_map, List.getElem?_eq_getElem h1] at this
      simp only [Option.map_some] at this
      intro hc
      rw [hc, List.getElem?_map] at this
      cases hkk : ks[j]? <;> simp [hkk] at this
    cases hcj : cs[j] with
    | sc v => rw [hcj] at hr; simp only [List.getElem_map, Array.getElem_toList]; rw [hr.sc_inv]
    | _ => rw [hcj] at hkj; exact absurd rfl hkj
  refine ⟨?_, hcs⟩
  rw [← hk, hcs, List.map_map]
  rfl
theorem aeqs_sc : ∀ (xs ys : List Value), aeqs (xs.map .sc) (ys.map .sc) = veqs xs ys
  | [], ys => by cases ys <;> rfl
  | x :: xs, [] => rfl
  | x :: xs, y :: ys => by simp only [List.map_cons, aeqs, veqs, aeq, aeqs_sc xs ys]
theorem opS_eqs {op : BinOp} {t t' : Nat} {x y : Operand} {xs ys : List AV} {ks : List (Option IntKind)} (h : o.op = .binOp op t x y t') (hop : op = .eql ∨ op = .neq) (hc : (evO T x).cond = true) (hc' : (evO T y).cond = true)
    (hx : ev T x = .agg xs) (hy : ev T y = .agg ys) (hq : EqT C.P t ks) (hkx : xs.map akind = ks.map some) (hky : ys.map akind = ks.map some) :
    OpS C o T H nx ⟨.sc (.bool (if op = .eql then aeqs xs ys else !aeqs xs ys)), [], 0, []⟩ := by
  refine opS_pure fun T' H' D g a w hr hT hH => ?_
  have r1 := one_rep hr (hT x (by simp [h, Op.operands])) hc
  have r2 := one_rep hr (hT y (by simp [h, Op.operands])) hc'
  rw [hx] at r1; rw [hy] at r2
  obtain ⟨us, hv1, hl1, h1⟩ := r1.agg_inv
  obtain ⟨vs, hv2, hl2, h2⟩ := r2.agg_inv
  obtain ⟨k1, e1⟩ := kinds_rep hl1 h1 hkx
  obtain ⟨k2, e2⟩ := kinds_rep hl2 h2 hky
  have he := hq.2 w us vs k1 k2
  refine ⟨_, ?_, .sc _⟩
  unfold execOp
  rw [e1, e2, aeqs_sc]
  rcases hop with rfl | rfl
  · simp only [h, hv1, hv2, Sem.run_bind, run_eqGuard_agg w .eql t x y us vs hq.1, Result.andThen_ok, run_eql_struct, he, if_true]
    rfl
  · simp only [h, hv1, hv2, Sem.run_bind, run_eqGuard_agg w .neq t x y us vs hq.1, Result.andThen_ok, run_neq_struct, he]
    rfl
end
end Go.AL
/-
  The abstract logic: slice literals and append. Conditions: none.
-/
namespace Go.AL
open Go.RowKit
def chunks (z : Nat) (ag : Bool) : Nat → List AV → List AV
  | 0, _ => []
  | n + 1, cs => (if ag then .agg (cs.take z) else cs.getD 0 .und) :: chunks z ag n (cs.drop z)
theorem chunks_length (z : Nat) (ag : Bool) : ∀ (n : Nat) (cs : List AV), (chunks z ag n cs).length = n
  | 0, _ => rfl
  | n + 1, cs => by simp [chunks, chunks_length z ag n]
theorem chunks_get (z : Nat) (ag : Bool) : ∀ (n i : Nat) (cs : List AV), i < n → (chunks z ag n cs).getD i .und = if ag then .agg ((cs.drop (i * z)).take z) else cs.getD (i * z) .und
  | 0, _, _, h => by omega
  | n + 1, 0, cs, _ => by simp [chunks]
  | n + 1, i + 1, cs, h => by
    simp only [chunks, List.getD_cons_succ]
    rw [chunks_get z ag n i _ (by omega), List.drop_drop, Nat.succ_mul, Nat.add_comm z]
    congr 1
    rw [List.getD_eq_getElem?_getD, List.getD_eq_getElem?_getD, List.getElem?_drop, Nat.add_comm z]
theorem flat_get {w : World} {O : Nat → Prop} {g : Nat → List Value} {z n : Nat} {ag : Bool} (hz : ag = false → z = 1) {cs : List AV} {vs : Nat → Value} (hl : n * z ≤ cs.length)
    (hone : ag = false → ∀ c ∈ cs, c.cells = [c]) (h : ∀ j, j < n * z → Rep w O g (cs.getD j .und) (vs j)) {i j : Nat} (hi : i < n) (hj : j < z) :
    ((chunks z ag n cs).getD i .und).cells.length = z ∧ Rep w O g (((chunks z ag n cs).getD i .und).cells.getD j .und) (vs (i * z + j)) := by
  have hb : i * z + z ≤ n * z := by
    have := Nat.mul_le_mul_right z (show i + 1 ≤ n by omega)
    rwa [Nat.succ_mul] at this
  rw [chunks_get z ag n i cs hi]
  cases ag with
  | true =>
    simp only [if_true, cells_agg]
    refine ⟨by simp; omega, ?_⟩
    rw [getD_drop_take _ _ _ _ _ hj (by omega)]
    exact h _ (by omega)
  | false =>
    have hz1 := hz rfl
    subst hz1
    simp only [Bool.false_eq_true, if_false]
    have hc := hone rfl _ (getD_mem (d := .und) (show i * 1 < cs.length by omega))
    rw [hc]
    have : j = 0 := by omega
    subst this
    exact ⟨rfl, h _ (by omega)⟩
section
variable {C : Cx} {o : Oper} {T : Nat → AV} {H : Nat → Option ABox} {nx : Nat}
def ones (cs : List AV) : Bool := cs.all AV.one
theorem ones_cells {cs : List AV} (h : ones cs = true) : ∀ c ∈ cs, c.cells = [c] := by
  intro c hc
  have := List.all_eq_true.1 h c hc
  cases c <;> first | rfl | (simp [AV.one] at this)
theorem opS_buildSlice {t e z by_ len : Nat} {ag : Bool} {ps : Array (Nat × Operand)} {zs : List Value} (h : o.op = .buildSlice t len ps) (he : elI C.P t = some (e, z, by_, ag)) (hz : zI C.P e = some zs) (hzl : zs.length = z)
    (hlen : len * z ≤ 16777216) (hc : ∀ p ∈ ps.toList, (evO T p.2).cond = true)
    (hp : afP ((List.range len).map fun i => (i * z, z)) ((List.replicate len (zs.map avCell)).flatten) (ps.toList.map fun p => (p.1, ev T p.2)))
    (hone : ones (afV ((List.range len).map fun i => (i * z, z)) ((List.replicate len (zs.map avCell)).flatten) (ps.toList.map fun p => (p.1, ev T p.2))) = true)
    (hi : ∀ p ∈ ps.toList, p.1 < len) :
    OpS C o T H nx ⟨.ow nx 0, [(nx, .row e z 0 (chunks z ag len (afV ((List.range len).map fun i => (i * z, z)) ((List.replicate len (zs.map avCell)).flatten) (ps.toList.map fun p => (p.1, ev T p.2)))))], 1, []⟩ := by
  intro T' H' D g a w hr hT _ hn K Q hK
  obtain ⟨inf, k1, k2, k3, k4, k5, k6, k7⟩ := elI_some he
  obtain ⟨inf', z0, j1, j2, j3⟩ := zI_some hz
  rw [k2] at j1; injection j1 with j1; subst j1
  have hn0 : ¬ D nx := hn 0 (Nat.lt_succ_self 0)
  have hmem : ∀ p ∈ ps.toList, p.2 ∈ o.op.operands := fun p hp => by rw [h]; simp only [Op.operands]; simp; exact ⟨p.1, by simpa using hp⟩
  have hzc : z0.cells.size = z := by rw [← hzl, ← j3]; simp
  generalize hpl : ((List.range len).map fun i => (i * z, z)) = pl at hp hone ⊢
  generalize hcs : (List.replicate len (zs.map avCell)).flatten = cs0 at hp hone ⊢
  generalize hps : (ps.toList.map fun p => (p.1, ev T p.2)) = parts at hp hone ⊢
  have hcsl : cs0.length = len * z := by rw [← hcs]; simp [List.length_flatten, hzl]
  have hz0 : ∀ m, m < len * z → ((Array.range (len * inf.size)).map (z0.cells[· % z0.cells.size]!)).getD m undef = zs.getD (m % z) undef := by
    intro m hm
    rw [k3, hzc]
    have hzp : 0 < z := by omega
    have hmod := Nat.mod_lt m hzp
    have e1 : ((Array.range (len * z)).map (z0.cells[· % z]!)).getD m undef = z0.cells[m % z]! := by
      rw [Array.getD_eq_getD_getElem?, Array.getElem?_map, Array.getElem?_range, if_pos hm]; rfl
    rw [e1, ← j3]
    have hlt : m % z < z0.cells.size := by omega
    rw [getElem!_pos z0.cells (m % z) hlt, List.getD_eq_getElem?_getD, Array.getElem?_toList, Array.getElem?_eq_getElem hlt]
    rfl
  have hcs0 : ∀ m, m < len * z → cs0.getD m .und = avCell (zs.getD (m % z) undef) := by
    intro m hm
    have hzp : 0 < z := by omega
    have hmod := Nat.mod_lt m hzp
    rw [← hcs]
    have hfl : ∀ (n : Nat) (m : Nat), m < n * z → ((List.replicate n (zs.map avCell)).flatten).getD m .und = avCell (zs.getD (m % z) undef) := by
      intro n
      induction n with
      | zero => intro m hm; omega
      | succ n ih =>
        intro m hm
        rw [List.replicate_succ, List.flatten_cons, List.getD_eq_getElem?_getD]
        by_cases hlt : m < z
        · rw [List.getElem?_append_left (by simp; omega), List.getElem?_map, Nat.mod_eq_of_lt hlt, List.getD_eq_getElem?_getD, List.getElem?_eq_getElem (by omega)]
          rfl
        · rw [List.getElem?_append_right (by simp; omega), ← List.getD_eq_getElem?_getD]
          simp only [List.length_map, hzl]
          rw [Nat.succ_mul] at hm
          have em := Nat.mod_eq_sub_mod (show m ≥ z by omega)
          rw [ih (m - z) (by omega), em]
    exact hfl len m hm
  obtain ⟨vs', hf, hs, hv⟩ := rep_fill (w := w) (O := Own C.O g H') (g := g) (pl := pl) parts (ps.toList.map fun p => (p.1, a.eval p.2)) cs0 ((Array.range (len * inf.size)).map (z0.cells[· % z0.cells.size]!)) (by rw [← hps]; simp) (fun j hj => by
      rw [← hps] at hj ⊢
      have hj' : j < ps.size := by simpa using hj
      have e1 : (ps.toList.map fun p => (p.1, ev T p.2)).getD j (0, .und) = (ps[j].1, ev T ps[j].2) := by rw [List.getD_eq_getElem?_getD, List.getElem?_map]; simp [hj']
      have e2 : (ps.toList.map fun p => (p.1, a.eval p.2)).getD j (0, undef) = (ps[j].1, a.eval ps[j].2) := by rw [List.getD_eq_getElem?_getD, List.getElem?_map]; simp [hj']
      rw [e1, e2]; exact one_rep hr (hT ps[j].2 (hmem _ (by simp))) (hc ps[j] (by simp))) (by rw [hcsl, k3]; simp) (fun m hm => by
      rw [hcsl] at hm
      rw [hz0 m hm, hcs0 m hm]; exact rep_avCell _ _ _ _) hp
  have hvl : (afV pl cs0 parts).length = len * z := by
    have hnext : ∀ (parts : List (Nat × AV)) (cs : List AV), afP pl cs parts → (afV pl cs parts).length = cs.length := by
      intro parts
      induction parts with
      | nil => intro cs _; rfl
      | cons p parts ih =>
        intro cs hp
        obtain ⟨i, v⟩ := p
        obtain ⟨hp0, hp⟩ := hp
        simp only [afV]
        rw [ih _ hp]
        split at hp0
        · rename_i off sz hpl'
          simp only [afNext, hpl', List.length_append, List.length_take, List.length_drop]; omega
        · exact hp0.elim
    rw [hnext parts cs0 hp, hcsl]
  have hfill : Instr.fill (fun i => some (i * inf.size, inf.size)) ((Array.range (len * inf.size)).map (z0.cells[· % z0.cells.size]!)) (ps.map fun p => (p.1, a.eval p.2)).toList = some vs' := by
    rw [← hf]
    have : (ps.map fun p => (p.1, a.eval p.2)).toList = ps.toList.map fun p => (p.1, a.eval p.2) := by simp
    rw [this]
    refine fill_congr _ _ fun p hpp => ?_
    simp only [List.mem_map] at hpp
    obtain ⟨q, hq, rfl⟩ := hpp
    have := hi q hq
    rw [← hpl, k3]
    simp [this]
  have hrun : (execOp a.eval o).run C.P w = .ok (.value (.slice (some ⟨w.heap.size, 0, none⟩) len len)) (w.alloc (.cells vs' e)) := by
    unfold execOp
    simp only [h, Instr.buildSlice, Sem.run_bind, run_underlying k1, Result.andThen_ok, run_sizeOf' k2]
    rw [if_neg (by rw [k3]; omega)]
    by_cases h0 : len * inf.size = 0
    · have hl0 : len = 0 := by
        rcases Nat.mul_eq_zero.1 h0 with h1 | h1
        · exact h1
        · omega
      subst hl0
      simp only [Nat.zero_mul] at hfill ⊢
      simp only [if_true, Sem.run_bind, Sem.run_pure, Result.andThen_ok]
      have e0 : ((Array.range 0).map fun (x : Nat) => (#[] : Array Value)[x % (#[] : Array Value).size]!) = (Array.range 0).map (z0.cells[· % z0.cells.size]!) := by simp
      rw [e0, hfill]
      rfl
    · rw [if_neg h0]
      simp only [Sem.run_bind, run_zeroValue k2 j2, Sem.run_pure, Result.andThen_ok, hfill, newRow, newObj]
      rfl
  have hgn : ∀ (gl : List Value), (updF g nx gl) nx = gl := fun gl => updF_same _ _ _
  have hrel := hr.newown (x0 := .row e z 0 (chunks z ag len (afV pl cs0 parts))) (gl := [.slice (some ⟨w.heap.size, 0, none⟩) len len]) (w' := w.alloc (.cells vs' e)) hn0 ⟨rfl, rfl, rfl, by simp, fun k hk _ => Below.heap_alloc w _ k hk, Nat.le_refl _⟩ (fun k hk => by
    have : k = w.heap.size := by
      cases len with
      | zero => simp [ownBlk, updF, rowBlk] at hk
      | succ len => simpa [ownBlk, updF, rowBlk] using hk.symm
    subst this; exact ⟨Nat.le_refl _, by simp⟩) (fun hl hx => by
    refine ⟨.slice (some ⟨w.heap.size, 0, none⟩) len len, vs'.toList, by simp [updF], by simp [updF], .of_owns ⟨by rw [chunks_length]; simp; omega, .inr ⟨w.heap.size, len, vs', by rw [chunks_length], Nat.zero_le _, heap_alloc_new w _, by rw [chunks_length]; exact Nat.le_refl _, ?_, by omega, ?_⟩⟩, ?_, ?_⟩
    · have hzp : 0 < z := by omega
      have : len ≤ len * z := Nat.le_mul_of_pos_right len hzp
      unfold maxLen; omega
    · rw [chunks_length, List.take_of_length_le]; simp; omega
    · intro x hx'
      obtain ⟨i, hi', rfl⟩ := List.mem_iff_getElem.1 hx'
      have hi2 : i < len := by rw [chunks_length] at hi'; exact hi'
      have hzp : 0 < z := by omega
      have := (flat_get (w := w) (O := Own C.O g H') (g := g) (vs := fun j => vs'.getD j undef) k7 (by omega) (fun _ => ones_cells hone) (fun j hj => hv j (by omega)) hi2 hzp).1
      rwa [List.getD_eq_getElem?_getD, List.getElem?_eq_getElem hi'] at this
    · intro i hi' j hj
      have hi2 : i < len := by rw [chunks_length] at hi'; exact hi'
      have := (flat_get (w := w) (O := Own C.O g H') (g := g) (vs := fun j => vs'.getD j undef) k7 (by omega) (fun _ => ones_cells hone) (fun j hj => hv j (by omega)) hi2 hj).2
      have e2 : vs'.toList.getD (i * z + j) undef = vs'.getD (i * z + j) undef := by rw [List.getD_eq_getElem?_getD, Array.getD_eq_getD_getElem?, Array.getElem?_toList]
      rw [e2]
      exact this.later hl hx)
  subst hpl; subst hcs; subst hps
  refine wp_of_value hrun (hK _ _ _ (hrel.dmono fun b hb => ?_) (.ow nx 0 _ _ _ (by simp [updF])))
  rcases hb with hb | rfl
  · exact .inl hb
  · exact .inr ⟨Nat.le_refl _, Nat.lt_succ_self _⟩
def asrc (H : Nat → Option ABox) : AV → Option (List AV × List Nat)
  | .sl es => some (es, [])
  | .e0 => some ([], [])
  | .ow b ver => match H b with
    | some .nl => if ver = 0 then some ([], [b]) else none
    | some (.row _ _ ver' es) => if ver = ver' then some (es, [b]) else none
    | _ => none
  | _ => none
theorem rep_asrc {T' : Nat → AV} {H' : Nat → Option ABox} {D : Nat → Prop} {g : Nat → List Value} {a : Act} {w : World} {v : AV} {val : Value} {es : List AV} {rb : List Nat} {z : Nat}
    (hr : Rel C T' H' D g a w) (hH : ∀ b ∈ rb, H' b = H b) (hv : Rep w (Own C.O g H') g v val) (h : asrc H v = some (es, rb)) (hz : ∀ e ∈ es, e.cells.length = z) :
    ∃ (a0 : Option Addr) (c : Nat) (news : List Value), val = .slice a0 es.length c ∧ news.length = es.length * z ∧ (0 < es.length → ∃ ad, a0 = some ad ∧ ∀ j u, news[j]? = some u → w.cell? (ad.add j) = some u) ∧
      ∀ i, i < es.length → ∀ j, j < z → Rep w (Own C.O g H') g ((es.getD i .und).cells.getD j .und) (news.getD (i * z + j) undef) := by
  unfold asrc at h
  split at h
  · simp only [Option.some.injEq, Prod.mk.injEq] at h
    obtain ⟨rfl, rfl⟩ := h
    rename_i es
    obtain ⟨a0, cap, hv, hrest⟩ := hv.sl_inv
    by_cases h0 : 0 < es.length
    · obtain ⟨hcap, z', blk, off, f, rfl, hzz, hO, hlt, h1, h2⟩ := hrest h0
      have : z' = z := by rw [← hz _ (getD_mem (d := .und) h0), hzz _ (getD_mem h0)]
      subst this
      refine ⟨_, cap, (List.range (es.length * z')).map f, hv, by simp, fun _ => ⟨_, rfl, fun j u hu => ?_⟩, fun i hi j hj => ?_⟩
      · rw [List.getElem?_map] at hu
        have hlt : j < es.length * z' := by
          rcases Nat.lt_or_ge j (es.length * z') with hl | hl
          · exact hl
          · rw [List.getElem?_eq_none (by simpa using hl)] at hu; simp at hu
        rw [add_addr, h1 j hlt]
        rw [List.getElem?_range hlt] at hu
        simpa using hu
      · have hb : i * z' + j < es.length * z' := by
          have := Nat.mul_le_mul_right z' (show i + 1 ≤ es.length by omega)
          rw [Nat.succ_mul] at this; omega
        have := h2 i hi j hj
        rw [List.getD_eq_getElem?_getD (l := List.map f _), List.getElem?_map, List.getElem?_range hb]
        exact this
    · have : es = [] := List.eq_nil_of_length_eq_zero (by omega)
      subst this
      exact ⟨a0, cap, [], hv, by simp, fun h => absurd h h0, fun i hi => by simp at hi⟩
  · simp only [Option.some.injEq, Prod.mk.injEq] at h
    obtain ⟨rfl, rfl⟩ := h
    obtain ⟨a0, hv⟩ := hv.e0_inv
    exact ⟨a0, 0, [], hv, by simp, fun h => by simp at h, fun i hi => by simp at hi⟩
  · rename_i b ver
    obtain ⟨a0, m, c, hv', hg⟩ := hv.ow_inv
    split at h
    · rename_i hb
      split at h
      · simp only [Option.some.injEq, Prod.mk.injEq] at h
        obtain ⟨rfl, rfl⟩ := h
        have hbr := hr.bx b .nl ((hH b (by simp)).trans hb)
        rename_i h0; subst h0
        have hg' : g b = [.slice none 0 0] := hbr
        rw [hg'] at hg
        simp only [List.getElem?_cons_zero, Option.some.injEq, Value.slice.injEq] at hg
        obtain ⟨rfl, rfl, rfl⟩ := hg
        exact ⟨none, 0, [], hv', by simp, fun h => by simp at h, fun i hi => by simp at hi⟩
      · cases h
    · rename_i e z0 ver' es' hb
      split at h
      · simp only [Option.some.injEq, Prod.mk.injEq] at h
        obtain ⟨rfl, rfl⟩ := h
        rename_i h0; subst h0
        obtain ⟨sv, xs, h1, h2, h3, h4, h5⟩ := hr.bx b _ ((hH b (by simp)).trans hb)
        rw [hg] at h1
        injection h1 with h1
        subst h1
        by_cases hp : 0 < es'.length
        · have hzz : z0 = z := by rw [← hz _ (getD_mem (d := .und) hp), h4 _ (getD_mem hp)]
          subst hzz
          rcases h3.to_owns with h3 | ⟨hn, _⟩
          · rcases h3.2 with ⟨hs, hn⟩ | ⟨gg, cap, cur, hs, _, hh, hcap, _, hsz, htk⟩
            · omega
            · injection hs with e1 e2 e3
              subst e1; subst e2; subst e3
              refine ⟨_, _, xs, hv', h3.1, fun _ => ⟨_, rfl, fun j u hu => ?_⟩, h5⟩
              exact h3.cells (g := gg) rfl j u hu
          · omega
        · have hes : es' = [] := List.eq_nil_of_length_eq_zero (by omega)
          subst hes
          have hx : xs = [] := List.eq_nil_of_length_eq_zero (by rw [h3.1]; simp)
          obtain ⟨_, _, hs, _⟩ := h3.slice
          injection hs with e1 e2 e3
          subst e1; subst e2; subst e3
          exact ⟨_, _, [], hv', by simp, fun h => by simp at h, fun i hi => by simp at hi⟩
      · cases h
    · cases h
  · cases h
theorem run_append_to {P : Program} (w : World) {t ty e z bytes : Nat} {ag : Bool} {zs : List Value} (he : elI P t = some (e, z, bytes, ag)) (hz : zI P e = some zs) (hzl : zs.length = z) (v : Value) (n : Nat) (xs : List Value) (hown : w.ownsRow 0 e z v n xs)
    (a0 : Option Addr) (m c : Nat) (news : List Value) (hl : news.length = m * z) (hcell : 0 < m → ∃ ad, a0 = some ad ∧ ∀ j u, news[j]? = some u → w.cell? (ad.add j) = some u) (h1 : ∀ u ∈ news, u.oneCell' = true)
    (h63 : n + m ≤ maxLen) (hbytes : (n + m) * bytes ≤ 140737488355328) :
    ∃ v' w', (Builtin.append_ #[t, t] ty #[v, .slice a0 m c]).run P w = .ok v' w' ∧ w'.ownsRow 0 e z v' (n + m) (xs ++ news) ∧ w.grownBy w' v.ownBlock ∧ (v'.ownBlock = v.ownBlock ∨ v'.ownBlock = some w.heap.size) := by
  obtain ⟨i, k1, k2, k3, k4, k5, k6, k7⟩ := elI_some he
  obtain ⟨i', z0, j1, j2, j3⟩ := zI_some hz
  rw [k2] at j1; injection j1 with j1; subst j1
  have hzs : z0.cells.size = z := by rw [← hzl, ← j3]; simp
  have hnil : m = 0 → news = [] := fun h0 => List.eq_nil_of_length_eq_zero (by rw [hl, h0]; simp)
  cases a0 with
  | none =>
    have hm : m = 0 := by
      rcases Nat.eq_zero_or_pos m with h0 | h0
      · exact h0
      · obtain ⟨ad, h, _⟩ := hcell h0; cases h
    have hn := hnil hm
    subst hm; subst hn
    refine ⟨v, w, ?_, by simpa using hown, World.grownBy.refl w _, .inl rfl⟩
    rcases hown.2 with ⟨rfl, rfl⟩ | ⟨g, cap, cur, rfl, _, _, hnc, _⟩
    · simp [Builtin.append_, run_underlying k1, sizeOf, typeInfo, k2, Builtin.lenOf, Builtin.firstCells]
    · simp [Builtin.append_, run_underlying k1, sizeOf, typeInfo, k2, Builtin.lenOf, Builtin.firstCells, hnc, storeCells]
  | some ad =>
    have hcells : ∀ (j : Nat) (u : Value), news[j]? = some u → w.cell? (ad.add j) = some u := by
      intro j u hu
      rcases Nat.eq_zero_or_pos m with h0 | h0
      · rw [hnil h0] at hu; simp at hu
      · obtain ⟨ad', h, hc⟩ := hcell h0
        injection h with h
        subst h
        exact hc j u hu
    obtain ⟨v', w', hrun, h2, h3, _, h5⟩ := run_append_own_at (P := P) w 0 t ty e i z0 z bytes k1 k2 j2 k3 k4 hzs (by omega) v n xs hown ad m c news hl hcells h1 h63 hbytes (Nat.zero_le _)
    exact ⟨v', w', hrun, h2, h3, h5⟩
theorem run_append_e0 {P : Program} (w : World) {t ty e z bytes : Nat} {ag : Bool} {zs : List Value} (he : elI P t = some (e, z, bytes, ag)) (hz : zI P e = some zs) (hzl : zs.length = z) (b0 : Option Addr)
    (a0 : Option Addr) (m c : Nat) (news : List Value) (hl : news.length = m * z) (hcell : 0 < m → ∃ ad, a0 = some ad ∧ ∀ j u, news[j]? = some u → w.cell? (ad.add j) = some u) (h1 : ∀ u ∈ news, u.oneCell' = true)
    (h63 : m ≤ maxLen) (hbytes : m * bytes ≤ 140737488355328) :
    ∃ v' w', (Builtin.append_ #[t, t] ty #[.slice b0 0 0, .slice a0 m c]).run P w = .ok v' w' ∧ rowOk w' e z v' m news ∧ w.grownBy w' none ∧ (∀ k, v'.ownBlock = some k → (0 < m → w.heap.size ≤ k ∧ k < w'.heap.size)) ∧ (m = 0 → v' = .slice b0 0 0) := by
  obtain ⟨i, k1, k2, k3, k4, k5, k6, k7⟩ := elI_some he
  obtain ⟨i', z0, j1, j2, j3⟩ := zI_some hz
  rw [k2] at j1; injection j1 with j1; subst j1
  have hzs : z0.cells.size = z := by rw [← hzl, ← j3]; simp
  rcases Nat.eq_zero_or_pos m with h0 | h0
  · subst h0
    have hn : news = [] := List.eq_nil_of_length_eq_zero (by rw [hl]; simp)
    subst hn
    refine ⟨.slice b0 0 0, w, ?_, .empty w e z b0, World.grownBy.refl w _, fun _ _ h => absurd h (by omega), fun _ => rfl⟩
    cases a0 with
    | none => cases b0 <;> simp [Builtin.append_, run_underlying k1, sizeOf, typeInfo, k2, Builtin.lenOf, Builtin.firstCells, storeCells]
    | some ad =>
      have hfc := run_firstCells_some (P := P) w i.size 0 ad 0 c [] (by simp) (fun j u h => by simp at h)
      cases b0 <;> simp [Builtin.append_, run_underlying k1, sizeOf, typeInfo, k2, Builtin.lenOf, hfc, storeCells]
  · obtain ⟨ad, rfl, hc⟩ := hcell h0
    cases b0 with
    | none =>
      obtain ⟨v', w', hrun, h2, h3, _, h5⟩ := run_append_own_at (P := P) w 0 t ty e i z0 z bytes k1 k2 j2 k3 k4 hzs (by omega) (.slice none 0 0) 0 [] (World.ownsRow_nil w 0 e z) ad m c news hl hc h1 (by omega) (by simpa using hbytes) (Nat.zero_le _)
      refine ⟨v', w', hrun, by simpa using rowOk.of_owns h2, h3, fun k hk _ => ⟨?_, ?_⟩, fun h => by omega⟩
      · rcases h5 with e1 | e1
        · rw [e1] at hk; cases hk
        · rw [e1] at hk; injection hk with hk; omega
      · exact (h2.lt k hk).2
    | some b =>
      obtain ⟨v', w', hrun, h2, h3⟩ := run_append_arg_grows (P := P) w t ty e i z0 z bytes k1 k2 j2 k3 k4 hzs (by omega) b 0 0 [] (by simp) (fun j u h => by simp at h) ad m c news hl hc (by omega) (by omega) (by simpa using hbytes)
      have h2' : w'.ownsRow 0 e z v' (0 + m) ([] ++ news) := by
        refine ⟨h2.1, ?_⟩
        rcases h2.2 with h | ⟨g, cap, cur, e1, _, h⟩
        · exact .inl h
        · exact .inr ⟨g, cap, cur, e1, Nat.zero_le _, h⟩
      exact ⟨v', w', hrun, by simpa using rowOk.of_owns h2', h3, fun k hk _ => h2.lt k hk, fun h => by omega⟩
theorem run_append_row {P : Program} (w : World) {t ty e z bytes : Nat} {ag : Bool} {zs : List Value} (he : elI P t = some (e, z, bytes, ag)) (hz : zI P e = some zs) (hzl : zs.length = z) (v : Value) (n : Nat) (xs : List Value) (hown : rowOk w e z v n xs)
    (a0 : Option Addr) (m c : Nat) (news : List Value) (hl : news.length = m * z) (hcell : 0 < m → ∃ ad, a0 = some ad ∧ ∀ j u, news[j]? = some u → w.cell? (ad.add j) = some u) (h1 : ∀ u ∈ news, u.oneCell' = true)
    (h63 : n + m ≤ maxLen) (hbytes : (n + m) * bytes ≤ 140737488355328) :
    ∃ v' w', (Builtin.append_ #[t, t] ty #[v, .slice a0 m c]).run P w = .ok v' w' ∧ rowOk w' e z v' (n + m) (xs ++ news) ∧ w.grownBy w' (rowBlk v) ∧ ∀ k, rowBlk v' = some k → rowBlk v = some k ∨ (w.heap.size ≤ k ∧ k < w'.heap.size) := by
  rcases hown.2 with ⟨rfl, b0, rfl⟩ | ⟨g, cap, cur, hv, h2, h3, h4, h5, h6⟩
  · have hx : xs = [] := List.eq_nil_of_length_eq_zero (by rw [hown.1]; simp)
    subst hx
    obtain ⟨v', w', r1, r2, r3, r4, r5⟩ := run_append_e0 (P := P) (ty := ty) w he hz hzl b0 a0 m c news hl hcell h1 (by omega) (by simpa using hbytes)
    have e0 : rowBlk (.slice b0 0 0) = none := by cases b0 <;> rfl
    refine ⟨v', w', r1, by simpa using r2, by rw [e0]; exact r3, fun k hk => .inr ?_⟩
    rcases Nat.eq_zero_or_pos m with h0 | h0
    · rw [r5 h0, e0] at hk; cases hk
    · exact r4 k (rowBlk_own hk) h0
  · have ho : w.ownsRow 0 e z v n xs := ⟨hown.1, .inr ⟨g, cap + 1, cur, hv, Nat.zero_le _, h2, h3, h4, h5, h6⟩⟩
    obtain ⟨v', w', r1, r2, r3, r4⟩ := run_append_to (P := P) (ty := ty) w he hz hzl v n xs ho a0 m c news hl hcell h1 h63 hbytes
    have e0 : rowBlk v = v.ownBlock := by rw [hv]; rfl
    refine ⟨v', w', r1, .of_owns r2, by rw [e0]; exact r3, fun k hk => ?_⟩
    have hk' := rowBlk_own hk
    rcases r4 with r4 | r4
    · left; rw [e0, ← r4]; exact hk'
    · right
      rw [r4] at hk'; injection hk' with hk'
      exact ⟨by omega, (r2.lt k (by rw [r4, hk'])).2⟩
theorem opS_append {t e z by_ b ver ver0 : Nat} {ag : Bool} {x y : Operand} {zs : List Value} {es0 es : List AV} {rb : List Nat} {x0 : ABox} (h : o.op = .call { callee := .builtin .append, args := #[x, y], argTypes := #[t, t] })
    (hc : (evO T x).cond = true) (hc' : (evO T y).cond = true) (hx : ev T x = .ow b ver) (hb : H b = some x0) (hx0 : (x0 = .nl ∧ ver = 0 ∧ es0 = [] ∧ ver0 = 1) ∨ (x0 = .row e z ver es0 ∧ ver0 = ver + 1))
    (hy : asrc H (ev T y) = some (es, rb)) (he : elI C.P t = some (e, z, by_, ag)) (hz : zI C.P e = some zs) (hzl : zs.length = z) (hes : ∀ v ∈ es, v.cells.length = z ∧ ∀ c ∈ v.cells, c.one = true)
    (h63 : es0.length + es.length ≤ maxLen) (hbytes : (es0.length + es.length) * by_ ≤ 140737488355328) :
    OpS C o T H nx ⟨.ow b ver0, [(b, .row e z ver0 (es0 ++ es))], 0, b :: rb⟩ := by
  intro T' H' D g a w hr hT hH _ K Q hK
  have r1 := one_rep hr (hT x (by simp [h, Op.operands, Call.operands])) hc
  have r2 := one_rep hr (hT y (by simp [h, Op.operands, Call.operands])) hc'
  rw [hx] at r1
  obtain ⟨a1, n1, c1, hv1, hg1⟩ := r1.ow_inv
  have hzz : ∀ v ∈ es, v.cells.length = z := fun v hv => (hes v hv).1
  obtain ⟨a0, c, news, hv2, hnl, hcell, hnr⟩ := rep_asrc (H := H) hr (fun b' hb' => hH b' (List.mem_cons_of_mem _ hb')) r2 hy hzz
  have hb' : H' b = some x0 := (hH b (List.mem_cons_self ..)).trans hb
  obtain ⟨i, k1, k2, k3, k4, k5, k6, k7⟩ := elI_some he
  have hzp : 0 < z := by omega
  have hrow : ∃ xs, (g b).length = ver0 ∧ rowOk w e z (.slice a1 n1 c1) es0.length xs ∧ (∀ a ∈ es0, a.cells.length = z) ∧ ownBlk g b x0 = rowBlk (Value.slice a1 n1 c1) ∧
      ∀ i, i < es0.length → ∀ j, j < z → Rep w (Own C.O g H') g ((es0.getD i .und).cells.getD j .und) (xs.getD (i * z + j) undef) := by
    have hbr := hr.bx b x0 hb'
    rcases hx0 with ⟨rfl, rfl, rfl, rfl⟩ | ⟨rfl, rfl⟩
    · have hg' : g b = [.slice none 0 0] := hbr
      rw [hg'] at hg1
      simp only [List.getElem?_cons_zero, Option.some.injEq, Value.slice.injEq] at hg1
      obtain ⟨rfl, rfl, rfl⟩ := hg1
      exact ⟨[], by rw [hg']; rfl, .empty w e z none, fun a ha => by simp at ha, rfl, fun i hi => by simp at hi⟩
    · obtain ⟨sv, xs, h1, h2, h3, h4, h5⟩ := hbr
      rw [hg1] at h1
      injection h1 with h1
      subst h1
      exact ⟨xs, h2, h3, h4, by simp only [ownBlk, hg1], h5⟩
  obtain ⟨xs, hgl, hown, h4, hobk, h5⟩ := hrow
  have h1 : ∀ u ∈ news, u.oneCell' = true := by
    intro u hu
    obtain ⟨j, hj, rfl⟩ := List.mem_iff_getElem.1 hu
    have hdiv : j / z < es.length := by rw [Nat.div_lt_iff_lt_mul hzp]; omega
    have hmod := Nat.mod_lt j hzp
    have hjj : j / z * z + j % z = j := by rw [Nat.mul_comm]; exact Nat.div_add_mod j z
    have hrep := hnr (j / z) hdiv (j % z) hmod
    rw [hjj, List.getD_eq_getElem?_getD (l := news), List.getElem?_eq_getElem hj] at hrep
    have hm := getD_mem (d := .und) hdiv
    exact hrep.oneCell ((hes _ hm).2 _ (getD_mem (by rw [hzz _ hm]; exact hmod)))
  obtain ⟨v', w', hrun, ho', hgr, hnb⟩ := run_append_row (ty := o.type) w he hz hzl (.slice a1 n1 c1) es0.length xs hown a0 es.length c news hnl hcell h1 h63 hbytes
  have hrun' : (execOp a.eval o).run C.P w = .ok (.value v') w' := by
    unfold execOp
    simp only [h, resolve, invoke, builtin, Sem.run_bind, Sem.run_pure, Result.andThen_ok, List.map_toArray, List.map_cons, List.map_nil, hv1, hv2, hrun]
  have hsl : ∃ a2 n2 c2, v' = .slice a2 n2 c2 := by
    obtain ⟨a2, c2, h, _⟩ := ho'.slice
    exact ⟨_, _, _, h⟩
  obtain ⟨a2, n2, c2, rfl⟩ := hsl
  have hget : ((updF g b (g b ++ [Value.slice a2 n2 c2])) b)[ver0]? = some (.slice a2 n2 c2) := by
    rw [updF_same, List.getElem?_append_right (by omega), hgl]; simp
  have hob1 : ownBlk (updF g b (g b ++ [Value.slice a2 n2 c2])) b (.row e z ver0 (es0 ++ es)) = rowBlk (Value.slice a2 n2 c2) := by
    simp only [ownBlk, hget]
  have hrel := hr.regrow (x1 := .row e z ver0 (es0 ++ es)) (v' := .slice a2 n2 c2) hb' (by rw [hobk]; exact hgr) (run_drawn hrun) (by
    rw [hob1, hobk]
    exact hnb) (fun hl hxt => by
    refine ⟨.slice a2 n2 c2, xs ++ news, hget, by rw [updF_same]; simp [hgl], by rw [List.length_append]; exact ho', fun v hv => ?_, fun i hi j hj => ?_⟩
    · rcases List.mem_append.1 hv with hv | hv
      · exact h4 v hv
      · exact hzz v hv
    · rw [List.length_append] at hi
      have hxl : xs.length = es0.length * z := hown.1
      by_cases hlt : i < es0.length
      · have hb : i * z + j < xs.length := by
          have := Nat.mul_le_mul_right z (show i + 1 ≤ es0.length by omega)
          rw [Nat.succ_mul] at this; omega
        rw [List.getD_eq_getElem?_getD (l := es0 ++ es), List.getElem?_append_left hlt, ← List.getD_eq_getElem?_getD, List.getD_eq_getElem?_getD (l := xs ++ news), List.getElem?_append_left hb, ← List.getD_eq_getElem?_getD]
        exact (h5 i hlt j hj).later hl hxt
      · have hge : es0.length ≤ i := by omega
        have hbb : xs.length ≤ i * z + j := by
          have := Nat.mul_le_mul_right z hge
          omega
        have hsub : i * z + j - xs.length = (i - es0.length) * z + j := by
          have := Nat.mul_le_mul_right z hge
          rw [hxl, Nat.sub_mul]; omega
        rw [List.getD_eq_getElem?_getD (l := es0 ++ es), List.getElem?_append_right hge, ← List.getD_eq_getElem?_getD, List.getD_eq_getElem?_getD (l := xs ++ news), List.getElem?_append_right hbb, hsub, ← List.getD_eq_getElem?_getD]
        exact (hnr (i - es0.length) (by omega) j hj).later hl hxt)
  exact wp_of_value hrun' (hK _ w' _ (hrel.dmono fun b hb => .inl hb) (.ow b ver0 a2 n2 c2 hget))
theorem opS_nilcmp {op : BinOp} {t t' : TypeId} {x : Operand} {es : List AV} {rb : List Nat} {e z by_ : Nat} {ag : Bool} (h : o.op = .binOp op t x (.const (.slice none 0 0)) t') (hop : op = .eql ∨ op = .neq) (hc : (evO T x).cond = true)
    (hx : asrc H (ev T x) = some (es, rb)) (he : elI C.P t = some (e, z, by_, ag)) (hes : ∀ v ∈ es, v.cells.length = z) :
    OpS C o T H nx ⟨.nb (decide (0 < es.length)) (if op = .eql then false else true), [], 0, rb⟩ := by
  refine opS_pure fun T' H' D g a w hr hT hH => ?_
  have r1 := one_rep hr (hT x (by simp [h, Op.operands])) hc
  obtain ⟨a0, c, news, hv, _, hcell, _⟩ := rep_asrc (H := H) hr hH r1 hx hes
  obtain ⟨i, k1, _⟩ := elI_some he
  have hsome : 0 < es.length → a0.isNone = false := fun h0 => by obtain ⟨ad, rfl, _⟩ := hcell h0; rfl
  have heg : (eqGuard op t x (.const (.slice none 0 0)) (.slice a0 es.length c) (.slice none 0 0)).run C.P w = .ok () w := by
    unfold eqGuard; rcases hop with rfl | rfl <;> rfl
  have hcv : a.eval (.const (.slice none 0 0)) = .slice none 0 0 := rfl
  rcases hop with rfl | rfl
  · refine ⟨.bool a0.isNone, ?_, .nb _ _ _ (fun hk => ?_)⟩
    · unfold execOp
      simp only [h, hv, hcv, Sem.run_bind, heg, Result.andThen_ok, Lib.run_eql_slice_nil w t e a0 es.length c 0 0 k1, Sem.run_pure]
    · simp only [if_true]; exact hsome (by simpa using hk)
  · refine ⟨.bool (!a0.isNone), ?_, .nb _ _ _ (fun hk => ?_)⟩
    · have hq := Lib.run_eql_slice_nil w t e a0 es.length c 0 0 k1
      simp only [binOp, Sem.run_bind, Sem.run_pure] at hq
      unfold execOp
      simp only [h, hv, hcv, Sem.run_bind, heg, Result.andThen_ok, binOp, Sem.run_pure]
      cases hq' : (Op.equal t (.slice a0 es.length c) (.slice none 0 0)).run C.P w with
      | ok b w' =>
        rw [hq'] at hq
        simp only [Result.andThen_ok, Result.ok.injEq, Value.bool.injEq] at hq
        obtain ⟨rfl, rfl⟩ := hq
        rfl
      | halt x w' => rw [hq'] at hq; cases hq
    · rw [hsome (by simpa using hk)]; rfl
def bnd (T : Nat → AV) : Option Operand → Nat → Option Int
  | none, d => some d
  | some x, _ => match ev T x with
    | .sc (.int _ n) => some n
    | _ => none
def bndc (T : Nat → AV) : Option Operand → Prop
  | none => True
  | some x => (evO T x).cond = true
theorem rep_subslice {w : World} {O : Nat → Prop} {g : Nat → List Value} {es : List AV} {a0 : Option Addr} {cap z L M : Nat} (h : Rep w O g (.sl es) (.slice a0 es.length cap)) (hes : ∀ v ∈ es, v.cells.length = z) (h1 : L ≤ M) (h2 : M ≤ es.length) :
    Rep w O g (.sl ((es.take M).drop L)) (.slice (if cap = L then a0 else a0.map (·.add (L * z))) (M - L) (cap - L)) := by
  obtain ⟨a1, cap1, hv, hrest⟩ := h.sl_inv
  injection hv with e1 _ e3
  subst e1; subst e3
  have hlen : ((es.take M).drop L).length = M - L := by simp; omega
  by_cases hpos : L < M
  · have hpe : 0 < es.length := by omega
    obtain ⟨hcap, z', blk, off, f, rfl, hzz, hO, hlt, c1, c2⟩ := hrest hpe
    have : z' = z := by rw [← hes _ (getD_mem (d := .und) hpe), hzz _ (getD_mem hpe)]
    subst this
    have hne : ¬ cap = L := by omega
    have hmul : L * z' + (M - L) * z' ≤ es.length * z' := by
      rw [← Nat.add_mul]; exact Nat.mul_le_mul_right _ (by omega)
    have hget : ∀ i, i < M - L → ((es.take M).drop L).getD i .und = es.getD (L + i) .und := by
      intro i hi
      rw [List.getD_eq_getElem?_getD, List.getElem?_drop, List.getElem?_take, if_pos (by omega), List.getD_eq_getElem?_getD]
    simp only [hne, if_false, Option.map_some, add_addr, ← hlen]
    refine .sl1 z' _ blk (off + L * z') (cap - L) (fun i => f (L * z' + i)) (by rw [hlen]; omega) (fun e he => ?_) hO hlt (fun i hi => ?_) (fun i hi j hj => ?_)
    · exact hzz e (List.mem_of_mem_take (List.mem_of_mem_drop he))
    · rw [hlen] at hi; rw [Nat.add_assoc]; exact c1 _ (by omega)
    · rw [hlen] at hi
      rw [hget i hi, show L * z' + (i * z' + j) = (L + i) * z' + j by rw [Nat.add_mul]; omega]
      exact c2 _ (by omega) j hj
  · have hnil : (es.take M).drop L = [] := List.eq_nil_of_length_eq_zero (by omega)
    have h0' : M - L = 0 := by omega
    rw [hnil, h0']
    exact .sl0 _ _
theorem opS_slice {t e z by_ : Nat} {ag : Bool} {x : Operand} {lo hi : Option Operand} {es : List AV} {l m : Int} (h : o.op = .slice t x lo hi none) (hc : (evO T x).cond = true) (hx : ev T x = .sl es) (he : elI C.P t = some (e, z, by_, ag))
    (hlo : bnd T lo 0 = some l) (hhi : bnd T hi es.length = some m) (hcl : bndc T lo) (hch : bndc T hi) (h0 : 0 ≤ l) (h1 : l ≤ m) (h2 : m ≤ es.length) (hes : ∀ v ∈ es, v.cells.length = z) :
    OpS C o T H nx ⟨.sl ((es.take m.toNat).drop l.toNat), [], 0, []⟩ := by
  refine opS_pure fun T' H' D g a w hr hT hH => ?_
  have r1 := one_rep hr (hT x (by simp [h, Op.operands])) hc
  rw [hx] at r1
  obtain ⟨a0, cap, hv, hrest⟩ := r1.sl_inv
  have r1' := r1
  rw [hv] at r1'
  obtain ⟨i, k1, k2, k3, k4, k5, k6, k7⟩ := elI_some he
  have hcap : es.length ≤ cap ∨ es.length = 0 := by
    rcases Nat.eq_zero_or_pos es.length with h0 | h0
    · exact .inr h0
    · exact .inl (hrest h0).1
  have hcap' : es.length ≤ cap := by rcases hcap with h | h <;> omega
  have bv : ∀ (y : Option Operand) (d : Nat) (n : Int), bnd T y d = some n → bndc T y → (∀ z, y = some z → z ∈ o.op.operands) → (y = none ∧ n = d) ∨ ∃ z k, y = some z ∧ a.eval z = .int k n := by
    intro y d n hb hcy hmem
    cases y with
    | none => simp only [bnd, Option.some.injEq] at hb; exact .inl ⟨rfl, hb.symm⟩
    | some z =>
      have r := one_rep hr (hT z (hmem z rfl)) hcy
      simp only [bnd] at hb
      split at hb
      · rename_i k n' hz
        simp only [Option.some.injEq] at hb
        subst hb
        rw [hz] at r
        exact .inr ⟨z, k, rfl, r.sc_inv⟩
      · cases hb
  have hl := bv lo 0 l hlo hcl (fun z hz => by rw [h, hz]; simp [Op.operands])
  have hh := bv hi es.length m hhi hch (fun z hz => by rw [h, hz]; simp [Op.operands])
  have hml : m.toNat ≤ cap := by omega
  have hbounds : (Instr.sliceBounds true es.length cap (lo.map a.eval) (hi.map a.eval) none).run C.P w = .ok (l.toNat, m.toNat, cap) w := by
    have hsb : ∀ (k : IntKind) (n : Int) (y : Nat) (code : BoundsCode), 0 ≤ n → n ≤ y → (Instr.sliceBound (.int k n) y code).run C.P w = .ok n.toNat w := by
      intro k n y code hn0 hn1
      simp only [Instr.sliceBound, asIntOf, Sem.run_bind, Sem.run_pure, Result.andThen_ok]
      rw [if_pos ⟨hn0, hn1⟩]; rfl
    rcases hl with ⟨rfl, rfl⟩ | ⟨zl, kl, rfl, hzl⟩ <;> rcases hh with ⟨rfl, rfl⟩ | ⟨zh, kh, rfl, hzh⟩
    · simp [Instr.sliceBounds]
    · simp [Instr.sliceBounds, hzh, hsb kh m cap _ (by omega) (by omega)]
    · simp [Instr.sliceBounds, hzl, hsb kl l es.length _ h0 h1]
    · simp [Instr.sliceBounds, hzl, hzh, hsb kh m cap _ (by omega) (by omega), hsb kl l m.toNat _ h0 (by omega)]
  have hrun : (execOp a.eval o).run C.P w = .ok (.value (.slice (if cap = l.toNat then a0 else a0.map (·.add (l.toNat * z))) (m.toNat - l.toNat) (cap - l.toNat))) w := by
    have hsl : (Instr.slice t (.slice a0 es.length cap) (lo.map a.eval) (hi.map a.eval) none).run C.P w = .ok (.slice (if cap = l.toNat then a0 else a0.map (·.add (l.toNat * z))) (m.toNat - l.toNat) (cap - l.toNat)) w := by
      unfold Instr.slice
      simp only [Sem.run_bind, run_underlying k1, Result.andThen_ok, hbounds, run_sizeOf' k2, Sem.run_pure, k3]
    unfold execOp
    simp only [h, hv, Option.map_none, Instr.sliceAt, Sem.run_bind, run_underlying k1, Result.andThen_ok, hsl, Sem.run_pure]
  refine ⟨_, hrun, ?_⟩
  exact rep_subslice r1' hes (by omega) (by omega)
end
section
variable {C : Cx} {T : Nat → AV} {H : Nat → Option ABox} {D : Nat → Prop} {g : Nat → List Value} {a : Act} {w : World}
theorem Own.less {O : Nat → Prop} {H1 : Nat → Option ABox} (hs : ∀ c x, H1 c = some x → H c = some x) {k : Nat} (h : Own O g H1 k) : Own O g H k := by
  rcases h with h | ⟨b, x, hb, hk⟩
  · exact .inl h
  · exact .inr ⟨b, x, hs b x hb, hk⟩
theorem BoxRep.sub {O O' : Nat → Prop} (hO : ∀ k, O' k → O k) {b : Nat} {x : ABox} (h : BoxRep w O g b x) : BoxRep w O' g b x :=
  h.later ⟨Nat.le_refl _, fun _ _ _ => rfl, fun k _ h => hO k h⟩ (Ext.refl g) (fun _ _ => rfl) rfl
theorem Rel.less {H1 : Nat → Option ABox} (hs : ∀ c x, H1 c = some x → H c = some x) (hr : Rel C T H D g a w) : Rel C T H1 D g a w :=
  ⟨hr.df, hr.sz, fun t => (hr.tm t).sub fun k hk => Own.less hs hk, fun b x hb => (hr.bx b x (hs b x hb)).sub fun k hk => Own.less hs hk, hr.fresh,
    fun b x hb => hr.dom b x (hs b x hb), fun b b' x x' k h h' => hr.sep b b' x x' k (hs b x h) (hs b' x' h'), fun b x k h => hr.own b x k (hs b x h), hr.oo, hr.kept, hr.old.mono (fun b x hx => ⟨x, hs b x hx⟩) (fun _ h => h)⟩
theorem row_content {H1 : Nat → Option ABox} (hs : ∀ c x, H1 c = some x → H c = some x) {b e z ver : Nat} {es : List AV} (h1 : H1 b = none) (hb : H b = some (.row e z ver es)) (hr : Rel C T H D g a w)
    {O : Nat → Prop} {val : Value} (h : Rep w O g (.ow b ver) val) : Rep w (Own C.O g H1) g (.sl es) val := by
  obtain ⟨a0, n, c, rfl, hg⟩ := h.ow_inv
  obtain ⟨sv, xs, h2, h3, h4, h5, h6⟩ := hr.bx b _ hb
  rw [hg] at h2
  injection h2 with h2
  subst h2
  obtain ⟨hl, h4'⟩ := h4
  rcases h4' with ⟨hn, a1, hv⟩ | ⟨gg, cap, cur, hv, hh, hcap, _, hsz, htk⟩
  · injection hv with e1 e2 e3
    subst e1; subst e2; subst e3
    have : es = [] := List.eq_nil_of_length_eq_zero hn
    subst this
    exact .sl0 _ 0
  · injection hv with e1 e2 e3
    subst e1; subst e2; subst e3
    have hob : ownBlk g b (.row e z ver es) = some gg := by simp [ownBlk, hg, rowBlk]
    have hown := hr.own b _ gg hb hob
    have hno : ¬ Own C.O g H1 gg := by
      rintro (h | ⟨b', x', hb', hk'⟩)
      · exact hown.1 h
      · have := hr.sep b b' _ x' gg hb (hs b' x' hb') hob hk'
        subst this
        rw [h1] at hb'; cases hb'
    refine .sl1 z es gg 0 (cap + 1) (fun i => xs.getD i undef) hcap h5 hno hown.2.2 (fun i hi => ?_) (fun i hi j hj => (h6 i hi j hj).sub fun k hk => Own.less hs hk)
    rw [Nat.zero_add, cell_of_row w gg i cur e (0, 0) hh]
    have hlt : i < xs.length := by omega
    have hx : xs[i]? = cur[i]? := by rw [← htk, List.getElem?_take, if_pos hi, Array.getElem?_toList]
    rw [← hx, List.getD_eq_getElem?_getD, List.getElem?_eq_getElem hlt]
    rfl
theorem OpS.freeze {o : Oper} {nx e z : Nat} {es : List AV} (h : OpS C o T H nx ⟨.ow nx 0, [(nx, .row e z 0 es)], 1, []⟩) : OpS C o T H nx ⟨.sl es, [], 1, []⟩ := by
  intro T' H' D g a w hr hT hb hn K Q hK
  refine h T' H' D g a w hr hT (fun b hb => by cases hb) hn K Q fun v w' g' hr' hv => ?_
  have hnone : H' nx = none := by
    cases hx : H' nx with
    | none => rfl
    | some x => exact absurd (hr.dom nx x hx) (hn 0 (Nat.lt_succ_self 0))
  have hs : ∀ c x, H' c = some x → updL H' [(nx, .row e z 0 es)] c = some x := by
    intro c x hc
    have : c ≠ nx := by rintro rfl; rw [hnone] at hc; cases hc
    simp only [updL, updF_other this]; exact hc
  exact hK v w' g' (hr'.less hs) (row_content (e := e) (z := z) (es := es) hs hnone (by simp [updL, updF]) hr' hv)
end
end Go.AL
/-
  The abstract logic: elements of rows of one's own: addresses, loads, stores; a slice without room. Conditions: none.
-/
namespace Go.AL
open Go.RowKit
section
variable {C : Cx} {T : Nat → AV} {H : Nat → Option ABox} {D : Nat → Prop} {g : Nat → List Value} {a : Act} {w : World}
theorem Rel.setbox {b blk : Nat} {x0 x1 : ABox} {w' : World} (h : Rel C T H D g a w) (hH : H b = some x0) (hbk : ownBlk g b x0 = some blk) (hbk' : ownBlk g b x1 = some blk)
    (hwo : w'.os = w.os) (hwt : w'.tape = w.tape) (hwu : w'.output = w.output) (hwz : w'.heap.size = w.heap.size) (hwd : w.drawn ≤ w'.drawn) (hwb : ∀ k, k ≠ blk → w'.heap[k]? = w.heap[k]?)
    (hbx : Later w (Own C.O g H) w' (Own C.O g (updF H b (some x1))) → BoxRep w' (Own C.O g (updF H b (some x1))) g b x1) :
    Rel C T (updF H b (some x1)) D g a w' := by
  have hother : ∀ c x, updF H b (some x1) c = some x → (c = b ∧ x = x1) ∨ (c ≠ b ∧ H c = some x) := by
    intro c x hx
    by_cases hc : c = b
    · subst hc; rw [updF_same] at hx; left; exact ⟨rfl, by injection hx with hx; exact hx.symm⟩
    · rw [updF_other hc] at hx; exact .inr ⟨hc, hx⟩
  have hOwn : ∀ k, Own C.O g (updF H b (some x1)) k → Own C.O g H k := by
    rintro k (hk' | ⟨c, x, hx, hk'⟩)
    · exact .inl hk'
    · rcases hother c x hx with ⟨hcb, hxx⟩ | ⟨hc, hx⟩
      · rw [hcb, hxx, hbk', ← hbk] at hk'; exact .inr ⟨b, _, hH, hk'⟩
      · exact .inr ⟨c, x, hx, hk'⟩
  have hOb : Own C.O g H blk := .inr ⟨b, _, hH, hbk⟩
  have hl : Later w (Own C.O g H) w' (Own C.O g (updF H b (some x1))) :=
    ⟨by omega, fun k _ hk' => hwb k (fun e => hk' (e ▸ hOb)), fun k _ hk => hOwn k hk⟩
  refine ⟨h.df, h.sz, fun t => (h.tm t).later hl (Ext.refl g), fun c x hx => ?_, h.fresh, fun c x hx => ?_, fun c c' x x' k hx hx' hk hk' => ?_, fun c x k hx hk => ?_, h.oo, ?_, h.old.set hH _⟩
  · rcases hother c x hx with ⟨hcb, hxx⟩ | ⟨hc, hx⟩
    · rw [hcb, hxx]; exact hbx hl
    · exact (h.bx c x hx).later hl (Ext.refl g) (fun k hk => hwb k (fun e => hc (h.sep c b x _ blk hx hH (e ▸ hk) hbk))) rfl
  · rcases hother c x hx with ⟨hcb, _⟩ | ⟨_, hx⟩
    · rw [hcb]; exact h.dom _ _ hH
    · exact h.dom c x hx
  · rcases hother c x hx with ⟨hcb, hxx⟩ | ⟨hc, hx⟩ <;> rcases hother c' x' hx' with ⟨hcb', hxx'⟩ | ⟨hc', hx'⟩
    · exact hcb.trans hcb'.symm
    · rw [hcb, hxx, hbk', ← hbk] at hk; rw [hcb]; exact h.sep _ _ _ _ k hH hx' hk hk'
    · rw [hcb', hxx', hbk', ← hbk] at hk'; rw [hcb']; exact h.sep _ _ _ _ k hx hH hk hk'
    · exact h.sep _ _ _ _ k hx hx' hk hk'
  · rw [hwz]
    rcases hother c x hx with ⟨hcb, hxx⟩ | ⟨hc, hx⟩
    · rw [hcb, hxx, hbk', ← hbk] at hk; exact h.own _ _ _ hH hk
    · exact h.own _ _ _ hx hk
  · refine h.kept.trans (F' := fun k => k = blk) ⟨hwo, hwt, hwu, by omega, fun k _ hk => hwb k hk, hwd⟩ (fun k hk e => ?_)
    subst e
    rcases (h.own _ _ _ hH hbk).2.1 with hf | hf
    · exact hf
    · omega
theorem row_open {b e z ver : Nat} {es : List AV} {O : Nat → Prop} (hb : BoxRep w O g b (.row e z ver es)) (h0 : 0 < es.length) :
    ∃ (blk cap : Nat) (cur : Array Value), (g b)[ver]? = some (.slice (some ⟨blk, 0, none⟩) es.length (cap + 1)) ∧ (g b).length = ver + 1 ∧ w.heap[blk]? = some (.cells cur e (0, 0)) ∧ es.length ≤ cap + 1 ∧ cap + 1 ≤ maxLen ∧ cur.size = (cap + 1) * z ∧
      ownBlk g b (.row e z ver es) = some blk ∧ (∀ a ∈ es, a.cells.length = z) ∧ ∀ i, i < es.length → ∀ j, j < z → i * z + j < cur.size ∧ Rep w O g ((es.getD i .und).cells.getD j .und) (cur.getD (i * z + j) undef) := by
  obtain ⟨sv, xs, h1, h2, h3, h4, h5⟩ := hb
  rcases h3.2 with ⟨hn, _⟩ | ⟨blk, cap, cur, rfl, hh, hc, hm, hsz, htk⟩
  · omega
  · have hbd : ∀ i, i < es.length → ∀ j, j < z → i * z + j < es.length * z := fun i hi j hj => by
      have := Nat.mul_le_mul_right z (show i + 1 ≤ es.length by omega)
      rw [Nat.succ_mul] at this; omega
    have hle : es.length * z ≤ (cap + 1) * z := Nat.mul_le_mul_right z hc
    refine ⟨blk, cap, cur, h1, h2, hh, hc, hm, hsz, by simp only [ownBlk, h1]; rfl, h4, fun i hi j hj => ?_⟩
    have hlt := hbd i hi j hj
    refine ⟨by omega, ?_⟩
    have := h5 i hi j hj
    have e2 : xs.getD (i * z + j) undef = cur.getD (i * z + j) undef := by
      rw [← htk, List.getD_eq_getElem?_getD, List.getElem?_take, if_pos hlt, Array.getElem?_toList, Array.getD_eq_getD_getElem?]
    rwa [e2] at this
theorem setv_cells {v y : AV} {off n : Nat} (hl : y.cells.length = n) (hfit : off + n ≤ v.cells.length) :
    (v.setv off y).cells.length = v.cells.length ∧ ∀ j, (v.setv off y).cells.getD j .und = if off ≤ j ∧ j < off + n then y.cells.getD (j - off) .und else v.cells.getD j .und := by
  unfold AV.setv
  split
  · rename_i hw
    obtain ⟨rfl, hw⟩ := hw
    refine ⟨hw, fun j => ?_⟩
    split
    · rfl
    · rename_i hj
      have h1 : y.cells.length ≤ j := by omega
      have h2 : v.cells.length ≤ j := by omega
      rw [List.getD_eq_getElem?_getD, List.getD_eq_getElem?_getD, List.getElem?_eq_none h1, List.getElem?_eq_none h2]
  · rw [cells_agg]
    refine ⟨by simp; omega, fun j => ?_⟩
    rw [List.getD_eq_getElem?_getD]
    by_cases c1 : j < off
    · rw [if_neg (by omega), List.append_assoc, List.getElem?_append_left (by simp; omega), List.getElem?_take, if_pos c1, List.getD_eq_getElem?_getD]
    · by_cases c2 : j < off + n
      · rw [if_pos (by omega), List.append_assoc, List.getElem?_append_right (by simp; omega), List.getElem?_append_left (by simp; omega)]
        have hm : min off v.cells.length = off := by omega
        simp only [List.length_take, hm, List.getD_eq_getElem?_getD]
      · rw [if_neg (by omega), List.getElem?_append_right (by simp; omega)]
        have hm : min off v.cells.length = off := by omega
        simp only [List.length_append, List.length_take, hm, List.getElem?_drop, List.getD_eq_getElem?_getD]
        have e : off + y.cells.length + (j - (off + y.cells.length)) = j := by omega
        rw [e]
end
section
variable {C : Cx} {o : Oper} {T : Nat → AV} {H : Nat → Option ABox} {nx : Nat}
theorem opS_indexAddr_ow {t e e' n by_ b ver : Nat} {ag : Bool} {x y : Operand} {es : List AV} {k : IntKind} {i : Int} (h : o.op = .indexAddr t x y) (hc : (evO T x).cond = true) (hc' : (evO T y).cond = true) (hx : ev T x = .ow b ver)
    (hb : H b = some (.row e n ver es)) (hy : ev T y = .sc (.int k i)) (he : elI C.P t = some (e', n, by_, ag)) (h0 : 0 ≤ i) (hi : i < es.length) :
    OpS C o T H nx ⟨.rp b ver n i.toNat 0, [], 0, [b]⟩ := by
  refine opS_pure fun T' H' D g a w hr hT hH => ?_
  have r1 := one_rep hr (hT x (by simp [h, Op.operands])) hc
  have r2 := one_rep hr (hT y (by simp [h, Op.operands])) hc'
  rw [hx] at r1; rw [hy] at r2
  obtain ⟨a0, m, c, hv, hg⟩ := r1.ow_inv
  have hv2 := r2.sc_inv
  obtain ⟨blk, cap, cur, g1, _⟩ := row_open (hr.bx b _ ((hH b (by simp)).trans hb)) (by omega)
  rw [hg] at g1
  injection g1 with g1
  injection g1 with e1 e2 e3
  subst e1; subst e2; subst e3
  obtain ⟨inf, k1, k2, k3, k4, k5, k6, k7⟩ := elI_some he
  refine ⟨.pointer (some ⟨blk, i.toNat * n + 0, none⟩), ?_, .rp b ver n i.toNat 0 blk _ _ hg⟩
  unfold execOp
  simp only [h, hv, hv2, Instr.indexAt, asIntOf, Sem.run_bind, Sem.run_pure, Result.andThen_ok, run_underlying k1]
  rw [if_pos ⟨h0, hi⟩]
  simp only [Sem.run_bind, run_sizeOf' k2, Result.andThen_ok, Sem.run_pure, k3, add_addr, Nat.zero_add, Nat.add_zero]
theorem opS_fieldAddr_rp {s f fo sz b ver z i off : Nat} {ag : Bool} {x : Operand} (h : o.op = .fieldAddr s x f) (hc : (evO T x).cond = true) (hx : ev T x = .rp b ver z i off) (hf : fldI C.P s f = some (fo, sz, ag)) :
    OpS C o T H nx ⟨.rp b ver z i (off + fo), [], 0, []⟩ := by
  refine opS_pure fun T' H' D g a w hr hT hH => ?_
  have r1 := one_rep hr (hT x (by simp [h, Op.operands])) hc
  rw [hx] at r1
  obtain ⟨blk, n, c, hv, hg⟩ := r1.rp_inv
  refine ⟨.pointer (some ⟨blk, i * z + (off + fo), none⟩), ?_, .rp b ver z i (off + fo) blk n c hg⟩
  unfold execOp
  simp only [h, hv, Sem.run_bind, run_fieldAt hf, Result.andThen_ok, Sem.run_pure, Nat.add_assoc]
theorem opS_load_rp {t : TypeId} {x : Operand} {b ver z i off n e : Nat} {ag : Bool} {es : List AV} (h : o.op = .load t x) (hc : (evO T x).cond = true) (hx : ev T x = .rp b ver z i off) (hb : H b = some (.row e z ver es))
    (ht : tyI C.P t = some (n, ag)) (hn : ag = false → n = 1) (hi : i < es.length) (hfit : off + n ≤ z) : OpS C o T H nx ⟨(es.getD i .und).subv off n ag, [], 0, [b]⟩ := by
  refine opS_pure fun T' H' D g a w hr hT hH => ?_
  have r1 := one_rep hr (hT x (by simp [h, Op.operands])) hc
  rw [hx] at r1
  obtain ⟨blk, m, c, hv, hg⟩ := r1.rp_inv
  obtain ⟨blk', cap, cur, g1, _, h2, _, _, h5, _, h6, h7⟩ := row_open (hr.bx b _ ((hH b (by simp)).trans hb)) (by omega)
  rw [hg] at g1
  injection g1 with g1
  injection g1 with e1 e2 e3
  injection e1 with e1
  injection e1 with e1
  subst e1
  have hz : (es.getD i .und).cells.length = z := h6 _ (getD_mem hi)
  refine ⟨if ag then .agg ((List.range n).map fun j => cur.getD (i * z + off + j) undef).toArray else cur.getD (i * z + off + 0) undef, ?_, ?_⟩
  · unfold execOp
    simp only [h, hv, Instr.loadAt, Instr.sureAddr]
    simp only [Sem.run_bind, Sem.run_pure, Result.andThen_ok]
    rw [run_loadVar_cells (f := fun j => cur.getD (i * z + off + j) undef) ht hn (fun j hj => by
      rw [cell_of_row w blk (i * z + off + j) cur e (0, 0) h2]
      have := (h7 i hi (off + j) (by omega)).1
      have : i * z + off + j < cur.size := by omega
      simp [Array.getD, this])]
    simp only [Result.andThen_ok]
  · unfold AV.subv
    cases ag with
    | true =>
      simp only [if_true]
      refine .agg _ _ (by simp only [List.length_take, List.length_drop, hz]; simp; omega) fun j hj => ?_
      have hj' : j < n := by simp at hj; omega
      rw [getD_drop_take _ _ _ _ _ hj' (by omega)]
      have : ((List.range n).map fun j => cur.getD (i * z + off + j) undef).toArray.getD j undef = cur.getD (i * z + off + j) undef := by simp [Array.getD, hj']
      rw [this, Nat.add_assoc]
      exact (h7 i hi _ (by omega)).2
    | false =>
      have := hn rfl
      simp only [Bool.false_eq_true, if_false]
      rw [Nat.add_zero]
      exact (h7 i hi off (by omega)).2
theorem opS_store_rp {t : TypeId} {x y : Operand} {b ver z i off n e : Nat} {ag : Bool} {es : List AV} (h : o.op = .store t x y) (hc : (evO T x).cond = true) (hc' : (evO T y).cond = true) (hx : ev T x = .rp b ver z i off) (hb : H b = some (.row e z ver es))
    (ht : tyI C.P t = some (n, ag)) (hok : (ev T y).ok = true) (hone : ∀ c ∈ (ev T y).cells, c.one = true) (hlen : (ev T y).cells.length = n) (hi : i < es.length) (hfit : off + n ≤ z) :
    OpS C o T H nx ⟨.und, [(b, .row e z ver (es.set i ((es.getD i .und).setv off (ev T y))))], 0, [b]⟩ := by
  intro T' H' D g a w hr hT hH _ K Q hK
  have r1 := one_rep hr (hT x (by simp [h, Op.operands])) hc
  have r2 := one_rep hr (hT y (by simp [h, Op.operands])) hc'
  rw [hx] at r1
  obtain ⟨blk, m, c, hv, hg⟩ := r1.rp_inv
  obtain ⟨s1, s2⟩ := r2.cells hok
  have hb' : H' b = some (.row e z ver es) := (hH b (by simp)).trans hb
  obtain ⟨blk', cap, cur, g1, g2, h2, hc1, hc2, h5, hob, h6, h7⟩ := row_open (hr.bx b _ hb') (by omega)
  have hg0 := hg
  rw [hg] at g1
  injection g1 with g1
  injection g1 with e1 e2 e3
  injection e1 with e1
  injection e1 with e1
  subst e1; subst e2; subst e3
  have hz : (es.getD i .und).cells.length = z := h6 _ (getD_mem hi)
  obtain ⟨inf, d, hif, hu, rfl, rfl⟩ := tyI_some ht
  have hone' : ∀ u ∈ (a.eval y).cells.toList, u.oneCell' = true := by
    intro u hu
    obtain ⟨j, hj, rfl⟩ := List.mem_iff_getElem.1 hu
    have hj' : j < (a.eval y).cells.size := by simpa using hj
    have := s2 j (by omega)
    have e : (a.eval y).cells.getD j undef = (a.eval y).cells[j] := by simp [Array.getD, hj']
    rw [e] at this
    exact this.oneCell (hone _ (getD_mem (by omega)))
  have hcl : (a.eval y).cells.toList.length = inf.size := by simp; omega
  have hend : i * z + z ≤ es.length * z := by
    have := Nat.mul_le_mul_right z (show i + 1 ≤ es.length by omega)
    rwa [Nat.succ_mul] at this
  have hcap : es.length * z ≤ (cap + 1) * z := Nat.mul_le_mul_right z hc1
  have hfits : i * z + off + inf.size ≤ cur.size := by omega
  have hst := run_storeCells_at (P := C.P) blk (i * z + off) e (a.eval y).cells.toList 0 cur w h2 (by omega) hone'
  rw [Nat.add_zero] at hst
  have hsz : (sizeOf t).run C.P w = .ok inf.size w := by
    unfold sizeOf; simp only [Sem.run_bind, run_typeInfo w hif, Result.andThen_ok, Sem.run_pure]
  generalize hnew : (cur.toList.take (i * z + off) ++ (a.eval y).cells.toList ++ cur.toList.drop (i * z + off + (a.eval y).cells.toList.length)).toArray = cur' at hst
  have hrun : (execOp a.eval o).run C.P w = .ok .skip (w.setRow blk cur') := by
    unfold execOp
    simp only [h, hv, Instr.storeAt, Instr.sureAddr, storeVar, Sem.run_bind, Sem.run_pure, Result.andThen_ok, hsz]
    rw [if_neg (by simp; omega)]
    simp only [Sem.run_bind, Sem.run_pure, Result.andThen_ok, hst]
  have hs' : cur'.size = cur.size := by
    rw [← hnew]; simp only [List.size_toArray, List.length_append, List.length_take, List.length_drop, Array.length_toList]
    omega
  have hcell : ∀ j, j < cur.size → cur'.getD j undef = if i * z + off ≤ j ∧ j < i * z + off + inf.size then (a.eval y).cells.getD (j - (i * z + off)) undef else cur.getD j undef := by
    intro j hj
    rw [← hnew, Array.getD_eq_getD_getElem?]
    simp only [List.getElem?_toArray]
    by_cases c1 : j < i * z + off
    · rw [if_neg (by omega), List.append_assoc, List.getElem?_append_left (by simp; omega), List.getElem?_take, if_pos c1]
      simp [Array.getD, hj]
    · by_cases c2 : j < i * z + off + inf.size
      · rw [if_pos (by omega), List.append_assoc, List.getElem?_append_right (by simp; omega), List.getElem?_append_left (by simp; omega)]
        have hm : min (i * z + off) cur.size = i * z + off := by omega
        simp only [List.length_take, Array.length_toList, hm]
        have : j - (i * z + off) < (a.eval y).cells.size := by omega
        simp [Array.getD, this]
      · rw [if_neg (by omega), List.getElem?_append_right (by simp; omega)]
        have hm : min (i * z + off) cur.size = i * z + off := by omega
        simp only [List.length_append, List.length_take, Array.length_toList, hm, hcl, List.getElem?_drop]
        have e : i * z + off + inf.size + (j - (i * z + off + inf.size)) = j := by omega
        rw [e]
        simp [Array.getD, hj]
  obtain ⟨v1, v2⟩ := setv_cells (v := es.getD i .und) (off := off) hlen (by omega)
  refine wp_of_skip hrun (hK _ _ g ((hr.setbox (x1 := .row e z ver (es.set i ((es.getD i .und).setv off (ev T y)))) (w' := w.setRow blk cur') hb' hob (by simp only [ownBlk, hg0]; rfl) rfl rfl rfl (by simp) (Nat.le_refl _) (fun k hk => setRow_other w blk k _ hk) (fun hl => ?_)).dmono fun b hb => .inl hb) (.und _))
  refine ⟨_, cur'.toList.take (es.length * z), hg0, g2, ⟨?_, .inr ⟨blk, cap, cur', by rw [List.length_set], setRow_heap w blk cur _ e (0, 0) h2, by rw [List.length_set]; exact hc1, hc2, by omega, by rw [List.length_set]⟩⟩, fun v hv => ?_, fun i' hi' j hj => ?_⟩
  · rw [List.length_take, List.length_set]; simp; omega
  · rcases List.mem_or_eq_of_mem_set hv with hv | rfl
    · exact h6 v hv
    · rw [v1]; exact hz
  · rw [List.length_set] at hi'
    have hbd : i' * z + j < es.length * z := by
      have := Nat.mul_le_mul_right z (show i' + 1 ≤ es.length by omega)
      rw [Nat.succ_mul] at this; omega
    have e1 : (cur'.toList.take (es.length * z)).getD (i' * z + j) undef = cur'.getD (i' * z + j) undef := by
      rw [List.getD_eq_getElem?_getD, List.getElem?_take, if_pos hbd, Array.getElem?_toList, Array.getD_eq_getD_getElem?]
    rw [e1, hcell _ (by omega)]
    by_cases hii : i' = i
    · subst hii
      have e2 : (es.set i' ((es.getD i' .und).setv off (ev T y))).getD i' .und = (es.getD i' .und).setv off (ev T y) := by
        rw [List.getD_eq_getElem?_getD, List.getElem?_set_self hi']; rfl
      rw [e2, v2 j]
      by_cases hjj : off ≤ j ∧ j < off + inf.size
      · rw [if_pos hjj, if_pos (by omega), show i' * z + j - (i' * z + off) = j - off by omega]
        exact (s2 _ (by omega)).later hl (Ext.refl g)
      · rw [if_neg hjj, if_neg (by omega)]
        exact (h7 i' hi j hj).2.later hl (Ext.refl g)
    · have e2 : (es.set i ((es.getD i .und).setv off (ev T y))).getD i' .und = es.getD i' .und := by
        rw [List.getD_eq_getElem?_getD, List.getElem?_set_ne (fun e => hii e.symm), List.getD_eq_getElem?_getD]
      rw [e2, if_neg ?_]
      · exact (h7 i' hi' j hj).2.later hl (Ext.refl g)
      · rintro ⟨c1, c2⟩
        rcases Nat.lt_or_gt_of_ne hii with hlt | hlt
        · have := Nat.mul_le_mul_right z (show i' + 1 ≤ i by omega)
          rw [Nat.succ_mul] at this; omega
        · have := Nat.mul_le_mul_right z (show i + 1 ≤ i' by omega)
          rw [Nat.succ_mul] at this; omega
theorem opS_slice0 {t e z by_ : Nat} {ag : Bool} {x : Operand} {hi mx : Operand} {es : List AV} {rb : List Nat} {k k' : IntKind} (h : o.op = .slice t x none (some hi) (some mx)) (hc : (evO T x).cond = true) (hx : asrc H (ev T x) = some (es, rb)) (he : elI C.P t = some (e, z, by_, ag))
    (hhi : ev T hi = .sc (.int k 0)) (hmx : ev T mx = .sc (.int k' 0)) (hch : (evO T hi).cond = true) (hcm : (evO T mx).cond = true) (hes : ∀ v ∈ es, v.cells.length = z) : OpS C o T H nx ⟨.e0, [], 0, rb⟩ := by
  refine opS_pure fun T' H' D g a w hr hT hH => ?_
  have r1 := one_rep hr (hT x (by simp [h, Op.operands])) hc
  have r2 := one_rep hr (hT hi (by simp [h, Op.operands])) hch
  have r3 := one_rep hr (hT mx (by simp [h, Op.operands])) hcm
  rw [hhi] at r2; rw [hmx] at r3
  have v2 := r2.sc_inv
  have v3 := r3.sc_inv
  obtain ⟨a0, c, news, hv, _⟩ := rep_asrc (H := H) hr hH r1 hx hes
  obtain ⟨i, k1, k2, k3, k4, k5, k6, k7⟩ := elI_some he
  refine ⟨.slice (if (0 : Nat) = 0 then a0 else a0.map (·.add (0 * z))) (0 - 0) (0 - 0), ?_, .e0 _⟩
  have hsb : ∀ (k : IntKind) (y : Nat) (code : BoundsCode), (Instr.sliceBound (.int k 0) y code).run C.P w = .ok 0 w := by
    intro k y code
    simp only [Instr.sliceBound, asIntOf, Sem.run_bind, Sem.run_pure, Result.andThen_ok]
    rw [if_pos ⟨by omega, by omega⟩]; rfl
  have hbounds : (Instr.sliceBounds true es.length c (none : Option Value) (some (.int k 0)) (some (.int k' 0))).run C.P w = .ok (0, 0, 0) w := by
    simp [Instr.sliceBounds, hsb]
  have hsl : (Instr.slice t (.slice a0 es.length c) none (some (.int k 0)) (some (.int k' 0))).run C.P w = .ok (.slice (if (0 : Nat) = 0 then a0 else a0.map (·.add (0 * z))) (0 - 0) (0 - 0)) w := by
    unfold Instr.slice
    simp only [Sem.run_bind, run_underlying k1, Result.andThen_ok, hbounds, run_sizeOf' k2, Sem.run_pure, k3]
  unfold execOp
  simp only [h, hv, v2, v3, Option.map_none, Option.map_some, Instr.sliceAt, Sem.run_bind, run_underlying k1, Result.andThen_ok, hsl, Sem.run_pure]
theorem opS_append_e0 {t e z by_ : Nat} {ag : Bool} {x y : Operand} {zs : List Value} {es : List AV} {rb : List Nat} (h : o.op = .call { callee := .builtin .append, args := #[x, y], argTypes := #[t, t] })
    (hc : (evO T x).cond = true) (hc' : (evO T y).cond = true) (hx : ev T x = .e0) (hy : asrc H (ev T y) = some (es, rb)) (he : elI C.P t = some (e, z, by_, ag)) (hz : zI C.P e = some zs) (hzl : zs.length = z)
    (hes : ∀ v ∈ es, v.cells.length = z ∧ ∀ c ∈ v.cells, c.one = true) (h63 : es.length ≤ maxLen) (hbytes : es.length * by_ ≤ 140737488355328) :
    OpS C o T H nx ⟨.ow nx 0, [(nx, .row e z 0 es)], 1, rb⟩ := by
  intro T' H' D g a w hr hT hH hn K Q hK
  have hn0 : ¬ D nx := hn 0 (Nat.lt_succ_self 0)
  have r1 := one_rep hr (hT x (by simp [h, Op.operands, Call.operands])) hc
  have r2 := one_rep hr (hT y (by simp [h, Op.operands, Call.operands])) hc'
  rw [hx] at r1
  obtain ⟨b0, hv1⟩ := r1.e0_inv
  have hzz : ∀ v ∈ es, v.cells.length = z := fun v hv => (hes v hv).1
  obtain ⟨a0, c, news, hv2, hnl, hcell, hnr⟩ := rep_asrc (H := H) hr hH r2 hy hzz
  obtain ⟨i, k1, k2, k3, k4, k5, k6, k7⟩ := elI_some he
  have hzp : 0 < z := by omega
  have h1 : ∀ u ∈ news, u.oneCell' = true := by
    intro u hu
    obtain ⟨j, hj, rfl⟩ := List.mem_iff_getElem.1 hu
    have hdiv : j / z < es.length := by rw [Nat.div_lt_iff_lt_mul hzp]; omega
    have hmod := Nat.mod_lt j hzp
    have hjj : j / z * z + j % z = j := by rw [Nat.mul_comm]; exact Nat.div_add_mod j z
    have hrep := hnr (j / z) hdiv (j % z) hmod
    rw [hjj, List.getD_eq_getElem?_getD (l := news), List.getElem?_eq_getElem hj] at hrep
    have hm := getD_mem (d := .und) hdiv
    exact hrep.oneCell ((hes _ hm).2 _ (getD_mem (by rw [hzz _ hm]; exact hmod)))
  obtain ⟨v', w', hrun, ho', hgr, hnb, hnb0⟩ := run_append_e0 (P := C.P) (ty := o.type) w he hz hzl b0 a0 es.length c news hnl hcell h1 h63 hbytes
  have hrun' : (execOp a.eval o).run C.P w = .ok (.value v') w' := by
    unfold execOp
    simp only [h, resolve, invoke, builtin, Sem.run_bind, Sem.run_pure, Result.andThen_ok, List.map_toArray, List.map_cons, List.map_nil, hv1, hv2, hrun]
  obtain ⟨a2, c2, hsl, _⟩ := ho'.slice
  subst hsl
  have hrel := hr.newown (x0 := .row e z 0 es) (gl := [.slice a2 es.length c2]) (w' := w') hn0 ⟨hgr.os, hgr.tape, hgr.output, hgr.size, fun k hk _ => hgr.block k hk (by simp), run_drawn hrun⟩ (fun k hk => by
    have hk' : rowBlk (.slice a2 es.length c2) = some k := by simpa [ownBlk, updF] using hk
    rcases Nat.eq_zero_or_pos es.length with h0 | h0
    · have := hnb0 h0
      rw [this] at hk'
      cases b0 <;> cases hk'
    · exact hnb k (rowBlk_own hk') h0) (fun hl hxt => ⟨.slice a2 es.length c2, news, by simp [updF], by simp [updF], ho', hzz, fun i hi j hj => (hnr i hi j hj).later hl hxt⟩)
  refine wp_of_value hrun' (hK _ w' _ (hrel.dmono fun b hb => ?_) (.ow nx 0 a2 _ c2 (by simp [updF])))
  rcases hb with hb | rfl
  · exact .inl hb
  · exact .inr ⟨Nat.le_refl _, Nat.lt_succ_self _⟩
end
end Go.AL
/-
  The abstract logic: one evaluation of each operation, contracts of calls, guards. Conditions: none.
-/
namespace Go.AL
open Go.RowKit
def eqK (P : Program) (t : TypeId) : Option (List (Option IntKind)) := (zI P t).bind fun zs => if (zs.map kindOf).all Option.isSome then some (zs.map fun v => (kindOf v).getD none) else none
def gate (len z : Nat) (x : Option (Prop × Res)) : Option (Prop × Res) := if 2 ≤ len then (if 20 ≤ z then none else x) else x
theorem gate_some {len z : Nat} {x : Option (Prop × Res)} {y : Prop × Res} (h : gate len z x = some y) : x = some y := by
  unfold gate at h
  split at h
  · split at h
    · cases h
    · exact h
  · exact h
def abi (P : Program) (b : Builtin) (args : List Operand) (ts : List TypeId) (T : Nat → AV) (H : Nat → Option ABox) (nx : Nat) : Option (Prop × Res) :=
  match b with
  | .len => match args, ts with
    | [x], [t] => match elI P t with
      | some _ => match alen H (ev T x) with
        | some (m, rb) => some ((evO T x).cond = true, ⟨.sc (.int .i64 m), [], 0, rb⟩)
        | none => none
      | none => none
    | _, _ => none
  | .min => match args, ts with
    | [x, y], [_, _] => match ev T x, ev T y with
      | .sc (.int k m), .sc (.int _ n) => some ((evO T x).cond = true ∧ (evO T y).cond = true, ⟨.sc (.int k (if n < m then n else m)), [], 0, []⟩)
      | _, _ => none
    | _, _ => none
  | .max => match args, ts with
    | [x, y], [_, _] => match ev T x, ev T y with
      | .sc (.int k m), .sc (.int _ n) => some ((evO T x).cond = true ∧ (evO T y).cond = true, ⟨.sc (.int k (if m < n then n else m)), [], 0, []⟩)
      | _, _ => none
    | _, _ => none
  | .append => match args, ts with
    | [x, y], [t, t'] => match elI P t, ev T x with
      | some (e, z, by_, _), .ow b ver => match zI P e, asrc H (ev T y), H b with
        | some zs, some (es, rb), some .nl => some (t = t' ∧ ver = 0 ∧ (evO T x).cond = true ∧ (evO T y).cond = true ∧ zs.length = z ∧ (∀ v ∈ es, v.cells.length = z ∧ ∀ c ∈ v.cells, c.one = true) ∧ es.length ≤ 9223372036854775807 ∧ es.length * by_ ≤ 140737488355328,
            ⟨.ow b 1, [(b, .row e z 1 es)], 0, b :: rb⟩)
        | some zs, some (es, rb), some (.row e' z' ver' es0) => some (t = t' ∧ e' = e ∧ z' = z ∧ ver' = ver ∧ (evO T x).cond = true ∧ (evO T y).cond = true ∧ zs.length = z ∧ (∀ v ∈ es, v.cells.length = z ∧ ∀ c ∈ v.cells, c.one = true) ∧
            es0.length + es.length ≤ 9223372036854775807 ∧ (es0.length + es.length) * by_ ≤ 140737488355328, ⟨.ow b (ver + 1), [(b, .row e z (ver + 1) (es0 ++ es))], 0, b :: rb⟩)
        | _, _, _ => none
      | some (e, z, by_, _), .e0 => match zI P e, asrc H (ev T y) with
        | some zs, some (es, rb) => some (t = t' ∧ (evO T x).cond = true ∧ (evO T y).cond = true ∧ zs.length = z ∧ (∀ v ∈ es, v.cells.length = z ∧ ∀ c ∈ v.cells, c.one = true) ∧ es.length ≤ 9223372036854775807 ∧ es.length * by_ ≤ 140737488355328,
            ⟨.ow nx 0, [(nx, .row e z 0 es)], 1, rb⟩)
        | _, _ => none
      | _, _ => none
    | _, _ => none
  | _ => none
theorem abi_sound {C : Cx} {o : Oper} {T : Nat → AV} {H : Nat → Option ABox} {nx : Nat} {p : Prop} {r : Res} {c : Call} {b : Builtin} (hop : o.op = .call c) (hc : c.callee = .builtin b)
    (h : abi C.P b c.args.toList c.argTypes.toList T H nx = some (p, r)) (hp : p) : OpS C o T H nx r := by
  obtain ⟨callee, ⟨args⟩, ⟨ts⟩⟩ := c
  simp only at hc h
  subst hc
  unfold abi at h
  split at h
  · split at h
    · split at h
      · rename_i he
        split at h
        · rename_i m rb hl
          simp only [Option.some.injEq, Prod.mk.injEq] at h; obtain ⟨rfl, rfl⟩ := h
          exact opS_len hop hp hl he
        · cases h
      · cases h
    · cases h
  · split at h
    · split at h
      · rename_i hx hy
        simp only [Option.some.injEq, Prod.mk.injEq] at h; obtain ⟨rfl, rfl⟩ := h
        exact opS_min hop hp.1 hp.2 hx hy
      · cases h
    · cases h
  · split at h
    · split at h
      · rename_i hx hy
        simp only [Option.some.injEq, Prod.mk.injEq] at h; obtain ⟨rfl, rfl⟩ := h
        exact opS_max hop hp.1 hp.2 hx hy
      · cases h
    · cases h
  · split at h
    · split at h
      · rename_i he hx
        split at h
        · rename_i hz hy hb
          simp only [Option.some.injEq, Prod.mk.injEq] at h; obtain ⟨rfl, rfl⟩ := h
          obtain ⟨rfl, h1, h2, h3, h4, h5, h6, h7⟩ := hp
          exact opS_append (es0 := []) hop h2 h3 hx hb (.inl ⟨rfl, h1, rfl, rfl⟩) hy he hz h4 h5 (by simpa [maxLen] using h6) (by simpa using h7)
        · rename_i hz hy hb
          simp only [Option.some.injEq, Prod.mk.injEq] at h; obtain ⟨rfl, rfl⟩ := h
          obtain ⟨rfl, rfl, rfl, rfl, h2, h3, h4, h5, h6, h7⟩ := hp
          exact opS_append hop h2 h3 hx hb (.inr ⟨rfl, rfl⟩) hy he hz h4 h5 (by simpa [maxLen] using h6) h7
        · cases h
      · rename_i he hx
        split at h
        · rename_i hz hy
          simp only [Option.some.injEq, Prod.mk.injEq] at h; obtain ⟨rfl, rfl⟩ := h
          obtain ⟨rfl, h2, h3, h4, h5, h6, h7⟩ := hp
          exact opS_append_e0 hop h2 h3 hx hy he hz h4 h5 (by simpa [maxLen] using h6) h7
        · cases h
      · cases h
    · cases h
  · cases h
def aop (P : Program) (op : Op) (T : Nat → AV) (H : Nat → Option ABox) (nx : Nat) : Option (Prop × Res) :=
  match op with
  | .move x => some ((evO T x).cond = true, ⟨ev T x, [], 0, []⟩)
  | .assign x => match x with
    | .const (.slice none 0 0) => some (True, ⟨.ow nx 0, [(nx, .nl)], 1, []⟩)
    | x => some ((evO T x).cond = true, ⟨ev T x, [], 0, []⟩)
  | .pick c x y => match apick (evO T c) (evO T x) (evO T y) with
    | some (p, v) => some (p, ⟨v, [], 0, []⟩)
    | none => none
  | .alloc t => match zI P t with
    | some zs => some (True, ⟨.pt (nx + zcn zs) 0, zbx zs nx ++ [(nx + zcn zs, .var (.agg (zav zs nx)))], zcn zs + 1, []⟩)
    | none => none
  | .box _ x => some ((evO T x).cond = true ∧ (ev T x).ok = true, ⟨.pt nx 0, [(nx, .var (ev T x))], 1, []⟩)
  | .load t x => match tyI P t with
    | some (n, ag) => match ev T x with
      | .pt b off => match H b with
        | some (.var v) => some ((evO T x).cond = true ∧ (ag = false → n = 1) ∧ off + n ≤ v.cells.length, ⟨v.subv off n ag, [], 0, [b]⟩)
        | _ => none
      | .cp cs => some ((evO T x).cond = true ∧ (ag = false → n = 1) ∧ n ≤ cs.length, ⟨(AV.agg cs).subv 0 n ag, [], 0, []⟩)
      | .rp b ver z i off => match H b with
        | some (.row _ z' ver' es) => some ((evO T x).cond = true ∧ z' = z ∧ ver' = ver ∧ (ag = false → n = 1) ∧ i < es.length ∧ off + n ≤ z, ⟨(es.getD i .und).subv off n ag, [], 0, [b]⟩)
        | _ => none
      | _ => none
    | none => none
  | .store t x y => match tyI P t with
    | some (n, _) => match ev T x with
      | .pt b off => match H b with
        | some (.var v) => some ((evO T x).cond = true ∧ (evO T y).cond = true ∧ (ev T y).ok = true ∧ (∀ c ∈ (ev T y).cells, c.one = true) ∧ (ev T y).cells.length = n ∧ off + n ≤ v.cells.length,
            ⟨.und, [(b, .var (v.setv off (ev T y)))], 0, [b]⟩)
        | _ => none
      | .rp b ver z i off => match H b with
        | some (.row e z' ver' es) => some ((evO T x).cond = true ∧ (evO T y).cond = true ∧ z' = z ∧ ver' = ver ∧ (ev T y).ok = true ∧ (∀ c ∈ (ev T y).cells, c.one = true) ∧ (ev T y).cells.length = n ∧ i < es.length ∧ off + n ≤ z,
            ⟨.und, [(b, .row e z ver (es.set i ((es.getD i .und).setv off (ev T y))))], 0, [b]⟩)
        | _ => none
      | _ => none
    | none => none
  | .nilCheck x => some ((evO T x).cond = true ∧ (ev T x).ptr = true, ⟨ev T x, [], 0, []⟩)
  | .binOp op t x (.const (.slice none 0 0)) _ => match asrc H (ev T x), elI P t with
    | some (es, rb), some (_, z, _, _) => some ((op = .eql ∨ op = .neq) ∧ (evO T x).cond = true ∧ (∀ v ∈ es, v.cells.length = z), ⟨.nb (decide (0 < es.length)) (if op = .eql then false else true), [], 0, rb⟩)
    | _, _ => none
  | .binOp op t x y _ => match ev T x, ev T y with
    | .agg xs, .agg ys => match eqK P t with
      | some ks => some ((op = .eql ∨ op = .neq) ∧ (evO T x).cond = true ∧ (evO T y).cond = true ∧ EqT P t ks ∧ xs.map akind = ks.map some ∧ ys.map akind = ks.map some,
          ⟨.sc (.bool (if op = .eql then aeqs xs ys else !aeqs xs ys)), [], 0, []⟩)
      | none => none
    | vx, vy => match abin P t op vx vy with
      | some (p, v) => some ((evO T x).cond = true ∧ (evO T y).cond = true ∧ p, ⟨v, [], 0, []⟩)
      | none => none
  | .unOp op _ x => match aun op (ev T x) with
    | some v => some ((evO T x).cond = true, ⟨v, [], 0, []⟩)
    | none => none
  | .convert s t x => match ev T x with
    | .sc (.int _ n) => match ikI P s, ikI P t with
      | some _, some k' => some ((evO T x).cond = true, ⟨.sc (.int k' (k'.wrap n)), [], 0, []⟩)
      | _, _ => none
    | _ => none
  | .makeFunc fn first cap => match fn, first.toList with
    | .func f, [] => some (∀ x ∈ cap, (evO T x).cond = true, ⟨.clo f (cap.toList.map (ev T)), [], 0, []⟩)
    | _, _ => none
  | .fieldAddr s x f => match fldI P s f with
    | some (fo, _, _) => match ev T x with
      | .pt b off => some ((evO T x).cond = true, ⟨.pt b (off + fo), [], 0, []⟩)
      | .cp cs => some ((evO T x).cond = true, ⟨.cp (cs.drop fo), [], 0, []⟩)
      | .rp b ver z i off => some ((evO T x).cond = true, ⟨.rp b ver z i (off + fo), [], 0, []⟩)
      | _ => none
    | none => none
  | .field s x f => match fldI P s f with
    | some (fo, n, ag) => match ev T x with
      | .agg cs => some ((evO T x).cond = true ∧ fo + n ≤ cs.length, ⟨(AV.agg cs).subv fo n ag, [], 0, []⟩)
      | _ => none
    | none => none
  | .indexAddr t x y => match ev T y with
    | .sc (.int _ i) => match ev T x with
      | .sl es => match elI P t with
        | some (_, n, _, _) => some ((evO T x).cond = true ∧ (evO T y).cond = true ∧ 0 ≤ i ∧ i < es.length ∧ (es.getD i.toNat .und).cells.length = n, ⟨.cp (es.getD i.toNat .und).cells, [], 0, []⟩)
        | none => none
      | .ow b ver => match elI P t, H b with
        | some (_, n, _, _), some (.row _ z ver' es) => some ((evO T x).cond = true ∧ (evO T y).cond = true ∧ z = n ∧ ver' = ver ∧ 0 ≤ i ∧ i < es.length, ⟨.rp b ver n i.toNat 0, [], 0, [b]⟩)
        | _, _ => none
      | .pt b off => match arI P t with
        | some (m, n, _) => some ((evO T x).cond = true ∧ (evO T y).cond = true ∧ 0 ≤ i ∧ i < m, ⟨.pt b (off + i.toNat * n), [], 0, []⟩)
        | none => none
      | _ => none
    | _ => none
  | .index t x y => match ev T y with
    | .sc (.int _ i) => match ev T x with
      | .agg cs => match arI P t with
        | some (m, n, ag) => some ((evO T x).cond = true ∧ (evO T y).cond = true ∧ 0 ≤ i ∧ i < m ∧ i.toNat * n + n ≤ cs.length, ⟨(AV.agg cs).subv (i.toNat * n) n ag, [], 0, []⟩)
        | none => none
      | _ => none
    | _ => none
  | .build t ps => match plI P t with
    | some (pl, zs) => some ((∀ p ∈ ps.toList, (evO T p.2).cond = true) ∧ (∀ p ∈ ps.toList, p.1 < pl.length) ∧ afP pl (zav zs nx) (ps.toList.map fun p => (p.1, ev T p.2)),
        ⟨.agg (afV pl (zav zs nx) (ps.toList.map fun p => (p.1, ev T p.2))), zbx zs nx, zcn zs, []⟩)
    | none => none
  | .buildSlice t len ps => match elI P t with
    | some (e, z, _, ag) => match zI P e with
      | some zs => gate len z (some (zs.length = z ∧ len * z ≤ 16777216 ∧ (∀ p ∈ ps.toList, (evO T p.2).cond = true) ∧ afP ((List.range len).map fun i => (i * z, z)) ((List.replicate len (zs.map avCell)).flatten) (ps.toList.map fun p => (p.1, ev T p.2)) ∧
          ones (afV ((List.range len).map fun i => (i * z, z)) ((List.replicate len (zs.map avCell)).flatten) (ps.toList.map fun p => (p.1, ev T p.2))) = true ∧ (∀ p ∈ ps.toList, p.1 < len),
          if len = 0 then ⟨.ow nx 0, [(nx, .row e z 0 (chunks z ag len (afV ((List.range len).map fun i => (i * z, z)) ((List.replicate len (zs.map avCell)).flatten) (ps.toList.map fun p => (p.1, ev T p.2)))))], 1, []⟩
          else ⟨.sl (chunks z ag len (afV ((List.range len).map fun i => (i * z, z)) ((List.replicate len (zs.map avCell)).flatten) (ps.toList.map fun p => (p.1, ev T p.2)))), [], 1, []⟩))
      | none => none
    | none => none
  | .slice t x lo hi none => match ev T x, elI P t with
    | .sl es, some (_, z, _, _) => match bnd T lo 0, bnd T hi es.length with
      | some l, some m => some ((evO T x).cond = true ∧ bndc T lo ∧ bndc T hi ∧ 0 ≤ l ∧ l ≤ m ∧ m ≤ es.length ∧ (∀ v ∈ es, v.cells.length = z), ⟨.sl ((es.take m.toNat).drop l.toNat), [], 0, []⟩)
      | _, _ => none
    | _, _ => none
  | .slice t x none (some hi) (some mx) => match asrc H (ev T x), elI P t, ev T hi, ev T mx with
    | some (es, rb), some (_, z, _, _), .sc (.int _ l), .sc (.int _ m) => some ((evO T x).cond = true ∧ (evO T hi).cond = true ∧ (evO T mx).cond = true ∧ l = 0 ∧ m = 0 ∧ (∀ v ∈ es, v.cells.length = z), ⟨.e0, [], 0, rb⟩)
    | _, _, _, _ => none
  | .extract x i => match ev T x with
    | .tup vs => some ((evO T x).cond = true ∧ i < vs.length, ⟨vs.getD i .und, [], 0, []⟩)
    | _ => none
  | .call c => match c.callee with
    | .builtin b => abi P b c.args.toList c.argTypes.toList T H nx
    | _ => none
  | _ => none
theorem aop_sound {C : Cx} {o : Oper} {T : Nat → AV} {H : Nat → Option ABox} {nx : Nat} {p : Prop} {r : Res} (h : aop C.P o.op T H nx = some (p, r)) (hp : p) : OpS C o T H nx r := by
  generalize hop : o.op = op at h
  unfold aop at h
  split at h
  · simp only [Option.some.injEq, Prod.mk.injEq] at h; obtain ⟨rfl, rfl⟩ := h
    exact opS_move (.inl hop) hp
  · split at h
    · simp only [Option.some.injEq, Prod.mk.injEq] at h; obtain ⟨rfl, rfl⟩ := h
      exact opS_assign_nil hop
    · simp only [Option.some.injEq, Prod.mk.injEq] at h; obtain ⟨rfl, rfl⟩ := h
      exact opS_move (.inr hop) hp
  · split at h
    · rename_i p' v hq
      simp only [Option.some.injEq, Prod.mk.injEq] at h; obtain ⟨rfl, rfl⟩ := h
      exact opS_pick hop hq hp
    · cases h
  · split at h
    · rename_i zs hz
      simp only [Option.some.injEq, Prod.mk.injEq] at h; obtain ⟨rfl, rfl⟩ := h
      exact opS_alloc hop hz
    · cases h
  · simp only [Option.some.injEq, Prod.mk.injEq] at h; obtain ⟨rfl, rfl⟩ := h
    exact opS_box hop hp.1 hp.2
  · split at h
    · rename_i n ag ht
      split at h
      · rename_i b off hx
        split at h
        · rename_i v hb
          simp only [Option.some.injEq, Prod.mk.injEq] at h; obtain ⟨rfl, rfl⟩ := h
          exact opS_load_pt hop hp.1 hx hb ht hp.2.1 hp.2.2
        · cases h
      · rename_i cs hx
        simp only [Option.some.injEq, Prod.mk.injEq] at h; obtain ⟨rfl, rfl⟩ := h
        exact opS_load_cp hop hp.1 hx ht hp.2.1 hp.2.2
      · rename_i b ver z i off hx
        split at h
        · rename_i hb
          simp only [Option.some.injEq, Prod.mk.injEq] at h; obtain ⟨rfl, rfl⟩ := h
          obtain ⟨h1, rfl, rfl, h2, h3, h4⟩ := hp
          exact opS_load_rp hop h1 hx hb ht h2 h3 h4
        · cases h
      · cases h
    · cases h
  · split at h
    · rename_i n ag ht
      split at h
      · rename_i b off hx
        split at h
        · rename_i v hb
          simp only [Option.some.injEq, Prod.mk.injEq] at h; obtain ⟨rfl, rfl⟩ := h
          obtain ⟨h1, h2, h3, h4, h5, h6⟩ := hp
          exact opS_store hop h1 h2 hx hb ht h3 h4 h5 h6
        · cases h
      · rename_i b ver z i off hx
        split at h
        · rename_i hb
          simp only [Option.some.injEq, Prod.mk.injEq] at h; obtain ⟨rfl, rfl⟩ := h
          obtain ⟨h1, h2, rfl, rfl, h3, h4, h5, h6, h7⟩ := hp
          exact opS_store_rp hop h1 h2 hx hb ht h3 h4 h5 h6 h7
        · cases h
      · cases h
    · cases h
  · simp only [Option.some.injEq, Prod.mk.injEq] at h; obtain ⟨rfl, rfl⟩ := h
    exact opS_nilCheck hop hp.1 hp.2
  · split at h
    · rename_i es rb _ z _ _ hx he
      simp only [Option.some.injEq, Prod.mk.injEq] at h; obtain ⟨rfl, rfl⟩ := h
      exact opS_nilcmp hop hp.1 hp.2.1 hx he hp.2.2
    · cases h
  · split at h
    · rename_i xs ys hx hy
      split at h
      · rename_i ks _
        simp only [Option.some.injEq, Prod.mk.injEq] at h; obtain ⟨rfl, rfl⟩ := h
        obtain ⟨h1, h2, h3, h4, h5, h6⟩ := hp
        exact opS_eqs hop h1 h2 h3 hx hy h4 h5 h6
      · cases h
    · split at h
      · rename_i p' v hb
        simp only [Option.some.injEq, Prod.mk.injEq] at h; obtain ⟨rfl, rfl⟩ := h
        obtain ⟨h1, h2, h3⟩ := hp
        exact opS_bin hop h1 h2 hb h3
      · cases h
  · split at h
    · rename_i v hv
      simp only [Option.some.injEq, Prod.mk.injEq] at h; obtain ⟨rfl, rfl⟩ := h
      exact opS_un hop hp hv
    · cases h
  · split at h
    · rename_i k n hx
      split at h
      · rename_i k1 k' hs ht
        simp only [Option.some.injEq, Prod.mk.injEq] at h; obtain ⟨rfl, rfl⟩ := h
        exact opS_convert hop hp hx (by rw [hs]; simp) ht
      · cases h
    · cases h
  · rename_i fn first cap
    split at h
    · rename_i f hf
      simp only [Option.some.injEq, Prod.mk.injEq] at h; obtain ⟨rfl, rfl⟩ := h
      obtain ⟨first⟩ := first
      simp only at hf
      subst hf
      exact opS_makeFunc hop hp
    · cases h
  · split at h
    · rename_i fo n ag hf
      split at h
      · rename_i b off hx
        simp only [Option.some.injEq, Prod.mk.injEq] at h; obtain ⟨rfl, rfl⟩ := h
        exact opS_fieldAddr_pt hop hp hx hf
      · rename_i cs hx
        simp only [Option.some.injEq, Prod.mk.injEq] at h; obtain ⟨rfl, rfl⟩ := h
        exact opS_fieldAddr_cp hop hp hx hf
      · rename_i b ver z i off hx
        simp only [Option.some.injEq, Prod.mk.injEq] at h; obtain ⟨rfl, rfl⟩ := h
        exact opS_fieldAddr_rp hop hp hx hf
      · cases h
    · cases h
  · split at h
    · rename_i fo n ag hf
      split at h
      · rename_i cs hx
        simp only [Option.some.injEq, Prod.mk.injEq] at h; obtain ⟨rfl, rfl⟩ := h
        exact opS_field hop hp.1 hx hf hp.2
      · cases h
    · cases h
  · split at h
    · rename_i k i hy
      split at h
      · rename_i es hx
        split at h
        · rename_i e n by_ ag he
          simp only [Option.some.injEq, Prod.mk.injEq] at h; obtain ⟨rfl, rfl⟩ := h
          obtain ⟨h1, h2, h3, h4, h5⟩ := hp
          exact opS_indexAddr hop h1 h2 hx hy he h3 h4 h5
        · cases h
      · rename_i b ver hx
        split at h
        · rename_i he hb
          simp only [Option.some.injEq, Prod.mk.injEq] at h; obtain ⟨rfl, rfl⟩ := h
          obtain ⟨h1, h2, rfl, rfl, h3, h4⟩ := hp
          exact opS_indexAddr_ow hop h1 h2 hx hb hy he h3 h4
        · cases h
      · rename_i b off hx
        split at h
        · rename_i m n ag he
          simp only [Option.some.injEq, Prod.mk.injEq] at h; obtain ⟨rfl, rfl⟩ := h
          obtain ⟨h1, h2, h3, h4⟩ := hp
          exact opS_indexAddr_arr hop h1 h2 hx hy he h3 h4
        · cases h
      · cases h
    · cases h
  · split at h
    · rename_i k i hy
      split at h
      · rename_i cs hx
        split at h
        · rename_i m n ag he
          simp only [Option.some.injEq, Prod.mk.injEq] at h; obtain ⟨rfl, rfl⟩ := h
          obtain ⟨h1, h2, h3, h4, h5⟩ := hp
          exact opS_index hop h1 h2 hx hy he h3 h4 h5
        · cases h
      · cases h
    · cases h
  · split at h
    · rename_i pl zs hpl
      simp only [Option.some.injEq, Prod.mk.injEq] at h; obtain ⟨rfl, rfl⟩ := h
      exact opS_build hop hpl hp.1 hp.2.1 hp.2.2
    · cases h
  · split at h
    · rename_i e z _ ag he
      split at h
      · rename_i zs hz
        replace h := gate_some h
        simp only [Option.some.injEq, Prod.mk.injEq] at h; obtain ⟨rfl, rfl⟩ := h
        obtain ⟨h1, h2, h3, h4, h5, h6⟩ := hp
        have hop' := opS_buildSlice (H := H) (nx := nx) hop he hz h1 h2 h3 h4 h5 h6
        split
        · exact hop'
        · exact hop'.freeze
      · cases h
    · cases h
  · split at h
    · rename_i es _ z _ _ hx he
      split at h
      · rename_i l m hl hm
        simp only [Option.some.injEq, Prod.mk.injEq] at h; obtain ⟨rfl, rfl⟩ := h
        obtain ⟨h1, h2, h3, h4, h5, h6, h7⟩ := hp
        exact opS_slice hop h1 hx he hl hm h2 h3 h4 h5 h6 h7
      · cases h
    · cases h
  · split at h
    · rename_i hx he hh hm
      simp only [Option.some.injEq, Prod.mk.injEq] at h; obtain ⟨rfl, rfl⟩ := h
      obtain ⟨h1, h2, h3, rfl, rfl, h4⟩ := hp
      exact opS_slice0 hop h1 hx he hh hm h2 h3 h4
    · cases h
  · split at h
    · rename_i vs hx
      simp only [Option.some.injEq, Prod.mk.injEq] at h; obtain ⟨rfl, rfl⟩ := h
      exact opS_extract hop hp.1 hx hp.2
    · cases h
  · split at h
    · rename_i b hc
      exact abi_sound hop hc h hp
    · cases h
  · cases h
end Go.AL
/-
  The abstract logic: contracts of calls, guards, and a region in the order of its text. Conditions: none.
-/
namespace Go.AL
open Go.RowKit
def Reps (w : World) (O : Nat → Prop) (g : Nat → List Value) (as : List AV) (vs : Array Value) : Prop :=
  vs.size = as.length ∧ ∀ j, j < as.length → Rep w O g (as.getD j .und) (vs.getD j undef)
def entB (P : Program) (f : Nat) : Bool := match P.funcs[f]? with
  | some fn => !(fn.name == "runtime.NumGoroutine") && fn.body.isSome
  | none => false
theorem run_callFunc {P : Program} {f : Nat} (h : entB P f = true) (args : Array Value) (w : World) : (callFunc f args).run P w = .ok (.enter f args) w := by
  unfold entB at h
  split at h
  · rename_i fn hf
    simp only [Bool.and_eq_true, Bool.not_eq_true'] at h
    have hb : fn.body.isNone = false := by cases hfb : fn.body <;> simp_all
    unfold callFunc
    simp only [program, Sem.run_bind, Sem.run, Result.andThen_ok, hf, h.1, hb, Bool.false_eq_true, if_false, Sem.run_pure]
  · cases h
def PCall (P : Program) (f : Nat) (as : List AV) (r : AV) : Prop := entB P f = true ∧
  ∀ (w : World) (O : Nat → Prop) (g : Nat → List Value) (vs : Array Value), (∀ k, O k → k < w.heap.size) → Reps w O g as vs →
    Calls P f vs w fun e w' => ∃ v, e = .returned v ∧ Rep w' O g r v ∧ Kept w (fun _ => False) w'
def CallS (P : Program) (H : Nat → Option ABox) (nx : Nat) (f : Nat) (as : List AV) (r : Res) : Prop := entB P f = true ∧
  ∀ (C : Cx) T' H' D g a w, C.P = P → Rel C T' H' D g a w → (∀ b ∈ r.rb, H' b = H b) → (∀ i, i < r.nw → ¬ D (nx + i)) → ∀ vs, Reps w (Own C.O g H') g as vs →
    Calls P f vs w fun e w' => ∃ v g', e = .returned v ∧ Rel C T' (updL H' r.wb) (fun c => D c ∨ (nx ≤ c ∧ c < nx + r.nw)) g' a w' ∧ Rep w' (Own C.O g' (updL H' r.wb)) g' r.v v
theorem CallS.of_pure {P : Program} {H : Nat → Option ABox} {nx f : Nat} {as : List AV} {r : AV} (h : PCall P f as r) : CallS P H nx f as ⟨r, [], 0, []⟩ := by
  refine ⟨h.1, fun C T' H' D g a w hP hr _ _ vs hvs => ?_⟩
  have hlt : ∀ k, Own C.O g H' k → k < w.heap.size := by
    rintro k (hk | ⟨c, x, hx, hk⟩)
    · exact Nat.lt_of_lt_of_le (hr.oo k hk) hr.kept.size
    · exact (hr.own c x k hx hk).2.2
  refine (h.2 w _ g vs hlt hvs).mono ?_
  rintro e w' ⟨v, rfl, hv, hk⟩
  exact ⟨v, g, rfl, (hr.grow hk).dmono fun b hb => .inl hb, hv⟩
def cst (P : Program) (H : Nat → Option ABox) (nx : Nat) (f : AV) (as : List AV) (K : Res → Prop) : Prop :=
  match f with
  | .clo fid cap => ∃ r, CallS P H nx fid (as ++ cap) r ∧ K r
  | _ => False
theorem cst_pure {P : Program} {H : Nat → Option ABox} {nx fid : Nat} {as : List AV} {r : AV} {K : Res → Prop} (h : PCall P fid as r) (hk : K ⟨r, [], 0, []⟩) : cst P H nx (.clo fid []) as K :=
  ⟨_, .of_pure (by rw [List.append_nil]; exact h), hk⟩
def ares (x : Option (Prop × Res)) (K : Res → Prop) : Prop := match x with
  | some (p, r) => p ∧ K r
  | none => False
theorem ares_some (p : Prop) (v : AV) (wb : List (Nat × ABox)) (nw : Nat) (rb : List Nat) (K : Res → Prop) : ares (some (p, ⟨v, wb, nw, rb⟩)) K = (p ∧ K ⟨v, wb, nw, rb⟩) := rfl
theorem ares_none (K : Res → Prop) : ares none K = False := rfl
def aext (P : Program) (op : Op) (T : Nat → AV) (H : Nat → Option ABox) (nx : Nat) (K : Res → Prop) : Prop := ∃ r, K r ∧ ∀ (C : Cx) (o : Oper), C.P = P → o.op = op → OpS C o T H nx r
def aresX (P : Program) (op : Op) (T : Nat → AV) (H : Nat → Option ABox) (nx : Nat) (x : Option (Prop × Res)) (K : Res → Prop) : Prop := match x with
  | some (p, r) => p ∧ K r
  | none => aext P op T H nx K
theorem aresX_some (P : Program) (op : Op) (T : Nat → AV) (H : Nat → Option ABox) (nx : Nat) (p : Prop) (v : AV) (wb : List (Nat × ABox)) (nw : Nat) (rb : List Nat) (K : Res → Prop) : aresX P op T H nx (some (p, ⟨v, wb, nw, rb⟩)) K = (p ∧ K ⟨v, wb, nw, rb⟩) := rfl
theorem aresX_none (P : Program) (op : Op) (T : Nat → AV) (H : Nat → Option ABox) (nx : Nat) (K : Res → Prop) : aresX P op T H nx none K = aext P op T H nx K := rfl
def ast (P : Program) (op : Op) (T : Nat → AV) (H : Nat → Option ABox) (nx : Nat) (K : Res → Prop) : Prop :=
  match op with
  | .call c => match c.callee with
    | .value f => (∀ x ∈ c.args.toList, (evO T x).cond = true) ∧ (evO T f).cond = true ∧ cst P H nx (ev T f) (c.args.toList.map (ev T)) K
    | .builtin b => aresX P (.call c) T H nx (abi P b c.args.toList c.argTypes.toList T H nx) K
    | _ => False
  | op => aresX P op T H nx (aop P op T H nx) K
theorem aresX_spec {P : Program} {op : Op} {T : Nat → AV} {H : Nat → Option ABox} {nx : Nat} {x : Option (Prop × Res)} {K : Res → Prop} (h : aresX P op T H nx x K) :
    (∃ p r, x = some (p, r) ∧ p ∧ K r) ∨ aext P op T H nx K := by
  unfold aresX at h
  split at h
  · exact .inl ⟨_, _, rfl, h⟩
  · exact .inr h
theorem ast_sound {C : Cx} {o : Oper} {T : Nat → AV} {H : Nat → Option ABox} {nx : Nat} {K : Res → Prop} (h : ast C.P o.op T H nx K) : ∃ r, K r ∧ OpS C o T H nx r := by
  have hgen : aresX C.P o.op T H nx (aop C.P o.op T H nx) K → ∃ r, K r ∧ OpS C o T H nx r := by
    intro h
    rcases aresX_spec h with ⟨p, r, h1, h2, h3⟩ | ⟨r, h1, h2⟩
    · exact ⟨r, h3, aop_sound h1 h2⟩
    · exact ⟨r, h1, h2 C o rfl rfl⟩
  generalize hop : o.op = op at h hgen
  unfold ast at h
  split at h
  · rename_i c
    split at h
    · rename_i f hf
      obtain ⟨h1, h2, h3⟩ := h
      unfold cst at h3
      split at h3
      · rename_i fid cap hev
        obtain ⟨r, hcs, hk⟩ := h3
        refine ⟨r, hk, fun T' H' D g a w hr hT hH hn K' Q hK => ?_⟩
        have hops : o.op.operands = #[f] ++ c.args := by rw [hop]; simp [Op.operands, Call.operands, hf]
        have rf := one_rep hr (hT f (by rw [hops]; simp)) h2
        rw [hev] at rf
        obtain ⟨cvs, hfv, hcl, hcr⟩ := rf.clo_inv
        have hargs : Reps w (Own C.O g H') g (c.args.toList.map (ev T) ++ cap) (c.args.map a.eval ++ cvs) := by
          refine ⟨by simp [hcl], fun j hj => ?_⟩
          by_cases hlt : j < c.args.size
          · have e1 : (c.args.toList.map (ev T) ++ cap).getD j .und = ev T c.args[j] := by
              rw [List.getD_eq_getElem?_getD, List.getElem?_append_left (by simpa using hlt), List.getElem?_map]; simp [hlt]
            have e2 : (c.args.map a.eval ++ cvs).getD j undef = a.eval c.args[j] := by
              rw [Array.getD_eq_getD_getElem?, Array.getElem?_append_left (by simpa using hlt)]; simp [hlt]
            rw [e1, e2]
            exact one_rep hr (hT _ (by rw [hops]; simp)) (h1 _ (by simp))
          · have e1 : (c.args.toList.map (ev T) ++ cap).getD j .und = cap.getD (j - c.args.size) .und := by
              rw [List.getD_eq_getElem?_getD, List.getElem?_append_right (by simpa using hlt), List.getD_eq_getElem?_getD]; simp
            have e2 : (c.args.map a.eval ++ cvs).getD j undef = cvs.getD (j - c.args.size) undef := by
              rw [Array.getD_eq_getD_getElem?, Array.getElem?_append_right (by simpa using hlt), Array.getD_eq_getD_getElem?]; simp
            rw [e1, e2]
            exact hcr _ (by simp at hj; omega)
        have hcalls := hcs.2 C T' H' D g a w rfl hr hH hn _ hargs
        unfold Oper.wp execOp
        simp only [hop, resolve, hf, Sem.run_bind, Sem.run_pure, Result.andThen_ok, hfv, Deferred.ofValue, invoke, Array.empty_append, run_callFunc hcs.1]
        refine hcalls.mono ?_
        rintro e w' ⟨v, g', rfl, hrel, hrep⟩
        exact hK v w' g' hrel hrep
      · exact h3.elim
    · rename_i b hb
      rcases aresX_spec h with ⟨p, r, h1, h2, h3⟩ | ⟨r, h1, h2⟩
      · exact ⟨r, h3, abi_sound hop hb h1 h2⟩
      · exact ⟨r, h1, h2 C o rfl hop⟩
    · exact h.elim
  · exact hgen h
def gval (ds : List (Option Nat)) (T : Nat → AV) (j : Nat) (want : Bool) : Option Bool :=
  match ds[j]? with
  | some (some d) => match T d with
    | .sc (.bool x) => some (x == want)
    | .gd y (.sc (.bool x)) => some (y && (x == want))
    | _ => none
  | _ => none
def KEq (v : AV) (rb : List Nat) (r : Res) : Prop := r = ⟨v, [], 0, rb⟩
def effG (c : Bool) (A B : Prop) : Prop := (c = true ∧ A) ∨ (c = false ∧ B)
theorem effG_true (A B : Prop) : effG true A B = A := by simp [effG]
theorem effG_false (A B : Prop) : effG false A B = B := by simp [effG]
@[congr] theorem effG_cg {c c' : Bool} {A B : Prop} (h : c = c') : effG c A B = effG c' A B := by subst h; rfl
def aresGX (c : Bool) (P : Program) (op : Op) (T : Nat → AV) (H : Nat → Option ABox) (nx : Nat) (x : Option (Prop × Res)) (K : Res → Prop) : Prop := match x with
  | some (p, r) => if r.wb.isEmpty = true ∧ r.nw = 0 then (c = true → p) ∧ K ⟨.gd c r.v, [], 0, r.rb⟩ else effG c (p ∧ K r) (K ⟨.gd c .und, [], 0, []⟩)
  | none => (c = false ∧ K ⟨.gd c .und, [], 0, []⟩) ∨ (∃ v rb, (c = true → aext P op T H nx (KEq v rb)) ∧ K ⟨.gd c v, [], 0, rb⟩) ∨ (c = true ∧ aext P op T H nx K)
theorem aresGX_some (c : Bool) (P : Program) (op : Op) (T : Nat → AV) (H : Nat → Option ABox) (nx : Nat) (p : Prop) (v : AV) (rb : List Nat) (K : Res → Prop) : aresGX c P op T H nx (some (p, ⟨v, [], 0, rb⟩)) K = ((c = true → p) ∧ K ⟨.gd c v, [], 0, rb⟩) := by simp [aresGX]
theorem aresGX_eff (c : Bool) (P : Program) (op : Op) (T : Nat → AV) (H : Nat → Option ABox) (nx : Nat) (p : Prop) (v : AV) (x : Nat × ABox) (wb : List (Nat × ABox)) (nw : Nat) (rb : List Nat) (K : Res → Prop) : aresGX c P op T H nx (some (p, ⟨v, x :: wb, nw, rb⟩)) K = effG c (p ∧ K ⟨v, x :: wb, nw, rb⟩) (K ⟨.gd c .und, [], 0, []⟩) := by simp [aresGX]
theorem aresGX_none (c : Bool) (P : Program) (op : Op) (T : Nat → AV) (H : Nat → Option ABox) (nx : Nat) (K : Res → Prop) : aresGX c P op T H nx none K = ((c = false ∧ K ⟨.gd c .und, [], 0, []⟩) ∨ (∃ v rb, (c = true → aext P op T H nx (KEq v rb)) ∧ K ⟨.gd c v, [], 0, rb⟩) ∨ (c = true ∧ aext P op T H nx K)) := rfl
def gcst (c : Bool) (P : Program) (H : Nat → Option ABox) (nx : Nat) (f : AV) (as : List AV) (K : Res → Prop) : Prop :=
  (c = true ∧ cst P H nx f as K) ∨ (c = false ∧ K ⟨.gd c .und, [], 0, []⟩) ∨ ∃ v rb, (c = true → cst P H nx f as (KEq v rb)) ∧ K ⟨.gd c v, [], 0, rb⟩
theorem gcst_true {P : Program} {H : Nat → Option ABox} {nx : Nat} {f : AV} {as : List AV} {K : Res → Prop} (h : cst P H nx f as K) : gcst true P H nx f as K := .inl ⟨rfl, h⟩
theorem gcst_pure {c : Bool} {P : Program} {H : Nat → Option ABox} {nx fid : Nat} {as : List AV} {r : AV} {K : Res → Prop} (h : c = true → PCall P fid as r) (hk : K ⟨.gd c r, [], 0, []⟩) : gcst c P H nx (.clo fid []) as K :=
  .inr (.inr ⟨r, [], fun hc => cst_pure (h hc) rfl, hk⟩)
def gst (c : Bool) (P : Program) (op : Op) (T : Nat → AV) (H : Nat → Option ABox) (nx : Nat) (K : Res → Prop) : Prop :=
  match op with
  | .call cl => match cl.callee with
    | .value f => (c = true → (∀ x ∈ cl.args.toList, (evO T x).cond = true) ∧ (evO T f).cond = true) ∧ gcst c P H nx (ev T f) (cl.args.toList.map (ev T)) K
    | .builtin b => aresGX c P (.call cl) T H nx (abi P b cl.args.toList cl.argTypes.toList T H nx) K
    | _ => False
  | op => aresGX c P op T H nx (aop P op T H nx) K
theorem gst_spec {c : Bool} {P : Program} {op : Op} {T : Nat → AV} {H : Nat → Option ABox} {nx : Nat} {K : Res → Prop} (h : gst c P op T H nx K) :
    (c = true ∧ ast P op T H nx K) ∨ (c = false ∧ K ⟨.gd c .und, [], 0, []⟩) ∨ ∃ v rb, (c = true → ast P op T H nx (KEq v rb)) ∧ K ⟨.gd c v, [], 0, rb⟩ := by
  have hres : ∀ (op : Op) (x : Option (Prop × Res)), aresGX c P op T H nx x K → (c = true ∧ aresX P op T H nx x K) ∨ (c = false ∧ K ⟨.gd c .und, [], 0, []⟩) ∨ ∃ v rb, (c = true → aresX P op T H nx x (KEq v rb)) ∧ K ⟨.gd c v, [], 0, rb⟩ := by
    intro op x h
    unfold aresGX at h
    split at h
    · rename_i p r
      split at h
      · rename_i hr
        obtain ⟨v, wb, nw, rb⟩ := r
        obtain ⟨h1, h2⟩ := hr
        simp only [List.isEmpty_iff] at h1 h2
        subst h1; subst h2
        exact .inr (.inr ⟨v, rb, fun hc => ⟨h.1 hc, rfl⟩, h.2⟩)
      · rcases h with ⟨h1, h2⟩ | ⟨h1, h2⟩
        · exact .inl ⟨h1, h2⟩
        · exact .inr (.inl ⟨h1, h2⟩)
    · rcases h with h | ⟨v, rb, h1, h2⟩ | h
      · exact .inr (.inl h)
      · exact .inr (.inr ⟨v, rb, h1, h2⟩)
      · exact .inl h
  unfold gst at h
  unfold ast
  split at h
  · split at h
    · obtain ⟨h1, h2⟩ := h
      rcases h2 with ⟨hc, h2⟩ | h2 | ⟨v, rb, h2, h3⟩
      · exact .inl ⟨hc, (h1 hc).1, (h1 hc).2, h2⟩
      · exact .inr (.inl h2)
      · exact .inr (.inr ⟨v, rb, fun hc => ⟨(h1 hc).1, (h1 hc).2, h2 hc⟩, h3⟩)
    · exact hres _ _ h
    · exact h.elim
  · rename_i hne
    rcases hres _ _ h with h | h | ⟨v, rb, h1, h2⟩
    · exact .inl h
    · exact .inr (.inl h)
    · exact .inr (.inr ⟨v, rb, h1, h2⟩)
def agd (P : Program) (ds : List (Option Nat)) (o : Oper) (T : Nat → AV) (H : Nat → Option ABox) (nx : Nat) (K : Res → Prop) : Prop :=
  match o.guard with
  | none => ast P o.op T H nx K
  | some (j, want) => match gval ds T j want with
    | some c => gst c P o.op T H nx K
    | none => False
def GOpS (C : Cx) (ds : List (Option Nat)) (o : Oper) (T : Nat → AV) (H : Nat → Option ABox) (nx : Nat) (r : Res) : Prop :=
  ∀ T' H' D g a w, Rel C T' H' D g a w → (∀ x ∈ o.op.operands, evO T' x = evO T x) → (∀ j want d, o.guard = some (j, want) → ds[j]? = some (some d) → T' d = T d) →
    (∀ b ∈ r.rb, H' b = H b) → (∀ i, i < r.nw → ¬ D (nx + i)) → ∀ (ops : Array Oper), ops.toList.map (·.dst) = ds →
  ∀ (K : Act → World → Prop) (Q : Exit → Act → World → Prop),
    (∀ v w' g', Rel C T' (updL H' r.wb) (fun c => D c ∨ (nx ≤ c ∧ c < nx + r.nw)) g' a w' → Rep w' (Own C.O g' (updL H' r.wb)) g' r.v v → K (a.put o.dst v) w') →
    if Region.wanted o (yielded ops a.tmps) = true then o.wp C.P a w K Q else K (a.put o.dst undef) w
theorem agd_sound {C : Cx} {ds : List (Option Nat)} {o : Oper} {T : Nat → AV} {H : Nat → Option ABox} {nx : Nat} {K : Res → Prop} (h : agd C.P ds o T H nx K) : ∃ r, K r ∧ GOpS C ds o T H nx r := by
  unfold agd at h
  split at h
  · rename_i hg
    obtain ⟨r, hk, hs⟩ := ast_sound h
    refine ⟨r, hk, fun T' H' D g a w hr hT _ hH hn ops _ K' Q hK => ?_⟩
    rw [if_pos (by simp [Region.wanted, hg])]
    exact hs T' H' D g a w hr hT hH hn K' Q hK
  · rename_i j want hg
    split at h
    · rename_i c hc
      have key : ∀ T' H' D g a w, Rel C T' H' D g a w → (∀ j want d, o.guard = some (j, want) → ds[j]? = some (some d) → T' d = T d) → ∀ ops : Array Oper, ops.toList.map (·.dst) = ds →
          Region.wanted o (yielded ops a.tmps) = c := by
        intro T' H' D g a w hr hT ops hds
        unfold gval at hc
        split at hc
        · rename_i d hd
          have hd' : (ops[j]?).bind (·.dst) = some d := by
            rw [← hds, List.getElem?_map] at hd
            cases hj : ops.toList[j]? with
            | none => rw [hj] at hd; simp at hd
            | some oj =>
              rw [hj] at hd
              simp only [Option.map_some, Option.some.injEq] at hd
              rw [← Array.getElem?_toList, hj]; exact hd
          have e := hT j want d hg (by assumption)
          have hrep := hr.tm d
          rw [e] at hrep
          have hy : ∀ b : Bool, a.tmps.getD d undef = .bool b → yielded ops a.tmps j = some b := by
            intro b hb
            unfold yielded
            rw [hd']
            simp only [Option.bind_some]
            rw [Array.getD_eq_getD_getElem?] at hb
            cases ht : a.tmps[d]? with
            | none => rw [ht] at hb; simp [undef] at hb
            | some u => rw [ht] at hb; simp only [Option.getD_some] at hb; rw [hb]
          split at hc
          · rename_i x hx
            rw [hx] at hrep
            have := hy x hrep.sc_inv
            simp only [Option.some.injEq] at hc
            subst hc
            simp only [Region.wanted, hg, this]
            cases x <;> cases want <;> rfl
          · rename_i y x hx
            rw [hx] at hrep
            simp only [Option.some.injEq] at hc
            subst hc
            cases hrep with
            | gd _ _ _ h1 h2 =>
              cases y with
              | true =>
                have := hy x (h1 rfl).sc_inv
                simp only [Region.wanted, hg, this, Bool.true_and]
                cases x <;> cases want <;> rfl
              | false =>
                have hu := h2 rfl
                have : yielded ops a.tmps j = none := by
                  unfold yielded
                  rw [hd']
                  simp only [Option.bind_some]
                  rw [Array.getD_eq_getD_getElem?] at hu
                  cases ht : a.tmps[d]? with
                  | none => rfl
                  | some u => rw [ht] at hu; simp only [Option.getD_some] at hu; rw [hu]; rfl
                simp only [Region.wanted, hg, this, Bool.false_and]
                rfl
          · cases hc
        · cases hc
      rcases gst_spec h with ⟨h0, h⟩ | ⟨h0, h⟩ | ⟨v, rb, h, hk⟩
      · obtain ⟨r, hk, hs⟩ := ast_sound h
        refine ⟨r, hk, fun T' H' D g a w hr hT hG hH hn ops hds K' Q hK => ?_⟩
        rw [if_pos ((key T' H' D g a w hr hG ops hds).trans h0)]
        exact hs T' H' D g a w hr hT hH hn K' Q hK
      · refine ⟨_, h, fun T' H' D g a w hr hT hG hH hn ops hds K' Q hK => ?_⟩
        rw [if_neg (by rw [key T' H' D g a w hr hG ops hds, h0]; simp)]
        exact hK undef w g (hr.dmono fun b hb => .inl hb) (.gd c _ _ (fun hf => by rw [h0] at hf; cases hf) (fun _ => rfl))
      · refine ⟨_, hk, fun T' H' D g a w hr hT hG hH hn ops hds K' Q hK => ?_⟩
        rw [key T' H' D g a w hr hG ops hds]
        by_cases hc1 : c = true
        · rw [if_pos hc1]
          obtain ⟨r, rfl, hs⟩ := ast_sound (h hc1)
          exact hs T' H' D g a w hr hT hH hn K' Q fun v' w' g' h1 h2 => hK v' w' g' h1 (.gd c v v' (fun _ => h2) (fun hf => by rw [hc1] at hf; cases hf))
        · rw [if_neg hc1]
          exact hK undef w g (hr.dmono fun b hb => .inl hb) (.gd c v undef (fun hf => absurd hf hc1) (fun _ => rfl))
    · exact h.elim
end Go.AL
