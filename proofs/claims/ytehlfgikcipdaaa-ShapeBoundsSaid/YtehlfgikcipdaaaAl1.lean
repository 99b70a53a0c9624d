/-
  An abstract logic for walks: abstract values, and what it is that a model value stands for one. Conditions: none, over any program.
-/
import Derived.WalkKit
import Derived.WalkSpells
import Derived.WalkLawsBesides
set_option linter.all false
namespace Go.AL
open Go.RowKit

/-- abstract values: a scalar, an aggregate of cells, results, a slice of read-only content, a pointer to such, a pointer into a box of one's own, a slice that one owns, a closure, a value under a condition, anything. -/
inductive AV where
  | sc (v : Value)
  | agg (cs : List AV)
  | tup (vs : List AV)
  | sl (es : List AV)
  | cp (cs : List AV)
  | pt (b off : Nat)
  | ow (b ver : Nat)
  | rp (b ver z i off : Nat)
  | e0
  | mp (b : Nat)
  | clo (f : Nat) (cap : List AV)
  | gd (x : Bool) (v : AV)
  | nb (known val : Bool)
  | und

abbrev AV.i (n : Int) : AV := .sc (.int .i64 n)
abbrev AV.b (x : Bool) : AV := .sc (.bool x)

def AV.cells : AV → List AV
  | .agg cs => cs
  | v => [v]

inductive Rep (w : World) (O : Nat → Prop) (g : Nat → List Value) : AV → Value → Prop
  | sc (v : Value) : Rep w O g (.sc v) v
  | agg (cs : List AV) (vs : Array Value) (hl : vs.size = cs.length)
      (h : ∀ j, j < cs.length → Rep w O g (cs.getD j .und) (vs.getD j undef)) : Rep w O g (.agg cs) (.agg vs)
  | tup (cs : List AV) (vs : Array Value) (hl : vs.size = cs.length)
      (h : ∀ j, j < cs.length → Rep w O g (cs.getD j .und) (vs.getD j undef)) : Rep w O g (.tup cs) (.tuple vs)
  | sl0 (a : Option Addr) (cap : Nat) : Rep w O g (.sl []) (.slice a 0 cap)
  | sl1 (z : Nat) (es : List AV) (blk off cap : Nat) (f : Nat → Value) (hc : es.length ≤ cap)
      (hz : ∀ e ∈ es, e.cells.length = z) (hO : ¬ O blk) (hb : blk < w.heap.size)
      (hcell : ∀ i, i < es.length * z → w.cell? ⟨blk, off + i, none⟩ = some (f i))
      (hrep : ∀ i, i < es.length → ∀ j, j < z → Rep w O g ((es.getD i .und).cells.getD j .und) (f (i * z + j))) :
      Rep w O g (.sl es) (.slice (some ⟨blk, off, none⟩) es.length cap)
  | cp (cs : List AV) (blk off : Nat) (f : Nat → Value) (hO : ¬ O blk) (hb : blk < w.heap.size)
      (hcell : ∀ i, i < cs.length → w.cell? ⟨blk, off + i, none⟩ = some (f i))
      (hrep : ∀ i, i < cs.length → Rep w O g (cs.getD i .und) (f i)) : Rep w O g (.cp cs) (.pointer (some ⟨blk, off, none⟩))
  | pt (b off blk : Nat) (h : (g b)[0]? = some (.pointer (some ⟨blk, 0, none⟩))) : Rep w O g (.pt b off) (.pointer (some ⟨blk, off, none⟩))
  | ow (b ver : Nat) (a : Option Addr) (n c : Nat) (h : (g b)[ver]? = some (.slice a n c)) : Rep w O g (.ow b ver) (.slice a n c)
  | rp (b ver z i off blk n c : Nat) (h : (g b)[ver]? = some (.slice (some ⟨blk, 0, none⟩) n c)) : Rep w O g (.rp b ver z i off) (.pointer (some ⟨blk, i * z + off, none⟩))
  | e0 (a : Option Addr) : Rep w O g .e0 (.slice a 0 0)
  | mp (b blk : Nat) (h : (g b)[0]? = some (.map (some blk))) : Rep w O g (.mp b) (.map (some blk))
  | clo (f : Nat) (cs : List AV) (vs : Array Value) (hl : vs.size = cs.length)
      (h : ∀ j, j < cs.length → Rep w O g (cs.getD j .und) (vs.getD j undef)) : Rep w O g (.clo f cs) (.func (.func f) #[] vs)
  | gd (x : Bool) (v : AV) (val : Value) (h : x = true → Rep w O g v val) (h' : x = false → val = undef) : Rep w O g (.gd x v) val
  | nb (known val x : Bool) (h : known = true → x = val) : Rep w O g (.nb known val) (.bool x)
  | und (val : Value) : Rep w O g .und val

/-- g' knows all that g knows. -/
def Ext (g g' : Nat → List Value) : Prop := ∀ (b ver : Nat) (v : Value), (g b)[ver]? = some v → (g' b)[ver]? = some v
theorem Ext.refl (g : Nat → List Value) : Ext g g := fun _ _ _ h => h
theorem Ext.trans {g g' g'' : Nat → List Value} (h : Ext g g') (h' : Ext g' g'') : Ext g g'' := fun b ver v hv => h' b ver v (h b ver v hv)

/-- w' has what w had outside O; nothing new in O'. -/
structure Later (w : World) (O : Nat → Prop) (w' : World) (O' : Nat → Prop) : Prop where
  size : w.heap.size ≤ w'.heap.size
  keep : ∀ k, k < w.heap.size → ¬ O k → w'.heap[k]? = w.heap[k]?
  sub : ∀ k, k < w.heap.size → O' k → O k

theorem Rep.later {w w' : World} {O O' : Nat → Prop} {g g' : Nat → List Value} {v : AV} {val : Value} (hl : Later w O w' O') (hg : Ext g g')
    (h : Rep w O g v val) : Rep w' O' g' v val := by
  induction h with
  | sc v => exact .sc v
  | agg cs vs h1 _ ih => exact .agg cs vs h1 ih
  | tup cs vs h1 _ ih => exact .tup cs vs h1 ih
  | sl0 a cap => exact .sl0 a cap
  | sl1 z es blk off cap f hc hz hO hb hcell _ ih =>
    refine .sl1 z es blk off cap f hc hz (fun h => hO (hl.sub _ hb h)) (Nat.lt_of_lt_of_le hb hl.size) (fun i hi => ?_) ih
    rw [World.cell?_of_block (w := w) (hl.keep blk hb hO)]
    exact hcell i hi
  | cp cs blk off f hO hb hcell _ ih =>
    refine .cp cs blk off f (fun h => hO (hl.sub _ hb h)) (Nat.lt_of_lt_of_le hb hl.size) (fun i hi => ?_) ih
    rw [World.cell?_of_block (w := w) (hl.keep blk hb hO)]
    exact hcell i hi
  | pt b off blk h => exact .pt b off blk (hg _ _ _ h)
  | ow b ver a n c h => exact .ow b ver a n c (hg _ _ _ h)
  | rp b ver z i off blk n c h => exact .rp b ver z i off blk n c (hg _ _ _ h)
  | e0 a => exact .e0 a
  | mp b blk h => exact .mp b blk (hg _ _ _ h)
  | clo f cs vs h1 _ ih => exact .clo f cs vs h1 ih
  | gd x v val _ h' ih => exact .gd x v val ih h'
  | nb k v x h => exact .nb k v x h
  | und val => exact .und val

theorem Rep.sub {w : World} {O O' : Nat → Prop} {g : Nat → List Value} {v : AV} {val : Value} (hO : ∀ k, O' k → O k)
    (h : Rep w O g v val) : Rep w O' g v val :=
  h.later ⟨Nat.le_refl _, fun _ _ _ => rfl, fun k _ h => hO k h⟩ (Ext.refl g)

/-- no id from N on. -/
inductive Lt (N : Nat) : AV → Prop
  | sc (v : Value) : Lt N (.sc v)
  | agg (cs : List AV) (h : ∀ c ∈ cs, Lt N c) : Lt N (.agg cs)
  | tup (cs : List AV) (h : ∀ c ∈ cs, Lt N c) : Lt N (.tup cs)
  | sl (cs : List AV) (h : ∀ c ∈ cs, Lt N c) : Lt N (.sl cs)
  | cp (cs : List AV) (h : ∀ c ∈ cs, Lt N c) : Lt N (.cp cs)
  | pt (b off : Nat) (h : b < N) : Lt N (.pt b off)
  | ow (b ver : Nat) (h : b < N) : Lt N (.ow b ver)
  | rp (b ver z i off : Nat) (h : b < N) : Lt N (.rp b ver z i off)
  | e0 : Lt N .e0
  | mp (b : Nat) (h : b < N) : Lt N (.mp b)
  | clo (f : Nat) (cs : List AV) (h : ∀ c ∈ cs, Lt N c) : Lt N (.clo f cs)
  | gd (x : Bool) (v : AV) (h : Lt N v) : Lt N (.gd x v)
  | nb (k v : Bool) : Lt N (.nb k v)
  | und : Lt N .und

theorem getD_mem {α : Type} {l : List α} {j : Nat} {d : α} (h : j < l.length) : l.getD j d ∈ l := by
  rw [List.getD_eq_getElem?_getD, List.getElem?_eq_getElem h]
  exact List.getElem_mem h

theorem Lt.cells {N : Nat} {v c : AV} (h : Lt N v) (hc : c ∈ v.cells) : Lt N c := by
  cases h with
  | agg cs h => exact h c hc
  | sc => simp [AV.cells] at hc; subst hc; exact .sc _
  | tup cs h => simp [AV.cells] at hc; subst hc; exact .tup _ h
  | sl cs h => simp [AV.cells] at hc; subst hc; exact .sl _ h
  | cp cs h => simp [AV.cells] at hc; subst hc; exact .cp _ h
  | pt b off h => simp [AV.cells] at hc; subst hc; exact .pt _ _ h
  | ow b ver h => simp [AV.cells] at hc; subst hc; exact .ow _ _ h
  | rp b ver z i off h => simp [AV.cells] at hc; subst hc; exact .rp _ _ _ _ _ h
  | e0 => simp [AV.cells] at hc; subst hc; exact .e0
  | mp b h => simp [AV.cells] at hc; subst hc; exact .mp _ h
  | clo f cs h => simp [AV.cells] at hc; subst hc; exact .clo _ _ h
  | gd x v h => simp [AV.cells] at hc; subst hc; exact .gd _ _ h
  | nb k v => simp [AV.cells] at hc; subst hc; exact .nb _ _
  | und => simp [AV.cells] at hc; subst hc; exact .und

theorem Rep.reset {w : World} {O : Nat → Prop} {g g' : Nat → List Value} {N : Nat} {v : AV} {val : Value} (hg : ∀ b, b < N → g' b = g b)
    (h : Rep w O g v val) : Lt N v → Rep w O g' v val := by
  induction h with
  | sc v => exact fun _ => .sc v
  | agg cs vs h1 _ ih => exact fun hl => by cases hl with | agg _ hl => exact .agg cs vs h1 fun j hj => ih j hj (hl _ (getD_mem hj))
  | tup cs vs h1 _ ih => exact fun hl => by cases hl with | tup _ hl => exact .tup cs vs h1 fun j hj => ih j hj (hl _ (getD_mem hj))
  | sl0 a cap => exact fun _ => .sl0 a cap
  | sl1 z es blk off cap f hc hz hO hb hcell _ ih =>
    intro hl
    cases hl with
    | sl _ hl =>
      refine .sl1 z es blk off cap f hc hz hO hb hcell fun i hi j hj => ih i hi j hj ?_
      exact (hl (es.getD i .und) (getD_mem hi)).cells (getD_mem (by rw [hz _ (getD_mem hi)]; exact hj))
  | cp cs blk off f hO hb hcell _ ih => exact fun hl => by cases hl with | cp _ hl => exact .cp cs blk off f hO hb hcell fun i hi => ih i hi (hl _ (getD_mem hi))
  | pt b off blk h => exact fun hl => by cases hl with | pt _ _ hl => exact .pt b off blk (by rw [hg b hl]; exact h)
  | ow b ver a n c h => exact fun hl => by cases hl with | ow _ _ hl => exact .ow b ver a n c (by rw [hg b hl]; exact h)
  | rp b ver z i off blk n c h => exact fun hl => by cases hl with | rp _ _ _ _ _ hl => exact .rp b ver z i off blk n c (by rw [hg b hl]; exact h)
  | e0 a => exact fun _ => .e0 a
  | mp b blk h => exact fun hl => by cases hl with | mp _ hl => exact .mp b blk (by rw [hg b hl]; exact h)
  | clo f cs vs h1 _ ih => exact fun hl => by cases hl with | clo _ _ hl => exact .clo f cs vs h1 fun j hj => ih j hj (hl _ (getD_mem hj))
  | gd x v val _ h' ih => exact fun hl => by cases hl with | gd _ _ hl => exact .gd x v val (fun hx => ih hx hl) h'
  | nb k v x h => exact fun _ => .nb k v x h
  | und val => exact fun _ => .und val

section
variable {w : World} {O : Nat → Prop} {g : Nat → List Value} {val : Value}
theorem Rep.sc_inv {v : Value} (h : Rep w O g (.sc v) val) : val = v := by cases h; rfl
theorem Rep.nb_inv {k v : Bool} (h : Rep w O g (.nb k v) val) : ∃ x : Bool, val = .bool x ∧ (k = true → x = v) := by cases h with | nb _ _ x h => exact ⟨x, rfl, h⟩
theorem Rep.agg_inv {cs : List AV} (h : Rep w O g (.agg cs) val) : ∃ vs : Array Value, val = .agg vs ∧ vs.size = cs.length ∧ ∀ j, j < cs.length → Rep w O g (cs.getD j .und) (vs.getD j undef) := by
  cases h with | agg _ vs h1 h2 => exact ⟨vs, rfl, h1, h2⟩
theorem Rep.tup_inv {cs : List AV} (h : Rep w O g (.tup cs) val) : ∃ vs : Array Value, val = .tuple vs ∧ vs.size = cs.length ∧ ∀ j, j < cs.length → Rep w O g (cs.getD j .und) (vs.getD j undef) := by
  cases h with | tup _ vs h1 h2 => exact ⟨vs, rfl, h1, h2⟩
theorem Rep.clo_inv {f : Nat} {cs : List AV} (h : Rep w O g (.clo f cs) val) : ∃ vs : Array Value, val = .func (.func f) #[] vs ∧ vs.size = cs.length ∧ ∀ j, j < cs.length → Rep w O g (cs.getD j .und) (vs.getD j undef) := by
  cases h with | clo _ _ vs h1 h2 => exact ⟨vs, rfl, h1, h2⟩
theorem Rep.pt_inv {b off : Nat} (h : Rep w O g (.pt b off) val) : ∃ blk, val = .pointer (some ⟨blk, off, none⟩) ∧ (g b)[0]? = some (.pointer (some ⟨blk, 0, none⟩)) := by
  cases h with | pt _ _ blk h => exact ⟨blk, rfl, h⟩
theorem Rep.ow_inv {b ver : Nat} (h : Rep w O g (.ow b ver) val) : ∃ a n c, val = .slice a n c ∧ (g b)[ver]? = some (.slice a n c) := by
  cases h with | ow _ _ a n c h => exact ⟨a, n, c, rfl, h⟩
theorem Rep.rp_inv {b ver z i off : Nat} (h : Rep w O g (.rp b ver z i off) val) : ∃ blk n c, val = .pointer (some ⟨blk, i * z + off, none⟩) ∧ (g b)[ver]? = some (.slice (some ⟨blk, 0, none⟩) n c) := by
  cases h with | rp _ _ _ _ _ blk n c h => exact ⟨blk, n, c, rfl, h⟩
theorem Rep.mp_inv {b : Nat} (h : Rep w O g (.mp b) val) : ∃ blk, val = .map (some blk) ∧ (g b)[0]? = some (.map (some blk)) := by cases h with | mp _ blk h => exact ⟨blk, rfl, h⟩
theorem Rep.e0_inv (h : Rep w O g .e0 val) : ∃ a, val = .slice a 0 0 := by cases h with | e0 a => exact ⟨a, rfl⟩
theorem Rep.cp_inv {cs : List AV} (h : Rep w O g (.cp cs) val) : ∃ (blk off : Nat) (f : Nat → Value), val = .pointer (some ⟨blk, off, none⟩) ∧ ¬ O blk ∧ blk < w.heap.size ∧
    (∀ i, i < cs.length → w.cell? ⟨blk, off + i, none⟩ = some (f i)) ∧ ∀ i, i < cs.length → Rep w O g (cs.getD i .und) (f i) := by
  cases h with | cp _ blk off f a b c d => exact ⟨blk, off, f, rfl, a, b, c, d⟩
theorem Rep.sl_inv {es : List AV} (h : Rep w O g (.sl es) val) : ∃ (a : Option Addr) (cap : Nat), val = .slice a es.length cap ∧ (0 < es.length → es.length ≤ cap ∧ ∃ (z blk off : Nat) (f : Nat → Value),
    a = some ⟨blk, off, none⟩ ∧ (∀ e ∈ es, e.cells.length = z) ∧ ¬ O blk ∧ blk < w.heap.size ∧ (∀ i, i < es.length * z → w.cell? ⟨blk, off + i, none⟩ = some (f i)) ∧
    ∀ i, i < es.length → ∀ j, j < z → Rep w O g ((es.getD i .und).cells.getD j .und) (f (i * z + j))) := by
  cases h with
  | sl0 a cap => exact ⟨a, cap, rfl, fun h => by simp at h⟩
  | sl1 z es blk off cap f hc hz hO hb h1 h2 => exact ⟨_, cap, rfl, fun _ => ⟨hc, z, blk, off, f, rfl, hz, hO, hb, h1, h2⟩⟩
end
end Go.AL
