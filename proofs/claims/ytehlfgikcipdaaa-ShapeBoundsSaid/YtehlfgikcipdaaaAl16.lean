/-
  The abstract logic: what a reading says of the values handed in: the shapes of the cells. Conditions: none, over any program.
-/
import Derived.Test.YtehlfgikcipdaaaAl9
import Derived.ProofKit
import Derived.OpenShut
import Derived.Below
import Derived.Carry
set_option linter.all false
namespace Go.AL
open Go.ChangeShapes Go.WideShapes Go.ChangeAt Go.RowKit

/-- the shape of one cell: an integer, a Bool, a string, a slice whose elements have these cells. -/
inductive Sh where
  | int (k : IntKind)
  | bool
  | str
  | sl (ag : Bool) (e : List Sh)

instance : Inhabited Sh := ⟨.bool⟩

/-- an element out of its cells. -/
def ofC (ag : Bool) (cs : List AV) : AV := if ag then .agg cs else cs.getD 0 .und

inductive InC : Sh → AV → Prop
  | int (k : IntKind) (n : Int) (h : (Lit.int k n).wf = true) : InC (.int k) (.sc (.int k n))
  | bool (b : Bool) : InC .bool (.sc (.bool b))
  | str (s : ByteArray) (h : s.size ≤ maxLen) : InC .str (.sc (.string s))
  | sl (ag : Bool) (e : List Sh) (n : Nat) (c : Nat → List AV) (hn : n ≤ maxLen) (hz : ∀ i, i < n → (c i).length = e.length)
      (h : ∀ i, i < n → ∀ j, j < e.length → InC (e.getD j default) ((c i).getD j .und)) : InC (.sl ag e) (.sl ((List.range n).map fun i => ofC ag (c i)))

/-- cells of these shapes. -/
def InL (ss : List Sh) (cs : List AV) : Prop := cs.length = ss.length ∧ ∀ j, j < ss.length → InC (ss.getD j default) (cs.getD j .und)

theorem InC.lt {s : Sh} {c : AV} (h : InC s c) (N : Nat) : Lt N c := by
  induction h with
  | int k n h => exact .sc _
  | bool b => exact .sc _
  | str s h => exact .sc _
  | sl ag e n c hn hz _ ih =>
    refine .sl _ fun x hx => ?_
    simp only [List.mem_map, List.mem_range] at hx
    obtain ⟨i, hi, rfl⟩ := hx
    unfold ofC
    split
    · refine .agg _ fun y hy => ?_
      obtain ⟨j, hj, rfl⟩ := List.getElem_of_mem hy
      have := ih i hi j (by rw [← hz i hi]; exact hj)
      rwa [List.getD_eq_getElem?_getD, List.getElem?_eq_getElem hj] at this
    · by_cases h0 : 0 < e.length
      · exact ih i hi 0 h0
      · have : c i = [] := List.eq_nil_of_length_eq_zero (by rw [hz i hi]; omega)
        rw [this]; exact .und

theorem InL.lt {ss : List Sh} {cs : List AV} (h : InL ss cs) (N : Nat) : ∀ c ∈ cs, Lt N c := by
  intro c hc
  obtain ⟨j, hj, rfl⟩ := List.getElem_of_mem hc
  have := (h.2 j (by rw [← h.1]; exact hj)).lt N
  rwa [List.getD_eq_getElem?_getD, List.getElem?_eq_getElem hj] at this

theorem ofC_lt {ag : Bool} {ss : List Sh} {cs : List AV} (h : InL ss cs) (N : Nat) : Lt N (ofC ag cs) := by
  unfold ofC
  split
  · exact .agg _ (h.lt N)
  · cases cs with
    | nil => exact .und
    | cons c cs => exact h.lt N c (by simp)

theorem inL_nil {cs : List AV} : InL [] cs ↔ cs = [] := by
  constructor
  · intro h; exact List.eq_nil_of_length_eq_zero h.1
  · rintro rfl; exact ⟨rfl, fun j hj => by cases hj⟩

theorem inL_cons {s : Sh} {ss : List Sh} {cs : List AV} : InL (s :: ss) cs ↔ ∃ c cs', cs = c :: cs' ∧ InC s c ∧ InL ss cs' := by
  constructor
  · intro h
    cases cs with
    | nil => exact absurd h.1 (by simp)
    | cons c cs => exact ⟨c, cs, rfl, h.2 0 (by simp), by simpa using h.1, fun j hj => h.2 (j + 1) (by simpa using hj)⟩
  · rintro ⟨c, cs', rfl, h, h'⟩
    refine ⟨by simpa using h'.1, fun j hj => ?_⟩
    cases j with
    | zero => exact h
    | succ j => exact h'.2 j (by simpa using hj)

theorem inL_append {ss ss' : List Sh} {cs cs' : List AV} (h : InL ss cs) (h' : InL ss' cs') : InL (ss ++ ss') (cs ++ cs') := by
  induction ss generalizing cs with
  | nil => rw [inL_nil] at h; subst h; exact h'
  | cons s ss ih =>
    obtain ⟨c, cs1, rfl, h1, h2⟩ := inL_cons.1 h
    exact inL_cons.2 ⟨c, cs1 ++ cs', rfl, h1, ih h2⟩

theorem inC_int {k : IntKind} {c : AV} : InC (.int k) c ↔ ∃ n, c = .sc (.int k n) ∧ (Lit.int k n).wf = true :=
  ⟨fun h => by cases h with | int _ n h => exact ⟨n, rfl, h⟩, fun ⟨n, h, h'⟩ => by subst h; exact .int k n h'⟩
theorem inC_bool {c : AV} : InC .bool c ↔ ∃ b, c = .sc (.bool b) :=
  ⟨fun h => by cases h with | bool b => exact ⟨b, rfl⟩, fun ⟨n, h⟩ => by subst h; exact .bool n⟩
theorem inC_str {c : AV} : InC .str c ↔ ∃ s : ByteArray, c = .sc (.string s) ∧ s.size ≤ maxLen :=
  ⟨fun h => by cases h with | str s h => exact ⟨s, rfl, h⟩, fun ⟨s, h, h'⟩ => by subst h; exact .str s h'⟩

/-- a slice: each element is one of X, and so the slice is a row of such. -/
theorem inC_sl {ag : Bool} {e : List Sh} {c : AV} {α : Type} {F : α → AV} {Q : α → Prop} (hX : ∀ cs, InL e cs → ∃ x, ofC ag cs = F x ∧ Q x)
    (h : InC (.sl ag e) c) : ∃ xs : List α, c = .sl (xs.map F) ∧ xs.length ≤ maxLen ∧ ∀ x ∈ xs, Q x := by
  cases h with
  | sl _ _ n c hn hz h =>
    have hall : ∀ i, i < n → ∃ x, ofC ag (c i) = F x ∧ Q x := fun i hi => hX _ ⟨hz i hi, h i hi⟩
    clear h hz
    suffices hs : ∀ m, m ≤ n → ∃ xs : List α, (List.range m).map (fun i => ofC ag (c i)) = xs.map F ∧ xs.length = m ∧ ∀ x ∈ xs, Q x by
      obtain ⟨xs, h1, h2, h3⟩ := hs n (Nat.le_refl n)
      exact ⟨xs, by rw [h1], by rw [h2]; exact hn, h3⟩
    intro m
    induction m with
    | zero => exact fun _ => ⟨[], rfl, rfl, fun x hx => by cases hx⟩
    | succ m ih =>
      intro hm
      obtain ⟨xs, h1, h2, h3⟩ := ih (by omega)
      obtain ⟨x, h4, h5⟩ := hall m (by omega)
      refine ⟨xs ++ [x], ?_, by simp [h2], fun y hy => ?_⟩
      · rw [List.range_succ, List.map_append, List.map_append, h1]; simp [h4]
      · simp only [List.mem_append, List.mem_singleton] at hy
        rcases hy with hy | rfl
        · exact h3 y hy
        · exact h5

/-! ### the shape of a type -/

def shL (P : Program) (f : TypeId → Option (List Sh)) : List Field → Nat → Option (List Sh)
  | [], _ => some []
  | fd :: fs, off => if fd.offset = off then match f fd.type with
      | some s => if s.length = P.cellsOf fd.type then (shL P f fs (off + s.length)).map (s ++ ·) else none
      | none => none
    else none

def repS (s : List Sh) : Nat → List Sh
  | 0 => []
  | n + 1 => s ++ repS s n

def shI (P : Program) : Nat → TypeId → Option (List Sh)
  | 0, _ => none
  | n + 1, t => match P.underlying t with
    | some .bool => some [.bool]
    | some (.int k) => some [.int k]
    | some .string => some [.str]
    | some (.slice e) => match shI P n e with
      | some s => if s.length = P.cellsOf e ∧ 0 < s.length ∧ (aggB P e = true ∨ s.length = 1) then some [.sl (aggB P e) s] else none
      | none => none
    | some (.struct fs) => match shL P (shI P n) fs.toList 0 with
      | some s => if s.length = P.cellsOf t then some s else none
      | none => none
    | some (.array m e) => match shI P n e with
      | some s => if s.length = P.cellsOf e ∧ m * s.length = P.cellsOf t then some (repS s m) else none
      | none => none
    | _ => none

def RepL (w : World) (O : Nat → Prop) (g : Nat → List Value) (as : List AV) (cs : List Value) : Prop :=
  as.length = cs.length ∧ ∀ j, j < as.length → Rep w O g (as.getD j .und) (cs.getD j undef)

theorem RepL.append {w : World} {O : Nat → Prop} {g : Nat → List Value} {as as' : List AV} {cs cs' : List Value} (h : RepL w O g as cs) (h' : RepL w O g as' cs') :
    RepL w O g (as ++ as') (cs ++ cs') := by
  refine ⟨by simp [h.1, h'.1], fun j hj => ?_⟩
  by_cases hl : j < as.length
  · simp only [List.getD_eq_getElem?_getD]
    rw [List.getElem?_append_left hl, List.getElem?_append_left (by rw [← h.1]; exact hl), ← List.getD_eq_getElem?_getD, ← List.getD_eq_getElem?_getD]
    exact h.2 j hl
  · simp only [List.getD_eq_getElem?_getD]
    rw [List.getElem?_append_right (by omega), List.getElem?_append_right (by rw [← h.1]; omega), ← h.1, ← List.getD_eq_getElem?_getD, ← List.getD_eq_getElem?_getD]
    exact h'.2 _ (by simp at hj; omega)

theorem in_fields {P : Program} {w : World} {O : Nat → Prop} {g : Nat → List Value} {cs : List Value} (f : TypeId → Option (List Sh)) :
    ∀ (fs : List Field) (off : Nat) (S : List Sh), shL P f fs off = some S →
      (∀ fd ∈ fs, ∀ s, f fd.type = some s → s.length = P.cellsOf fd.type → ∃ as, InL s as ∧ RepL w O g as ((cs.drop fd.offset).take (P.cellsOf fd.type))) →
      ∃ as, InL S as ∧ RepL w O g as ((cs.drop off).take S.length)
  | [], off, S, h, _ => by
    simp [shL] at h; subst h
    exact ⟨[], inL_nil.2 rfl, by simp [RepL]⟩
  | fd :: fs, off, S, h, hf => by
    unfold shL at h
    split at h
    · rename_i ho
      split at h
      · rename_i s hs
        split at h
        · rename_i hl
          obtain ⟨S', h1, rfl⟩ := Option.map_eq_some_iff.1 h
          obtain ⟨as, ha, hr⟩ := hf fd (by simp) s hs hl
          obtain ⟨as', ha', hr'⟩ := in_fields f fs _ _ h1 (fun fd hfd => hf fd (by simp [hfd]))
          refine ⟨as ++ as', inL_append ha ha', ?_⟩
          rw [ho, ← hl] at hr
          have := hr.append hr'
          rwa [show (cs.drop off).take s.length ++ (cs.drop (off + s.length)).take S'.length = (cs.drop off).take (s ++ S').length by
            rw [List.length_append, List.take_add, List.drop_drop]] at this
        · cases h
      · cases h
    · cases h

theorem in_array {w : World} {O : Nat → Prop} {g : Nat → List Value} {cs : List Value} {s : List Sh} :
    ∀ (m i0 : Nat), (∀ i, i0 ≤ i → i < i0 + m → ∃ as, InL s as ∧ RepL w O g as ((cs.drop (i * s.length)).take s.length)) →
      ∃ as, InL (repS s m) as ∧ RepL w O g as ((cs.drop (i0 * s.length)).take (m * s.length))
  | 0, i0, _ => ⟨[], inL_nil.2 rfl, by simp [RepL]⟩
  | m + 1, i0, h => by
    obtain ⟨as, ha, hr⟩ := h i0 (Nat.le_refl _) (by omega)
    obtain ⟨as', ha', hr'⟩ := in_array m (i0 + 1) (fun i h1 h2 => h i (by omega) (by omega))
    refine ⟨as ++ as', inL_append ha ha', ?_⟩
    have := hr.append hr'
    rwa [show (cs.drop (i0 * s.length)).take s.length ++ (cs.drop ((i0 + 1) * s.length)).take (m * s.length) = (cs.drop (i0 * s.length)).take ((m + 1) * s.length) by
      rw [Nat.add_mul m, Nat.one_mul, Nat.add_comm (m * s.length), List.take_add, List.drop_drop, Nat.add_mul, Nat.one_mul]] at this

theorem repS_length (s : List Sh) (m : Nat) : (repS s m).length = m * s.length := by
  induction m with
  | zero => simp [repS]
  | succ m ih => simp [repS, ih, Nat.add_mul]; omega

theorem cell?_lt {w : World} {a : Addr} {v : Value} (h : w.cell? a = some v) : a.block < w.heap.size ∧ a.spot = none := by
  unfold World.cell? at h
  split at h
  · rename_i hh
    refine ⟨(Array.getElem?_eq_some_iff.1 hh).1, ?_⟩
    split at h
    · cases h
    · rename_i hs; simpa using hs
  · cases h

theorem cells?_get {w : World} {base : Nat} {a : Addr} {n : Nat} {cs : List Value} (h : w.cells? base a n = some cs) :
    cs.length = n ∧ ∀ i, i < n → w.cell? (a.add i) = some (cs.getD i undef) := by
  unfold World.cells? at h
  split at h
  · have hl := mapM_some_length h
    simp at hl
    refine ⟨hl, fun i hi => ?_⟩
    have := mapM_some_get h i i (by simp [hi])
    rw [this, List.getD_eq_getElem?_getD, List.getElem?_eq_getElem (by omega)]
    rfl
  · cases h

theorem trod_in {H : Type} {enc : TypeId × Value → H} {P : Program} {w : World} {base : Nat} {spare : Nat → Bool} {held : Bool} {g : Nat → List Value} :
    ∀ (n : Nat) (t : TypeId) (S : List Sh) (fuel : Nat) (cs : List Value) (x : DataW H × List MemPlace), shI P n t = some S →
      DataW.trod enc P w base spare held fuel t cs = some x → ∃ as, InL S as ∧ RepL w (fun _ => False) g as cs
  | 0, t, S, fuel, cs, x, h, _ => by cases h
  | n + 1, t, S, fuel, cs, x, h, hx => by
    unfold shI at h
    split at h
    · rename_i ht
      cases h
      obtain ⟨b, rfl, _⟩ := DataW.trod_bool ht hx
      exact ⟨[.sc (.bool b)], inL_cons.2 ⟨_, _, rfl, .bool b, inL_nil.2 rfl⟩, rfl, fun j hj => by simp at hj; subst hj; exact .sc _⟩
    · rename_i k ht
      cases h
      obtain ⟨m, rfl, _, hw⟩ := DataW.trod_int ht hx
      exact ⟨[.sc (.int k m)], inL_cons.2 ⟨_, _, rfl, .int k m hw, inL_nil.2 rfl⟩, rfl, fun j hj => by simp at hj; subst hj; exact .sc _⟩
    · rename_i ht
      cases h
      obtain ⟨s, rfl, _, hw⟩ := DataW.trod_string ht hx
      exact ⟨[.sc (.string s)], inL_cons.2 ⟨_, _, rfl, .str s hw, inL_nil.2 rfl⟩, rfl, fun j hj => by simp at hj; subst hj; exact .sc _⟩
    · rename_i e ht
      split at h
      · rename_i s hs
        split at h
        · rename_i hl
          cases h
          rcases DataW.trod_slice ht hx with ⟨rfl, _⟩ | ⟨a, len, cap, elems, rest, m, _, rfl, _, _, hlc, hcm, hel, hget, _, _⟩
          · refine ⟨[.sl []], inL_cons.2 ⟨_, _, rfl, ?_, inL_nil.2 rfl⟩, rfl, fun j hj => by simp at hj; subst hj; exact .sl0 _ _⟩
            exact .sl _ _ 0 (fun _ => []) (Nat.zero_le _) (fun i hi => by omega) (fun i hi => by omega)
          · have hall : ∀ i, i < len → ∃ cs' as, w.cells? base (a.add (i * P.cellsOf e)) (P.cellsOf e) = some cs' ∧ InL s as ∧ RepL w (fun _ => False) g as cs' := by
              intro i hi
              have := hget i hi
              rw [List.getElem?_eq_getElem (by omega)] at this
              obtain ⟨cs', h1, h2⟩ := Option.bind_eq_some_iff.1 this
              obtain ⟨as, h3, h4⟩ := trod_in (g := g) n e s m cs' _ hs h2
              exact ⟨cs', as, h1, h3, h4⟩
            cases len with
            | zero =>
              refine ⟨[.sl []], inL_cons.2 ⟨_, _, rfl, ?_, inL_nil.2 rfl⟩, rfl, fun j hj => by simp at hj; subst hj; exact .sl0 _ _⟩
              exact .sl _ _ 0 (fun _ => []) (Nat.zero_le _) (fun i hi => by omega) (fun i hi => by omega)
            | succ len =>
              have hch : ∃ (C : Nat → List Value) (A : Nat → List AV), ∀ i, i < len + 1 → w.cells? base (a.add (i * P.cellsOf e)) (P.cellsOf e) = some (C i) ∧ InL s (A i) ∧ RepL w (fun _ => False) g (A i) (C i) := by
                refine ⟨fun i => if h : i < len + 1 then (hall i h).choose else [], fun i => if h : i < len + 1 then (hall i h).choose_spec.choose else [], fun i hi => ?_⟩
                simp only [hi, dite_true]
                exact (hall i hi).choose_spec.choose_spec
              obtain ⟨C, A, hCA⟩ := hch
              have hz : s.length = P.cellsOf e := hl.1
              obtain ⟨blk, off, spot⟩ := a
              have h00 := (cells?_get (hCA 0 (by omega)).1).2 0 (by omega)
              have hsp := cell?_lt h00
              simp [Addr.add] at hsp
              obtain ⟨hb, rfl⟩ := hsp
              have hmm : (List.map (fun i => ofC (aggB P e) (A i)) (List.range (len + 1))).length = len + 1 := by simp
              have hcells : ∀ i, i < len + 1 → (ofC (aggB P e) (A i)).cells = A i := by
                intro i hi
                have hli := (hCA i hi).2.1.1
                unfold ofC
                split
                · rfl
                · rename_i hag
                  have h1 : s.length = 1 := by
                    rcases hl.2.2 with h | h
                    · exact absurd h hag
                    · exact h
                  rw [h1] at hli
                  match hA : A i, hli with
                  | [c], _ =>
                    have hin := (hCA i hi).2.1
                    rw [hA] at hin
                    match s, h1 with
                    | [s0], _ =>
                      obtain ⟨c', cs', he, hc, _⟩ := inL_cons.1 hin
                      cases he
                      cases hc <;> rfl
              have hgD : ∀ i, i < len + 1 → (List.map (fun i => ofC (aggB P e) (A i)) (List.range (len + 1))).getD i .und = ofC (aggB P e) (A i) := by
                intro i hi
                simp [List.getD_eq_getElem?_getD, hi]
              refine ⟨[.sl ((List.range (len + 1)).map fun i => ofC (aggB P e) (A i))], inL_cons.2 ⟨_, _, rfl, ?_, inL_nil.2 rfl⟩, rfl, fun j hj => ?_⟩
              · exact .sl _ _ (len + 1) A (by omega) (fun i hi => (hCA i hi).2.1.1) (fun i hi => (hCA i hi).2.1.2)
              · simp at hj; subst hj
                show Rep w (fun _ => False) g (.sl _) (.slice (some ⟨blk, off, none⟩) (len + 1) cap)
                have key : Rep w (fun _ => False) g (.sl ((List.range (len + 1)).map fun i => ofC (aggB P e) (A i)))
                    (.slice (some ⟨blk, off, none⟩) (List.map (fun i => ofC (aggB P e) (A i)) (List.range (len + 1))).length cap) := by
                  refine .sl1 s.length _ blk off cap (fun q => (C (q / s.length)).getD (q % s.length) undef) (by rw [hmm]; exact hlc) ?_ id hb ?_ ?_
                  · intro x hx
                    simp only [List.mem_map, List.mem_range] at hx
                    obtain ⟨i, hi, rfl⟩ := hx
                    rw [hcells i hi]
                    exact (hCA i hi).2.1.1
                  · intro q hq
                    rw [hmm] at hq
                    have hi : q / s.length < len + 1 := Nat.div_lt_of_lt_mul (by rw [Nat.mul_comm]; exact hq)
                    have hr : q % s.length < s.length := Nat.mod_lt _ hl.2.1
                    have := (cells?_get (hCA _ hi).1).2 (q % s.length) (by omega)
                    rw [← this]
                    congr 1
                    have hdm := Nat.div_add_mod q s.length
                    rw [Nat.mul_comm] at hdm
                    rw [← hz]
                    simp only [Addr.add]
                    split <;> split <;> simp_all <;> omega
                  · intro i hi j hj
                    rw [hmm] at hi
                    rw [hgD i hi, hcells i hi]
                    have e1 : (i * s.length + j) / s.length = i := by
                      rw [Nat.mul_comm, Nat.mul_add_div hl.2.1, Nat.div_eq_of_lt hj]; rfl
                    have e2 : (i * s.length + j) % s.length = j := by
                      rw [Nat.mul_comm, Nat.mul_add_mod, Nat.mod_eq_of_lt hj]
                    simp only [e1, e2]
                    exact (hCA i hi).2.2.2 j (by rw [(hCA i hi).2.1.1]; exact hj)
                rwa [hmm] at key
        · cases h
      · cases h
    · rename_i fs ht
      split at h
      · rename_i s hs
        split at h
        · rename_i hl
          cases h
          obtain ⟨xs, m, _, _, hc, hxl, hget⟩ := DataW.trod_struct ht hx
          obtain ⟨as, h1, h2⟩ := in_fields (P := P) (w := w) (O := fun _ => False) (g := g) (cs := cs) (shI P n) fs.toList 0 S hs (fun fd hfd s' hs' _ => by
            obtain ⟨i, hi, rfl⟩ := List.getElem_of_mem hfd
            simp only [Array.length_toList] at hi
            have := hget i fs[i] (by simp [hi])
            rw [List.getElem?_eq_getElem (by omega)] at this
            exact trod_in n _ s' m _ _ hs' (by simpa using this))
          refine ⟨as, h1, ?_⟩
          simp only [List.drop_zero] at h2
          rwa [List.take_of_length_le (by omega)] at h2
        · cases h
      · cases h
    · rename_i m e ht
      split at h
      · rename_i s hs
        split at h
        · rename_i hl
          cases h
          obtain ⟨xs, k, _, _, hc, hxl, hget⟩ := DataW.trod_array ht hx
          obtain ⟨as, h1, h2⟩ := in_array (w := w) (O := fun _ => False) (g := g) (cs := cs) (s := s) m 0 (fun i _ hi => by
            have := hget i (by omega)
            rw [List.getElem?_eq_getElem (by omega), ← hl.1] at this
            exact trod_in n e s k _ _ hs this)
          refine ⟨as, h1, ?_⟩
          simp only [Nat.zero_mul, List.drop_zero] at h2
          rwa [List.take_of_length_le (by omega)] at h2
        · cases h
      · cases h
    · cases h

end Go.AL
