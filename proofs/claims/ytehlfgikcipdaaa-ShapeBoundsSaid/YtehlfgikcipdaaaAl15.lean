/-
  The abstract logic: slice literals and append. Conditions: none.
-/
import Derived.Test.YtehlfgikcipdaaaAl7
import Derived.Lib.SliceRun
set_option linter.all false
namespace Go.AL
open Go.RowKit

/-- flat cells as elements. -/
def chunks (z : Nat) (ag : Bool) : Nat → List AV → List AV
  | 0, _ => []
  | n + 1, cs => (if ag then .agg (cs.take z) else cs.getD 0 .und) :: chunks z ag n (cs.drop z)
theorem chunks_length (z : Nat) (ag : Bool) : ∀ (n : Nat) (cs : List AV), (chunks z ag n cs).length = n
  | 0, _ => rfl
  | n + 1, cs => by simp [chunks, chunks_length z ag n]
theorem chunks_get (z : Nat) (ag : Bool) : ∀ (n i : Nat) (cs : List AV), i < n → (chunks z ag n cs).getD i .und = if ag then .agg ((cs.drop (i * z)).take z) else cs.getD (i * z) .und
  | 0, _, _, h => by omega
  | n + 1, 0, cs, _ => by simp [chunks]
  | n + 1, i + 1, cs, h => by
    simp only [chunks, List.getD_cons_succ]
    rw [chunks_get z ag n i _ (by omega), List.drop_drop, Nat.succ_mul, Nat.add_comm z]
    congr 1
    rw [List.getD_eq_getElem?_getD, List.getD_eq_getElem?_getD, List.getElem?_drop, Nat.add_comm z]

theorem flat_get {w : World} {O : Nat → Prop} {g : Nat → List Value} {z n : Nat} {ag : Bool} (hz : ag = false → z = 1) {cs : List AV} {vs : Nat → Value} (hl : n * z ≤ cs.length)
    (hone : ag = false → ∀ c ∈ cs, c.cells = [c]) (h : ∀ j, j < n * z → Rep w O g (cs.getD j .und) (vs j)) {i j : Nat} (hi : i < n) (hj : j < z) :
    ((chunks z ag n cs).getD i .und).cells.length = z ∧ Rep w O g (((chunks z ag n cs).getD i .und).cells.getD j .und) (vs (i * z + j)) := by
  have hb : i * z + z ≤ n * z := by
    have := Nat.mul_le_mul_right z (show i + 1 ≤ n by omega)
    rwa [Nat.succ_mul] at this
  rw [chunks_get z ag n i cs hi]
  cases ag with
  | true =>
    simp only [if_true, cells_agg]
    refine ⟨by simp; omega, ?_⟩
    rw [getD_drop_take _ _ _ _ _ hj (by omega)]
    exact h _ (by omega)
  | false =>
    have hz1 := hz rfl
    subst hz1
    simp only [Bool.false_eq_true, if_false]
    have hc := hone rfl _ (getD_mem (d := .und) (show i * 1 < cs.length by omega))
    rw [hc]
    have : j = 0 := by omega
    subst this
    exact ⟨rfl, h _ (by omega)⟩

section
variable {C : Cx} {o : Oper} {T : Nat → AV} {H : Nat → Option ABox} {nx : Nat}

/-- cells that are all of one cell. -/
def ones (cs : List AV) : Bool := cs.all AV.one
theorem ones_cells {cs : List AV} (h : ones cs = true) : ∀ c ∈ cs, c.cells = [c] := by
  intro c hc
  have := List.all_eq_true.1 h c hc
  cases c <;> first | rfl | (simp [AV.one] at this)

theorem opS_buildSlice {t e z by_ len : Nat} {ag : Bool} {ps : Array (Nat × Operand)} {zs : List Value} (h : o.op = .buildSlice t len ps) (he : elI C.P t = some (e, z, by_, ag)) (hz : zI C.P e = some zs) (hzl : zs.length = z)
    (hlen : len * z ≤ 16777216) (hc : ∀ p ∈ ps.toList, (evO T p.2).cond = true)
    (hp : afP ((List.range len).map fun i => (i * z, z)) ((List.replicate len (zs.map avCell)).flatten) (ps.toList.map fun p => (p.1, ev T p.2)))
    (hone : ones (afV ((List.range len).map fun i => (i * z, z)) ((List.replicate len (zs.map avCell)).flatten) (ps.toList.map fun p => (p.1, ev T p.2))) = true)
    (hi : ∀ p ∈ ps.toList, p.1 < len) :
    OpS C o T H nx ⟨.ow nx 0, [(nx, .row e z 0 (chunks z ag len (afV ((List.range len).map fun i => (i * z, z)) ((List.replicate len (zs.map avCell)).flatten) (ps.toList.map fun p => (p.1, ev T p.2)))))], 1, []⟩ := by
  intro T' H' D g a w hr hT _ hn K Q hK
  obtain ⟨inf, k1, k2, k3, k4, k5, k6, k7⟩ := elI_some he
  obtain ⟨inf', z0, j1, j2, j3⟩ := zI_some hz
  rw [k2] at j1; injection j1 with j1; subst j1
  have hn0 : ¬ D nx := hn 0 (Nat.lt_succ_self 0)
  have hmem : ∀ p ∈ ps.toList, p.2 ∈ o.op.operands := fun p hp => by rw [h]; simp only [Op.operands]; simp; exact ⟨p.1, by simpa using hp⟩
  have hzc : z0.cells.size = z := by rw [← hzl, ← j3]; simp
  generalize hpl : ((List.range len).map fun i => (i * z, z)) = pl at hp hone ⊢
  generalize hcs : (List.replicate len (zs.map avCell)).flatten = cs0 at hp hone ⊢
  generalize hps : (ps.toList.map fun p => (p.1, ev T p.2)) = parts at hp hone ⊢
  have hcsl : cs0.length = len * z := by rw [← hcs]; simp [List.length_flatten, hzl]
  -- the cells as they begin
  have hz0 : ∀ m, m < len * z → ((Array.range (len * inf.size)).map (z0.cells[· % z0.cells.size]!)).getD m undef = zs.getD (m % z) undef := by
    intro m hm
    rw [k3, hzc]
    have hzp : 0 < z := by omega
    have hmod := Nat.mod_lt m hzp
    have e1 : ((Array.range (len * z)).map (z0.cells[· % z]!)).getD m undef = z0.cells[m % z]! := by
      rw [Array.getD_eq_getD_getElem?, Array.getElem?_map, Array.getElem?_range, if_pos hm]; rfl
    rw [e1, ← j3]
    have hlt : m % z < z0.cells.size := by omega
    rw [getElem!_pos z0.cells (m % z) hlt, List.getD_eq_getElem?_getD, Array.getElem?_toList, Array.getElem?_eq_getElem hlt]
    rfl
  have hcs0 : ∀ m, m < len * z → cs0.getD m .und = avCell (zs.getD (m % z) undef) := by
    intro m hm
    have hzp : 0 < z := by omega
    have hmod := Nat.mod_lt m hzp
    rw [← hcs]
    have hfl : ∀ (n : Nat) (m : Nat), m < n * z → ((List.replicate n (zs.map avCell)).flatten).getD m .und = avCell (zs.getD (m % z) undef) := by
      intro n
      induction n with
      | zero => intro m hm; omega
      | succ n ih =>
        intro m hm
        rw [List.replicate_succ, List.flatten_cons, List.getD_eq_getElem?_getD]
        by_cases hlt : m < z
        · rw [List.getElem?_append_left (by simp; omega), List.getElem?_map, Nat.mod_eq_of_lt hlt, List.getD_eq_getElem?_getD, List.getElem?_eq_getElem (by omega)]
          rfl
        · rw [List.getElem?_append_right (by simp; omega), ← List.getD_eq_getElem?_getD]
          simp only [List.length_map, hzl]
          rw [Nat.succ_mul] at hm
          have em := Nat.mod_eq_sub_mod (show m ≥ z by omega)
          rw [ih (m - z) (by omega), em]
    exact hfl len m hm
  obtain ⟨vs', hf, hs, hv⟩ := rep_fill (w := w) (O := Own C.O g H') (g := g) (pl := pl) parts (ps.toList.map fun p => (p.1, a.eval p.2)) cs0 ((Array.range (len * inf.size)).map (z0.cells[· % z0.cells.size]!)) (by rw [← hps]; simp) (fun j hj => by
      rw [← hps] at hj ⊢
      have hj' : j < ps.size := by simpa using hj
      have e1 : (ps.toList.map fun p => (p.1, ev T p.2)).getD j (0, .und) = (ps[j].1, ev T ps[j].2) := by rw [List.getD_eq_getElem?_getD, List.getElem?_map]; simp [hj']
      have e2 : (ps.toList.map fun p => (p.1, a.eval p.2)).getD j (0, undef) = (ps[j].1, a.eval ps[j].2) := by rw [List.getD_eq_getElem?_getD, List.getElem?_map]; simp [hj']
      rw [e1, e2]; exact one_rep hr (hT ps[j].2 (hmem _ (by simp))) (hc ps[j] (by simp))) (by rw [hcsl, k3]; simp) (fun m hm => by
      rw [hcsl] at hm
      rw [hz0 m hm, hcs0 m hm]; exact rep_avCell _ _ _ _) hp
  have hvl : (afV pl cs0 parts).length = len * z := by
    have hnext : ∀ (parts : List (Nat × AV)) (cs : List AV), afP pl cs parts → (afV pl cs parts).length = cs.length := by
      intro parts
      induction parts with
      | nil => intro cs _; rfl
      | cons p parts ih =>
        intro cs hp
        obtain ⟨i, v⟩ := p
        obtain ⟨hp0, hp⟩ := hp
        simp only [afV]
        rw [ih _ hp]
        split at hp0
        · rename_i off sz hpl'
          simp only [afNext, hpl', List.length_append, List.length_take, List.length_drop]; omega
        · exact hp0.elim
    rw [hnext parts cs0 hp, hcsl]
  have hfill : Instr.fill (fun i => some (i * inf.size, inf.size)) ((Array.range (len * inf.size)).map (z0.cells[· % z0.cells.size]!)) (ps.map fun p => (p.1, a.eval p.2)).toList = some vs' := by
    rw [← hf]
    have : (ps.map fun p => (p.1, a.eval p.2)).toList = ps.toList.map fun p => (p.1, a.eval p.2) := by simp
    rw [this]
    refine fill_congr _ _ fun p hpp => ?_
    simp only [List.mem_map] at hpp
    obtain ⟨q, hq, rfl⟩ := hpp
    have := hi q hq
    rw [← hpl, k3]
    simp [this]
  have hrun : (execOp a.eval o).run C.P w = .ok (.value (.slice (some ⟨w.heap.size, 0, none⟩) len len)) (w.alloc (.cells vs' e)) := by
    unfold execOp
    simp only [h, Instr.buildSlice, Sem.run_bind, run_underlying k1, Result.andThen_ok, run_sizeOf' k2]
    rw [if_neg (by rw [k3]; omega)]
    by_cases h0 : len * inf.size = 0
    · have hl0 : len = 0 := by
        rcases Nat.mul_eq_zero.1 h0 with h1 | h1
        · exact h1
        · omega
      subst hl0
      simp only [Nat.zero_mul] at hfill ⊢
      simp only [if_true, Sem.run_bind, Sem.run_pure, Result.andThen_ok]
      have e0 : ((Array.range 0).map fun (x : Nat) => (#[] : Array Value)[x % (#[] : Array Value).size]!) = (Array.range 0).map (z0.cells[· % z0.cells.size]!) := by simp
      rw [e0, hfill]
      rfl
    · rw [if_neg h0]
      simp only [Sem.run_bind, run_zeroValue k2 j2, Sem.run_pure, Result.andThen_ok, hfill, newRow, newObj]
      rfl
  have hgn : ∀ (gl : List Value), (updF g nx gl) nx = gl := fun gl => updF_same _ _ _
  have hrel := hr.newown (x0 := .row e z 0 (chunks z ag len (afV pl cs0 parts))) (gl := [.slice (some ⟨w.heap.size, 0, none⟩) len len]) (w' := w.alloc (.cells vs' e)) hn0 ⟨rfl, rfl, rfl, by simp, fun k hk _ => Below.heap_alloc w _ k hk, Nat.le_refl _⟩ (fun k hk => by
    have : k = w.heap.size := by
      cases len with
      | zero => simp [ownBlk, updF, rowBlk] at hk
      | succ len => simpa [ownBlk, updF, rowBlk] using hk.symm
    subst this; exact ⟨Nat.le_refl _, by simp⟩) (fun hl hx => by
    refine ⟨.slice (some ⟨w.heap.size, 0, none⟩) len len, vs'.toList, by simp [updF], by simp [updF], .of_owns ⟨by rw [chunks_length]; simp; omega, .inr ⟨w.heap.size, len, vs', by rw [chunks_length], Nat.zero_le _, heap_alloc_new w _, by rw [chunks_length]; exact Nat.le_refl _, ?_, by omega, ?_⟩⟩, ?_, ?_⟩
    · have hzp : 0 < z := by omega
      have : len ≤ len * z := Nat.le_mul_of_pos_right len hzp
      unfold maxLen; omega
    · rw [chunks_length, List.take_of_length_le]; simp; omega
    · intro x hx'
      obtain ⟨i, hi', rfl⟩ := List.mem_iff_getElem.1 hx'
      have hi2 : i < len := by rw [chunks_length] at hi'; exact hi'
      have hzp : 0 < z := by omega
      have := (flat_get (w := w) (O := Own C.O g H') (g := g) (vs := fun j => vs'.getD j undef) k7 (by omega) (fun _ => ones_cells hone) (fun j hj => hv j (by omega)) hi2 hzp).1
      rwa [List.getD_eq_getElem?_getD, List.getElem?_eq_getElem hi'] at this
    · intro i hi' j hj
      have hi2 : i < len := by rw [chunks_length] at hi'; exact hi'
      have := (flat_get (w := w) (O := Own C.O g H') (g := g) (vs := fun j => vs'.getD j undef) k7 (by omega) (fun _ => ones_cells hone) (fun j hj => hv j (by omega)) hi2 hj).2
      have e2 : vs'.toList.getD (i * z + j) undef = vs'.getD (i * z + j) undef := by rw [List.getD_eq_getElem?_getD, Array.getD_eq_getD_getElem?, Array.getElem?_toList]
      rw [e2]
      exact this.later hl hx)
  subst hpl; subst hcs; subst hps
  refine wp_of_value hrun (hK _ _ _ (hrel.dmono fun b hb => ?_) (.ow nx 0 _ _ _ (by simp [updF])))
  rcases hb with hb | rfl
  · exact .inl hb
  · exact .inr ⟨Nat.le_refl _, Nat.lt_succ_self _⟩

/-- a slice to append from: its elements, the boxes that are looked at. -/
def asrc (H : Nat → Option ABox) : AV → Option (List AV × List Nat)
  | .sl es => some (es, [])
  | .e0 => some ([], [])
  | .ow b ver => match H b with
    | some .nl => if ver = 0 then some ([], [b]) else none
    | some (.row _ _ ver' es) => if ver = ver' then some (es, [b]) else none
    | _ => none
  | _ => none

theorem rep_asrc {T' : Nat → AV} {H' : Nat → Option ABox} {D : Nat → Prop} {g : Nat → List Value} {a : Act} {w : World} {v : AV} {val : Value} {es : List AV} {rb : List Nat} {z : Nat}
    (hr : Rel C T' H' D g a w) (hH : ∀ b ∈ rb, H' b = H b) (hv : Rep w (Own C.O g H') g v val) (h : asrc H v = some (es, rb)) (hz : ∀ e ∈ es, e.cells.length = z) :
    ∃ (a0 : Option Addr) (c : Nat) (news : List Value), val = .slice a0 es.length c ∧ news.length = es.length * z ∧ (0 < es.length → ∃ ad, a0 = some ad ∧ ∀ j u, news[j]? = some u → w.cell? (ad.add j) = some u) ∧
      ∀ i, i < es.length → ∀ j, j < z → Rep w (Own C.O g H') g ((es.getD i .und).cells.getD j .und) (news.getD (i * z + j) undef) := by
  unfold asrc at h
  split at h
  · simp only [Option.some.injEq, Prod.mk.injEq] at h
    obtain ⟨rfl, rfl⟩ := h
    rename_i es
    obtain ⟨a0, cap, hv, hrest⟩ := hv.sl_inv
    by_cases h0 : 0 < es.length
    · obtain ⟨hcap, z', blk, off, f, rfl, hzz, hO, hlt, h1, h2⟩ := hrest h0
      have : z' = z := by rw [← hz _ (getD_mem (d := .und) h0), hzz _ (getD_mem h0)]
      subst this
      refine ⟨_, cap, (List.range (es.length * z')).map f, hv, by simp, fun _ => ⟨_, rfl, fun j u hu => ?_⟩, fun i hi j hj => ?_⟩
      · rw [List.getElem?_map] at hu
        have hlt : j < es.length * z' := by
          rcases Nat.lt_or_ge j (es.length * z') with hl | hl
          · exact hl
          · rw [List.getElem?_eq_none (by simpa using hl)] at hu; simp at hu
        rw [add_addr, h1 j hlt]
        rw [List.getElem?_range hlt] at hu
        simpa using hu
      · have hb : i * z' + j < es.length * z' := by
          have := Nat.mul_le_mul_right z' (show i + 1 ≤ es.length by omega)
          rw [Nat.succ_mul] at this; omega
        have := h2 i hi j hj
        rw [List.getD_eq_getElem?_getD (l := List.map f _), List.getElem?_map, List.getElem?_range hb]
        exact this
    · have : es = [] := List.eq_nil_of_length_eq_zero (by omega)
      subst this
      exact ⟨a0, cap, [], hv, by simp, fun h => absurd h h0, fun i hi => by simp at hi⟩
  · simp only [Option.some.injEq, Prod.mk.injEq] at h
    obtain ⟨rfl, rfl⟩ := h
    obtain ⟨a0, hv⟩ := hv.e0_inv
    exact ⟨a0, 0, [], hv, by simp, fun h => by simp at h, fun i hi => by simp at hi⟩
  · rename_i b ver
    obtain ⟨a0, m, c, hv', hg⟩ := hv.ow_inv
    split at h
    · rename_i hb
      split at h
      · simp only [Option.some.injEq, Prod.mk.injEq] at h
        obtain ⟨rfl, rfl⟩ := h
        have hbr := hr.bx b .nl ((hH b (by simp)).trans hb)
        rename_i h0; subst h0
        have hg' : g b = [.slice none 0 0] := hbr
        rw [hg'] at hg
        simp only [List.getElem?_cons_zero, Option.some.injEq, Value.slice.injEq] at hg
        obtain ⟨rfl, rfl, rfl⟩ := hg
        exact ⟨none, 0, [], hv', by simp, fun h => by simp at h, fun i hi => by simp at hi⟩
      · cases h
    · rename_i e z0 ver' es' hb
      split at h
      · simp only [Option.some.injEq, Prod.mk.injEq] at h
        obtain ⟨rfl, rfl⟩ := h
        rename_i h0; subst h0
        obtain ⟨sv, xs, h1, h2, h3, h4, h5⟩ := hr.bx b _ ((hH b (by simp)).trans hb)
        rw [hg] at h1
        injection h1 with h1
        subst h1
        by_cases hp : 0 < es'.length
        · have hzz : z0 = z := by rw [← hz _ (getD_mem (d := .und) hp), h4 _ (getD_mem hp)]
          subst hzz
          rcases h3.to_owns with h3 | ⟨hn, _⟩
          · rcases h3.2 with ⟨hs, hn⟩ | ⟨gg, cap, cur, hs, _, hh, hcap, _, hsz, htk⟩
            · omega
            · injection hs with e1 e2 e3
              subst e1; subst e2; subst e3
              refine ⟨_, _, xs, hv', h3.1, fun _ => ⟨_, rfl, fun j u hu => ?_⟩, h5⟩
              exact h3.cells (g := gg) rfl j u hu
          · omega
        · have hes : es' = [] := List.eq_nil_of_length_eq_zero (by omega)
          subst hes
          have hx : xs = [] := List.eq_nil_of_length_eq_zero (by rw [h3.1]; simp)
          obtain ⟨_, _, hs, _⟩ := h3.slice
          injection hs with e1 e2 e3
          subst e1; subst e2; subst e3
          exact ⟨_, _, [], hv', by simp, fun h => by simp at h, fun i hi => by simp at hi⟩
      · cases h
    · cases h
  · cases h

theorem run_append_to {P : Program} (w : World) {t ty e z bytes : Nat} {ag : Bool} {zs : List Value} (he : elI P t = some (e, z, bytes, ag)) (hz : zI P e = some zs) (hzl : zs.length = z) (v : Value) (n : Nat) (xs : List Value) (hown : w.ownsRow 0 e z v n xs)
    (a0 : Option Addr) (m c : Nat) (news : List Value) (hl : news.length = m * z) (hcell : 0 < m → ∃ ad, a0 = some ad ∧ ∀ j u, news[j]? = some u → w.cell? (ad.add j) = some u) (h1 : ∀ u ∈ news, u.oneCell' = true)
    (h63 : n + m ≤ maxLen) (hbytes : (n + m) * bytes ≤ 140737488355328) :
    ∃ v' w', (Builtin.append_ #[t, t] ty #[v, .slice a0 m c]).run P w = .ok v' w' ∧ w'.ownsRow 0 e z v' (n + m) (xs ++ news) ∧ w.grownBy w' v.ownBlock ∧ (v'.ownBlock = v.ownBlock ∨ v'.ownBlock = some w.heap.size) := by
  obtain ⟨i, k1, k2, k3, k4, k5, k6, k7⟩ := elI_some he
  obtain ⟨i', z0, j1, j2, j3⟩ := zI_some hz
  rw [k2] at j1; injection j1 with j1; subst j1
  have hzs : z0.cells.size = z := by rw [← hzl, ← j3]; simp
  have hnil : m = 0 → news = [] := fun h0 => List.eq_nil_of_length_eq_zero (by rw [hl, h0]; simp)
  cases a0 with
  | none =>
    have hm : m = 0 := by
      rcases Nat.eq_zero_or_pos m with h0 | h0
      · exact h0
      · obtain ⟨ad, h, _⟩ := hcell h0; cases h
    have hn := hnil hm
    subst hm; subst hn
    refine ⟨v, w, ?_, by simpa using hown, World.grownBy.refl w _, .inl rfl⟩
    rcases hown.2 with ⟨rfl, rfl⟩ | ⟨g, cap, cur, rfl, _, _, hnc, _⟩
    · simp [Builtin.append_, run_underlying k1, sizeOf, typeInfo, k2, Builtin.lenOf, Builtin.firstCells]
    · simp [Builtin.append_, run_underlying k1, sizeOf, typeInfo, k2, Builtin.lenOf, Builtin.firstCells, hnc, storeCells]
  | some ad =>
    have hcells : ∀ (j : Nat) (u : Value), news[j]? = some u → w.cell? (ad.add j) = some u := by
      intro j u hu
      rcases Nat.eq_zero_or_pos m with h0 | h0
      · rw [hnil h0] at hu; simp at hu
      · obtain ⟨ad', h, hc⟩ := hcell h0
        injection h with h
        subst h
        exact hc j u hu
    obtain ⟨v', w', hrun, h2, h3, _, h5⟩ := run_append_own_at (P := P) w 0 t ty e i z0 z bytes k1 k2 j2 k3 k4 hzs (by omega) v n xs hown ad m c news hl hcells h1 h63 hbytes (Nat.zero_le _)
    exact ⟨v', w', hrun, h2, h3, h5⟩

/-- append onto a slice without room. -/
theorem run_append_e0 {P : Program} (w : World) {t ty e z bytes : Nat} {ag : Bool} {zs : List Value} (he : elI P t = some (e, z, bytes, ag)) (hz : zI P e = some zs) (hzl : zs.length = z) (b0 : Option Addr)
    (a0 : Option Addr) (m c : Nat) (news : List Value) (hl : news.length = m * z) (hcell : 0 < m → ∃ ad, a0 = some ad ∧ ∀ j u, news[j]? = some u → w.cell? (ad.add j) = some u) (h1 : ∀ u ∈ news, u.oneCell' = true)
    (h63 : m ≤ maxLen) (hbytes : m * bytes ≤ 140737488355328) :
    ∃ v' w', (Builtin.append_ #[t, t] ty #[.slice b0 0 0, .slice a0 m c]).run P w = .ok v' w' ∧ rowOk w' e z v' m news ∧ w.grownBy w' none ∧ (∀ k, v'.ownBlock = some k → (0 < m → w.heap.size ≤ k ∧ k < w'.heap.size)) ∧ (m = 0 → v' = .slice b0 0 0) := by
  obtain ⟨i, k1, k2, k3, k4, k5, k6, k7⟩ := elI_some he
  obtain ⟨i', z0, j1, j2, j3⟩ := zI_some hz
  rw [k2] at j1; injection j1 with j1; subst j1
  have hzs : z0.cells.size = z := by rw [← hzl, ← j3]; simp
  rcases Nat.eq_zero_or_pos m with h0 | h0
  · subst h0
    have hn : news = [] := List.eq_nil_of_length_eq_zero (by rw [hl]; simp)
    subst hn
    refine ⟨.slice b0 0 0, w, ?_, .empty w e z b0, World.grownBy.refl w _, fun _ _ h => absurd h (by omega), fun _ => rfl⟩
    cases a0 with
    | none => cases b0 <;> simp [Builtin.append_, run_underlying k1, sizeOf, typeInfo, k2, Builtin.lenOf, Builtin.firstCells, storeCells]
    | some ad =>
      have hfc := run_firstCells_some (P := P) w i.size 0 ad 0 c [] (by simp) (fun j u h => by simp at h)
      cases b0 <;> simp [Builtin.append_, run_underlying k1, sizeOf, typeInfo, k2, Builtin.lenOf, hfc, storeCells]
  · obtain ⟨ad, rfl, hc⟩ := hcell h0
    cases b0 with
    | none =>
      obtain ⟨v', w', hrun, h2, h3, _, h5⟩ := run_append_own_at (P := P) w 0 t ty e i z0 z bytes k1 k2 j2 k3 k4 hzs (by omega) (.slice none 0 0) 0 [] (World.ownsRow_nil w 0 e z) ad m c news hl hc h1 (by omega) (by simpa using hbytes) (Nat.zero_le _)
      refine ⟨v', w', hrun, by simpa using rowOk.of_owns h2, h3, fun k hk _ => ⟨?_, ?_⟩, fun h => by omega⟩
      · rcases h5 with e1 | e1
        · rw [e1] at hk; cases hk
        · rw [e1] at hk; injection hk with hk; omega
      · exact (h2.lt k hk).2
    | some b =>
      obtain ⟨v', w', hrun, h2, h3⟩ := run_append_arg_grows (P := P) w t ty e i z0 z bytes k1 k2 j2 k3 k4 hzs (by omega) b 0 0 [] (by simp) (fun j u h => by simp at h) ad m c news hl hc (by omega) (by omega) (by simpa using hbytes)
      have h2' : w'.ownsRow 0 e z v' (0 + m) ([] ++ news) := by
        refine ⟨h2.1, ?_⟩
        rcases h2.2 with h | ⟨g, cap, cur, e1, _, h⟩
        · exact .inl h
        · exact .inr ⟨g, cap, cur, e1, Nat.zero_le _, h⟩
      exact ⟨v', w', hrun, by simpa using rowOk.of_owns h2', h3, fun k hk _ => h2.lt k hk, fun h => by omega⟩
theorem run_append_row {P : Program} (w : World) {t ty e z bytes : Nat} {ag : Bool} {zs : List Value} (he : elI P t = some (e, z, bytes, ag)) (hz : zI P e = some zs) (hzl : zs.length = z) (v : Value) (n : Nat) (xs : List Value) (hown : rowOk w e z v n xs)
    (a0 : Option Addr) (m c : Nat) (news : List Value) (hl : news.length = m * z) (hcell : 0 < m → ∃ ad, a0 = some ad ∧ ∀ j u, news[j]? = some u → w.cell? (ad.add j) = some u) (h1 : ∀ u ∈ news, u.oneCell' = true)
    (h63 : n + m ≤ maxLen) (hbytes : (n + m) * bytes ≤ 140737488355328) :
    ∃ v' w', (Builtin.append_ #[t, t] ty #[v, .slice a0 m c]).run P w = .ok v' w' ∧ rowOk w' e z v' (n + m) (xs ++ news) ∧ w.grownBy w' (rowBlk v) ∧ ∀ k, rowBlk v' = some k → rowBlk v = some k ∨ (w.heap.size ≤ k ∧ k < w'.heap.size) := by
  rcases hown.2 with ⟨rfl, b0, rfl⟩ | ⟨g, cap, cur, hv, h2, h3, h4, h5, h6⟩
  · have hx : xs = [] := List.eq_nil_of_length_eq_zero (by rw [hown.1]; simp)
    subst hx
    obtain ⟨v', w', r1, r2, r3, r4, r5⟩ := run_append_e0 (P := P) (ty := ty) w he hz hzl b0 a0 m c news hl hcell h1 (by omega) (by simpa using hbytes)
    have e0 : rowBlk (.slice b0 0 0) = none := by cases b0 <;> rfl
    refine ⟨v', w', r1, by simpa using r2, by rw [e0]; exact r3, fun k hk => .inr ?_⟩
    rcases Nat.eq_zero_or_pos m with h0 | h0
    · rw [r5 h0, e0] at hk; cases hk
    · exact r4 k (rowBlk_own hk) h0
  · have ho : w.ownsRow 0 e z v n xs := ⟨hown.1, .inr ⟨g, cap + 1, cur, hv, Nat.zero_le _, h2, h3, h4, h5, h6⟩⟩
    obtain ⟨v', w', r1, r2, r3, r4⟩ := run_append_to (P := P) (ty := ty) w he hz hzl v n xs ho a0 m c news hl hcell h1 h63 hbytes
    have e0 : rowBlk v = v.ownBlock := by rw [hv]; rfl
    refine ⟨v', w', r1, .of_owns r2, by rw [e0]; exact r3, fun k hk => ?_⟩
    have hk' := rowBlk_own hk
    rcases r4 with r4 | r4
    · left; rw [e0, ← r4]; exact hk'
    · right
      rw [r4] at hk'; injection hk' with hk'
      exact ⟨by omega, (r2.lt k (by rw [r4, hk'])).2⟩

/-- append onto a slice of one's own. -/
theorem opS_append {t e z by_ b ver ver0 : Nat} {ag : Bool} {x y : Operand} {zs : List Value} {es0 es : List AV} {rb : List Nat} {x0 : ABox} (h : o.op = .call { callee := .builtin .append, args := #[x, y], argTypes := #[t, t] })
    (hc : (evO T x).cond = true) (hc' : (evO T y).cond = true) (hx : ev T x = .ow b ver) (hb : H b = some x0) (hx0 : (x0 = .nl ∧ ver = 0 ∧ es0 = [] ∧ ver0 = 1) ∨ (x0 = .row e z ver es0 ∧ ver0 = ver + 1))
    (hy : asrc H (ev T y) = some (es, rb)) (he : elI C.P t = some (e, z, by_, ag)) (hz : zI C.P e = some zs) (hzl : zs.length = z) (hes : ∀ v ∈ es, v.cells.length = z ∧ ∀ c ∈ v.cells, c.one = true)
    (h63 : es0.length + es.length ≤ maxLen) (hbytes : (es0.length + es.length) * by_ ≤ 140737488355328) :
    OpS C o T H nx ⟨.ow b ver0, [(b, .row e z ver0 (es0 ++ es))], 0, b :: rb⟩ := by
  intro T' H' D g a w hr hT hH _ K Q hK
  have r1 := one_rep hr (hT x (by simp [h, Op.operands, Call.operands])) hc
  have r2 := one_rep hr (hT y (by simp [h, Op.operands, Call.operands])) hc'
  rw [hx] at r1
  obtain ⟨a1, n1, c1, hv1, hg1⟩ := r1.ow_inv
  have hzz : ∀ v ∈ es, v.cells.length = z := fun v hv => (hes v hv).1
  obtain ⟨a0, c, news, hv2, hnl, hcell, hnr⟩ := rep_asrc (H := H) hr (fun b' hb' => hH b' (List.mem_cons_of_mem _ hb')) r2 hy hzz
  have hb' : H' b = some x0 := (hH b (List.mem_cons_self ..)).trans hb
  obtain ⟨i, k1, k2, k3, k4, k5, k6, k7⟩ := elI_some he
  have hzp : 0 < z := by omega
  -- what the row is before
  have hrow : ∃ xs, (g b).length = ver0 ∧ rowOk w e z (.slice a1 n1 c1) es0.length xs ∧ (∀ a ∈ es0, a.cells.length = z) ∧ ownBlk g b x0 = rowBlk (Value.slice a1 n1 c1) ∧
      ∀ i, i < es0.length → ∀ j, j < z → Rep w (Own C.O g H') g ((es0.getD i .und).cells.getD j .und) (xs.getD (i * z + j) undef) := by
    have hbr := hr.bx b x0 hb'
    rcases hx0 with ⟨rfl, rfl, rfl, rfl⟩ | ⟨rfl, rfl⟩
    · have hg' : g b = [.slice none 0 0] := hbr
      rw [hg'] at hg1
      simp only [List.getElem?_cons_zero, Option.some.injEq, Value.slice.injEq] at hg1
      obtain ⟨rfl, rfl, rfl⟩ := hg1
      exact ⟨[], by rw [hg']; rfl, .empty w e z none, fun a ha => by simp at ha, rfl, fun i hi => by simp at hi⟩
    · obtain ⟨sv, xs, h1, h2, h3, h4, h5⟩ := hbr
      rw [hg1] at h1
      injection h1 with h1
      subst h1
      exact ⟨xs, h2, h3, h4, by simp only [ownBlk, hg1], h5⟩
  obtain ⟨xs, hgl, hown, h4, hobk, h5⟩ := hrow
  have h1 : ∀ u ∈ news, u.oneCell' = true := by
    intro u hu
    obtain ⟨j, hj, rfl⟩ := List.mem_iff_getElem.1 hu
    have hdiv : j / z < es.length := by rw [Nat.div_lt_iff_lt_mul hzp]; omega
    have hmod := Nat.mod_lt j hzp
    have hjj : j / z * z + j % z = j := by rw [Nat.mul_comm]; exact Nat.div_add_mod j z
    have hrep := hnr (j / z) hdiv (j % z) hmod
    rw [hjj, List.getD_eq_getElem?_getD (l := news), List.getElem?_eq_getElem hj] at hrep
    have hm := getD_mem (d := .und) hdiv
    exact hrep.oneCell ((hes _ hm).2 _ (getD_mem (by rw [hzz _ hm]; exact hmod)))
  obtain ⟨v', w', hrun, ho', hgr, hnb⟩ := run_append_row (ty := o.type) w he hz hzl (.slice a1 n1 c1) es0.length xs hown a0 es.length c news hnl hcell h1 h63 hbytes
  have hrun' : (execOp a.eval o).run C.P w = .ok (.value v') w' := by
    unfold execOp
    simp only [h, resolve, invoke, builtin, Sem.run_bind, Sem.run_pure, Result.andThen_ok, List.map_toArray, List.map_cons, List.map_nil, hv1, hv2, hrun]
  have hsl : ∃ a2 n2 c2, v' = .slice a2 n2 c2 := by
    obtain ⟨a2, c2, h, _⟩ := ho'.slice
    exact ⟨_, _, _, h⟩
  obtain ⟨a2, n2, c2, rfl⟩ := hsl
  have hget : ((updF g b (g b ++ [Value.slice a2 n2 c2])) b)[ver0]? = some (.slice a2 n2 c2) := by
    rw [updF_same, List.getElem?_append_right (by omega), hgl]; simp
  have hob1 : ownBlk (updF g b (g b ++ [Value.slice a2 n2 c2])) b (.row e z ver0 (es0 ++ es)) = rowBlk (Value.slice a2 n2 c2) := by
    simp only [ownBlk, hget]
  have hrel := hr.regrow (x1 := .row e z ver0 (es0 ++ es)) (v' := .slice a2 n2 c2) hb' (by rw [hobk]; exact hgr) (run_drawn hrun) (by
    rw [hob1, hobk]
    exact hnb) (fun hl hxt => by
    refine ⟨.slice a2 n2 c2, xs ++ news, hget, by rw [updF_same]; simp [hgl], by rw [List.length_append]; exact ho', fun v hv => ?_, fun i hi j hj => ?_⟩
    · rcases List.mem_append.1 hv with hv | hv
      · exact h4 v hv
      · exact hzz v hv
    · rw [List.length_append] at hi
      have hxl : xs.length = es0.length * z := hown.1
      by_cases hlt : i < es0.length
      · have hb : i * z + j < xs.length := by
          have := Nat.mul_le_mul_right z (show i + 1 ≤ es0.length by omega)
          rw [Nat.succ_mul] at this; omega
        rw [List.getD_eq_getElem?_getD (l := es0 ++ es), List.getElem?_append_left hlt, ← List.getD_eq_getElem?_getD, List.getD_eq_getElem?_getD (l := xs ++ news), List.getElem?_append_left hb, ← List.getD_eq_getElem?_getD]
        exact (h5 i hlt j hj).later hl hxt
      · have hge : es0.length ≤ i := by omega
        have hbb : xs.length ≤ i * z + j := by
          have := Nat.mul_le_mul_right z hge
          omega
        have hsub : i * z + j - xs.length = (i - es0.length) * z + j := by
          have := Nat.mul_le_mul_right z hge
          rw [hxl, Nat.sub_mul]; omega
        rw [List.getD_eq_getElem?_getD (l := es0 ++ es), List.getElem?_append_right hge, ← List.getD_eq_getElem?_getD, List.getD_eq_getElem?_getD (l := xs ++ news), List.getElem?_append_right hbb, hsub, ← List.getD_eq_getElem?_getD]
        exact (hnr (i - es0.length) (by omega) j hj).later hl hxt)
  exact wp_of_value hrun' (hK _ w' _ (hrel.dmono fun b hb => .inl hb) (.ow b ver0 a2 n2 c2 hget))

/-- a slice held against nil. -/
theorem opS_nilcmp {op : BinOp} {t t' : TypeId} {x : Operand} {es : List AV} {rb : List Nat} {e z by_ : Nat} {ag : Bool} (h : o.op = .binOp op t x (.const (.slice none 0 0)) t') (hop : op = .eql ∨ op = .neq) (hc : (evO T x).cond = true)
    (hx : asrc H (ev T x) = some (es, rb)) (he : elI C.P t = some (e, z, by_, ag)) (hes : ∀ v ∈ es, v.cells.length = z) :
    OpS C o T H nx ⟨.nb (decide (0 < es.length)) (if op = .eql then false else true), [], 0, rb⟩ := by
  refine opS_pure fun T' H' D g a w hr hT hH => ?_
  have r1 := one_rep hr (hT x (by simp [h, Op.operands])) hc
  obtain ⟨a0, c, news, hv, _, hcell, _⟩ := rep_asrc (H := H) hr hH r1 hx hes
  obtain ⟨i, k1, _⟩ := elI_some he
  have hsome : 0 < es.length → a0.isNone = false := fun h0 => by obtain ⟨ad, rfl, _⟩ := hcell h0; rfl
  have heg : (eqGuard op t x (.const (.slice none 0 0)) (.slice a0 es.length c) (.slice none 0 0)).run C.P w = .ok () w := by
    unfold eqGuard; rcases hop with rfl | rfl <;> rfl
  have hcv : a.eval (.const (.slice none 0 0)) = .slice none 0 0 := rfl
  rcases hop with rfl | rfl
  · refine ⟨.bool a0.isNone, ?_, .nb _ _ _ (fun hk => ?_)⟩
    · unfold execOp
      simp only [h, hv, hcv, Sem.run_bind, heg, Result.andThen_ok, Lib.run_eql_slice_nil w t e a0 es.length c 0 0 k1, Sem.run_pure]
    · simp only [if_true]; exact hsome (by simpa using hk)
  · refine ⟨.bool (!a0.isNone), ?_, .nb _ _ _ (fun hk => ?_)⟩
    · have hq := Lib.run_eql_slice_nil w t e a0 es.length c 0 0 k1
      simp only [binOp, Sem.run_bind, Sem.run_pure] at hq
      unfold execOp
      simp only [h, hv, hcv, Sem.run_bind, heg, Result.andThen_ok, binOp, Sem.run_pure]
      cases hq' : (Op.equal t (.slice a0 es.length c) (.slice none 0 0)).run C.P w with
      | ok b w' =>
        rw [hq'] at hq
        simp only [Result.andThen_ok, Result.ok.injEq, Value.bool.injEq] at hq
        obtain ⟨rfl, rfl⟩ := hq
        rfl
      | halt x w' => rw [hq'] at hq; cases hq
    · rw [hsome (by simpa using hk)]; rfl

def bnd (T : Nat → AV) : Option Operand → Nat → Option Int
  | none, d => some d
  | some x, _ => match ev T x with
    | .sc (.int _ n) => some n
    | _ => none
def bndc (T : Nat → AV) : Option Operand → Prop
  | none => True
  | some x => (evO T x).cond = true

theorem rep_subslice {w : World} {O : Nat → Prop} {g : Nat → List Value} {es : List AV} {a0 : Option Addr} {cap z L M : Nat} (h : Rep w O g (.sl es) (.slice a0 es.length cap)) (hes : ∀ v ∈ es, v.cells.length = z) (h1 : L ≤ M) (h2 : M ≤ es.length) :
    Rep w O g (.sl ((es.take M).drop L)) (.slice (if cap = L then a0 else a0.map (·.add (L * z))) (M - L) (cap - L)) := by
  obtain ⟨a1, cap1, hv, hrest⟩ := h.sl_inv
  injection hv with e1 _ e3
  subst e1; subst e3
  have hlen : ((es.take M).drop L).length = M - L := by simp; omega
  by_cases hpos : L < M
  · have hpe : 0 < es.length := by omega
    obtain ⟨hcap, z', blk, off, f, rfl, hzz, hO, hlt, c1, c2⟩ := hrest hpe
    have : z' = z := by rw [← hes _ (getD_mem (d := .und) hpe), hzz _ (getD_mem hpe)]
    subst this
    have hne : ¬ cap = L := by omega
    have hmul : L * z' + (M - L) * z' ≤ es.length * z' := by
      rw [← Nat.add_mul]; exact Nat.mul_le_mul_right _ (by omega)
    have hget : ∀ i, i < M - L → ((es.take M).drop L).getD i .und = es.getD (L + i) .und := by
      intro i hi
      rw [List.getD_eq_getElem?_getD, List.getElem?_drop, List.getElem?_take, if_pos (by omega), List.getD_eq_getElem?_getD]
    simp only [hne, if_false, Option.map_some, add_addr, ← hlen]
    refine .sl1 z' _ blk (off + L * z') (cap - L) (fun i => f (L * z' + i)) (by rw [hlen]; omega) (fun e he => ?_) hO hlt (fun i hi => ?_) (fun i hi j hj => ?_)
    · exact hzz e (List.mem_of_mem_take (List.mem_of_mem_drop he))
    · rw [hlen] at hi; rw [Nat.add_assoc]; exact c1 _ (by omega)
    · rw [hlen] at hi
      rw [hget i hi, show L * z' + (i * z' + j) = (L + i) * z' + j by rw [Nat.add_mul]; omega]
      exact c2 _ (by omega) j hj
  · have hnil : (es.take M).drop L = [] := List.eq_nil_of_length_eq_zero (by omega)
    have h0' : M - L = 0 := by omega
    rw [hnil, h0']
    exact .sl0 _ _

/-- a part of a slice of content. -/
theorem opS_slice {t e z by_ : Nat} {ag : Bool} {x : Operand} {lo hi : Option Operand} {es : List AV} {l m : Int} (h : o.op = .slice t x lo hi none) (hc : (evO T x).cond = true) (hx : ev T x = .sl es) (he : elI C.P t = some (e, z, by_, ag))
    (hlo : bnd T lo 0 = some l) (hhi : bnd T hi es.length = some m) (hcl : bndc T lo) (hch : bndc T hi) (h0 : 0 ≤ l) (h1 : l ≤ m) (h2 : m ≤ es.length) (hes : ∀ v ∈ es, v.cells.length = z) :
    OpS C o T H nx ⟨.sl ((es.take m.toNat).drop l.toNat), [], 0, []⟩ := by
  refine opS_pure fun T' H' D g a w hr hT hH => ?_
  have r1 := one_rep hr (hT x (by simp [h, Op.operands])) hc
  rw [hx] at r1
  obtain ⟨a0, cap, hv, hrest⟩ := r1.sl_inv
  have r1' := r1
  rw [hv] at r1'
  obtain ⟨i, k1, k2, k3, k4, k5, k6, k7⟩ := elI_some he
  have hcap : es.length ≤ cap ∨ es.length = 0 := by
    rcases Nat.eq_zero_or_pos es.length with h0 | h0
    · exact .inr h0
    · exact .inl (hrest h0).1
  have hcap' : es.length ≤ cap := by rcases hcap with h | h <;> omega
  have bv : ∀ (y : Option Operand) (d : Nat) (n : Int), bnd T y d = some n → bndc T y → (∀ z, y = some z → z ∈ o.op.operands) → (y = none ∧ n = d) ∨ ∃ z k, y = some z ∧ a.eval z = .int k n := by
    intro y d n hb hcy hmem
    cases y with
    | none => simp only [bnd, Option.some.injEq] at hb; exact .inl ⟨rfl, hb.symm⟩
    | some z =>
      have r := one_rep hr (hT z (hmem z rfl)) hcy
      simp only [bnd] at hb
      split at hb
      · rename_i k n' hz
        simp only [Option.some.injEq] at hb
        subst hb
        rw [hz] at r
        exact .inr ⟨z, k, rfl, r.sc_inv⟩
      · cases hb
  have hl := bv lo 0 l hlo hcl (fun z hz => by rw [h, hz]; simp [Op.operands])
  have hh := bv hi es.length m hhi hch (fun z hz => by rw [h, hz]; simp [Op.operands])
  have hml : m.toNat ≤ cap := by omega
  have hbounds : (Instr.sliceBounds true es.length cap (lo.map a.eval) (hi.map a.eval) none).run C.P w = .ok (l.toNat, m.toNat, cap) w := by
    have hsb : ∀ (k : IntKind) (n : Int) (y : Nat) (code : BoundsCode), 0 ≤ n → n ≤ y → (Instr.sliceBound (.int k n) y code).run C.P w = .ok n.toNat w := by
      intro k n y code hn0 hn1
      simp only [Instr.sliceBound, asIntOf, Sem.run_bind, Sem.run_pure, Result.andThen_ok]
      rw [if_pos ⟨hn0, hn1⟩]; rfl
    rcases hl with ⟨rfl, rfl⟩ | ⟨zl, kl, rfl, hzl⟩ <;> rcases hh with ⟨rfl, rfl⟩ | ⟨zh, kh, rfl, hzh⟩
    · simp [Instr.sliceBounds]
    · simp [Instr.sliceBounds, hzh, hsb kh m cap _ (by omega) (by omega)]
    · simp [Instr.sliceBounds, hzl, hsb kl l es.length _ h0 h1]
    · simp [Instr.sliceBounds, hzl, hzh, hsb kh m cap _ (by omega) (by omega), hsb kl l m.toNat _ h0 (by omega)]
  have hrun : (execOp a.eval o).run C.P w = .ok (.value (.slice (if cap = l.toNat then a0 else a0.map (·.add (l.toNat * z))) (m.toNat - l.toNat) (cap - l.toNat))) w := by
    have hsl : (Instr.slice t (.slice a0 es.length cap) (lo.map a.eval) (hi.map a.eval) none).run C.P w = .ok (.slice (if cap = l.toNat then a0 else a0.map (·.add (l.toNat * z))) (m.toNat - l.toNat) (cap - l.toNat)) w := by
      unfold Instr.slice
      simp only [Sem.run_bind, run_underlying k1, Result.andThen_ok, hbounds, run_sizeOf' k2, Sem.run_pure, k3]
    unfold execOp
    simp only [h, hv, Option.map_none, Instr.sliceAt, Sem.run_bind, run_underlying k1, Result.andThen_ok, hsl, Sem.run_pure]
  refine ⟨_, hrun, ?_⟩
  exact rep_subslice r1' hes (by omega) (by omega)
end

section
variable {C : Cx} {T : Nat → AV} {H : Nat → Option ABox} {D : Nat → Prop} {g : Nat → List Value} {a : Act} {w : World}
theorem Own.less {O : Nat → Prop} {H1 : Nat → Option ABox} (hs : ∀ c x, H1 c = some x → H c = some x) {k : Nat} (h : Own O g H1 k) : Own O g H k := by
  rcases h with h | ⟨b, x, hb, hk⟩
  · exact .inl h
  · exact .inr ⟨b, x, hs b x hb, hk⟩
theorem BoxRep.sub {O O' : Nat → Prop} (hO : ∀ k, O' k → O k) {b : Nat} {x : ABox} (h : BoxRep w O g b x) : BoxRep w O' g b x :=
  h.later ⟨Nat.le_refl _, fun _ _ _ => rfl, fun k _ h => hO k h⟩ (Ext.refl g) (fun _ _ => rfl) rfl
/-- boxes may be let go. -/
theorem Rel.less {H1 : Nat → Option ABox} (hs : ∀ c x, H1 c = some x → H c = some x) (hr : Rel C T H D g a w) : Rel C T H1 D g a w :=
  ⟨hr.df, hr.sz, fun t => (hr.tm t).sub fun k hk => Own.less hs hk, fun b x hb => (hr.bx b x (hs b x hb)).sub fun k hk => Own.less hs hk, hr.fresh,
    fun b x hb => hr.dom b x (hs b x hb), fun b b' x x' k h h' => hr.sep b b' x x' k (hs b x h) (hs b' x' h'), fun b x k h => hr.own b x k (hs b x h), hr.oo, hr.kept, hr.old.mono (fun b x hx => ⟨x, hs b x hx⟩) (fun _ h => h)⟩
/-- a row that is let go is content. -/
theorem row_content {H1 : Nat → Option ABox} (hs : ∀ c x, H1 c = some x → H c = some x) {b e z ver : Nat} {es : List AV} (h1 : H1 b = none) (hb : H b = some (.row e z ver es)) (hr : Rel C T H D g a w)
    {O : Nat → Prop} {val : Value} (h : Rep w O g (.ow b ver) val) : Rep w (Own C.O g H1) g (.sl es) val := by
  obtain ⟨a0, n, c, rfl, hg⟩ := h.ow_inv
  obtain ⟨sv, xs, h2, h3, h4, h5, h6⟩ := hr.bx b _ hb
  rw [hg] at h2
  injection h2 with h2
  subst h2
  obtain ⟨hl, h4'⟩ := h4
  rcases h4' with ⟨hn, a1, hv⟩ | ⟨gg, cap, cur, hv, hh, hcap, _, hsz, htk⟩
  · injection hv with e1 e2 e3
    subst e1; subst e2; subst e3
    have : es = [] := List.eq_nil_of_length_eq_zero hn
    subst this
    exact .sl0 _ 0
  · injection hv with e1 e2 e3
    subst e1; subst e2; subst e3
    have hob : ownBlk g b (.row e z ver es) = some gg := by simp [ownBlk, hg, rowBlk]
    have hown := hr.own b _ gg hb hob
    have hno : ¬ Own C.O g H1 gg := by
      rintro (h | ⟨b', x', hb', hk'⟩)
      · exact hown.1 h
      · have := hr.sep b b' _ x' gg hb (hs b' x' hb') hob hk'
        subst this
        rw [h1] at hb'; cases hb'
    refine .sl1 z es gg 0 (cap + 1) (fun i => xs.getD i undef) hcap h5 hno hown.2.2 (fun i hi => ?_) (fun i hi j hj => (h6 i hi j hj).sub fun k hk => Own.less hs hk)
    rw [Nat.zero_add, cell_of_row w gg i cur e (0, 0) hh]
    have hlt : i < xs.length := by omega
    have hx : xs[i]? = cur[i]? := by rw [← htk, List.getElem?_take, if_pos hi, Array.getElem?_toList]
    rw [← hx, List.getD_eq_getElem?_getD, List.getElem?_eq_getElem hlt]
    rfl
/-- what one makes and lets go at once. -/
theorem OpS.freeze {o : Oper} {nx e z : Nat} {es : List AV} (h : OpS C o T H nx ⟨.ow nx 0, [(nx, .row e z 0 es)], 1, []⟩) : OpS C o T H nx ⟨.sl es, [], 1, []⟩ := by
  intro T' H' D g a w hr hT hb hn K Q hK
  refine h T' H' D g a w hr hT (fun b hb => by cases hb) hn K Q fun v w' g' hr' hv => ?_
  have hnone : H' nx = none := by
    cases hx : H' nx with
    | none => rfl
    | some x => exact absurd (hr.dom nx x hx) (hn 0 (Nat.lt_succ_self 0))
  have hs : ∀ c x, H' c = some x → updL H' [(nx, .row e z 0 es)] c = some x := by
    intro c x hc
    have : c ≠ nx := by rintro rfl; rw [hnone] at hc; cases hc
    simp only [updL, updF_other this]; exact hc
  exact hK v w' g' (hr'.less hs) (row_content (e := e) (z := z) (es := es) hs hnone (by simp [updL, updF]) hr' hv)
end
end Go.AL
