/-
  The abstract logic: slices.Sort and slices.Compact on a row of integers of one's own; slices.SortFunc at nil. Conditions: the library's functions are the shelf's.
-/
import Derived.Test.YtaboklmipmjmoaaGreatAl34
import Derived.Test.YtaboklmipmjmoaaGreatAl32
import Derived.Shelf.Sort.Plain
import Derived.Shelf.Slices.In.SortNone
import Derived.Shelf.Slices.CompactI
set_option linter.all false
namespace Go.AL
open Go.RowKit Go.Proofs Go.Shelf Go.Lib
section
variable {C : Cx} {T : Nat → AV} {H : Nat → Option ABox} {D : Nat → Prop} {g : Nat → List Value} {a : Act} {w : World}
theorem row_ints {b e ver : Nat} {l : List Int} (hr : Rel C T H D g a w) (hb : H b = some (.row e 1 ver (l.map AV.i))) (h0 : 0 < l.length) :
    ∃ blk cap, (g b)[ver]? = some (.slice (some ⟨blk, 0, none⟩) l.length (cap + 1)) ∧ (g b).length = ver + 1 ∧ Go.Sort.Holds (Value.int .i64) w blk 0 l.toArray ∧ blk < w.heap.size ∧ l.length ≤ cap + 1 ∧
      ∀ (l' : List Int) (n : Nat) (os : Array Obj), l'.length = l.length → Rel C T (updF H b (some (.row e 1 ver (l'.map AV.i)))) D g a (Go.Sort.grow (Go.Sort.putRow (Value.int .i64) (Go.Sort.ahead w n) blk 0 l'.toArray) os) := by
  have hlF : (l.map AV.i).length = l.length := by simp
  obtain ⟨blk, cap, cur, g1, g2, h2, hc1, hc2, h5, hob, h6, h7⟩ := row_open (hr.bx b _ hb) (by rw [hlF]; exact h0)
  rw [hlF] at g1 hc1
  have hblk : blk < w.heap.size := (Array.getElem?_eq_some_iff.1 h2).1
  have hle : l.length ≤ cur.size := by omega
  have hcells : ∀ i, i < l.length → cur[i]? = some (.int .i64 (l.toArray[i]!)) := fun i hi => by
    have := (h7 i (by rw [hlF]; exact hi) 0 (by omega)).2
    have e4 : ((l.map AV.i).getD i .und).cells.getD 0 .und = .sc (.int .i64 (l.toArray[i]!)) := by
      rw [show (l.map AV.i).getD i .und = AV.i l[i] by rw [List.getD_eq_getElem?_getD, List.getElem?_map, List.getElem?_eq_getElem hi]; rfl]
      simp [AV.cells, hi]
    rw [e4] at this
    have e5 := this.sc_inv
    have hlt : i < cur.size := by omega
    rw [Nat.mul_one, Nat.add_zero, Array.getD_eq_getD_getElem?, Array.getElem?_eq_getElem hlt] at e5
    rw [Array.getElem?_eq_getElem hlt]; exact congrArg some e5
  have hH0 : Go.Sort.Holds (Value.int .i64) w blk 0 l.toArray := by
    intro t ht
    have ht' : t < l.length := by simpa using ht
    refine ⟨?_, ?_⟩
    · unfold World.cell?; simp only [h2, Nat.zero_add]; exact hcells t ht'
    · unfold World.frozen?; simp [h2]
  refine ⟨blk, cap, g1, g2, hH0, hblk, hc1, fun l' n os hlen' => ?_⟩
  have hcon2 := Go.Sort.holds_putRow (Value.int .i64) (Go.Sort.ahead w n) blk 0 l.toArray l'.toArray (Go.Sort.holds_ahead (Value.int .i64) w n blk 0 _ hH0) (by simpa using hlen')
  have hnew : (Go.Sort.putRow (Value.int .i64) (Go.Sort.ahead w n) blk 0 l'.toArray).heap[blk]? = some (.cells (Go.Sort.putCells (Value.int .i64) 0 l'.toArray cur) e (0, 0)) := by
    unfold Go.Sort.putRow Go.Sort.mapBlock
    show ((w.heap.modify blk _)[blk]?) = _
    rw [Array.getElem?_modify, if_pos rfl, h2]; rfl
  generalize hc' : Go.Sort.putCells (Value.int .i64) 0 l'.toArray cur = cur' at hnew
  have hs' : cur'.size = cur.size := by rw [← hc']; simp [Go.Sort.putCells]
  have hcells' : ∀ i, i < l'.length → cur'[i]? = some (.int .i64 (l'.toArray[i]!)) := fun i hi => by
    have := (hcon2 i (by simpa using hi)).1
    unfold World.cell? at this
    simp only [hnew, Nat.zero_add] at this
    exact this
  have hoth : ∀ j, j ≠ blk → (Go.Sort.putRow (Value.int .i64) (Go.Sort.ahead w n) blk 0 l'.toArray).heap[j]? = w.heap[j]? := by
    intro j hj
    unfold Go.Sort.putRow Go.Sort.mapBlock
    show ((w.heap.modify blk _)[j]?) = _
    rw [Array.getElem?_modify, if_neg (fun h => hj h.symm)]
  have hsz' : (Go.Sort.putRow (Value.int .i64) (Go.Sort.ahead w n) blk 0 l'.toArray).heap.size = w.heap.size := by
    unfold Go.Sort.putRow Go.Sort.mapBlock
    show (w.heap.modify blk _).size = _
    simp
  have hlF' : (l'.map AV.i).length = l.length := by simp [hlen']
  have hg0 := g1
  have hr1 := hr.setbox (x1 := .row e 1 ver (l'.map AV.i)) (w' := Go.Sort.putRow (Value.int .i64) (Go.Sort.ahead w n) blk 0 l'.toArray) hb hob (by simp only [ownBlk, hg0]; rfl) rfl rfl rfl hsz' (Nat.le_add_right _ _) hoth (fun hl => by
    refine ⟨_, cur'.toList.take (l'.length * 1), hg0, g2, ⟨by rw [List.length_take, List.length_map]; simp; omega, .inr ⟨blk, cap, cur', by rw [hlF'], hnew, by rw [hlF']; exact hc1, hc2, by omega, by rw [hlF', hlen']⟩⟩, fun v hv => ?_, fun i hi j hj => ?_⟩
    · obtain ⟨x, _, rfl⟩ := List.mem_map.1 hv
      rfl
    · have hi' : i < l'.length := by simpa using hi
      have hj0 : j = 0 := by omega
      subst hj0
      have e4 : ((l'.map AV.i).getD i .und).cells.getD 0 .und = .sc (.int .i64 (l'.toArray[i]!)) := by
        rw [show (l'.map AV.i).getD i .und = AV.i l'[i] by rw [List.getD_eq_getElem?_getD, List.getElem?_map, List.getElem?_eq_getElem hi']; rfl]
        simp [AV.cells, hi']
      rw [e4, Nat.mul_one, Nat.add_zero, Nat.mul_one, List.getD_eq_getElem?_getD, List.getElem?_take, if_pos hi', Array.getElem?_toList, hcells' i hi']
      exact .sc _)
  exact hr1.grow (grow_kept _ os _)
theorem upd_same {b : Nat} {x : ABox} (h : H b = some x) : updL H [(b, x)] = H := by
  funext c
  simp only [updL]
  by_cases hc : c = b
  · subst hc; rw [updF_same, h]
  · rw [updF_other hc]
end
section
variable {P : Program} {ρ : Ren}
theorem one_arg {w : World} {O : Nat → Prop} {g : Nat → List Value} {v : AV} {vs : Array Value} (h : Reps w O g [v] vs) : ∃ x, vs = #[x] ∧ Rep w O g v x := by
  obtain ⟨vs⟩ := vs
  match vs, h.1 with
  | [x], _ => exact ⟨x, rfl, h.2 0 (by simp)⟩
theorem calls_sortI (L : Lays.n189 P ρ) {fs : Nat} (hfs : ρ.f 189 = fs) (hent : entB P fs = true) {Hl : HH} {nx b e ver : Nat} {l : List Int} (hb : hk Hl b = some (.row e 1 ver (l.map AV.i))) (hlen : l.length < 4611686018427387904) :
    CallS P (hk Hl) nx fs [.ow b ver] ⟨.tup [], [(b, .row e 1 ver ((l.mergeSort fun x y => decide (x ≤ y)).map AV.i))], 0, [b]⟩ := by
  subst hfs
  refine ⟨hent, fun C T' H' D g a w hP hr hH _ vs hvs => ?_⟩
  have hb' : H' b = some (.row e 1 ver (l.map AV.i)) := (hH b (by simp)).trans hb
  obtain ⟨va, rfl, r1⟩ := one_arg hvs
  obtain ⟨aa, n, c, rfl, hg⟩ := r1.ow_inv
  rcases Nat.eq_zero_or_pos l.length with h0 | h0
  · obtain rfl := List.eq_nil_of_length_eq_zero h0
    obtain ⟨sv, xs, g1, _, g3, _⟩ := hr.bx b _ hb'
    rw [hg] at g1
    injection g1 with g1
    subst g1
    obtain ⟨_, _, hs, _⟩ := g3.slice
    injection hs with _ hs _
    subst hs
    refine (Any.slices_Sort_int_none L aa c w).mono ?_
    rintro e' w' ⟨rfl, rfl⟩
    refine ⟨_, g, rfl, ?_, .tup [] #[] rfl (fun j hj => by simp at hj)⟩
    rw [show (([] : List Int).mergeSort fun x y => decide (x ≤ y)).map AV.i = ([] : List Int).map AV.i by simp, upd_same hb']
    exact hr.dmono fun b hb => .inl hb
  · obtain ⟨blk, cap, g1, g2, hH0, hblk, hcap, hput⟩ := row_ints hr hb' h0
    rw [hg] at g1
    injection g1 with g1
    injection g1 with e1 e2 e3
    subst e1; subst e2; subst e3
    refine (Any.slices_Sort_int L blk 0 (cap + 1) l w hH0 hblk hlen).mono ?_
    rintro e' w' ⟨rfl, m, os, rfl⟩
    exact ⟨_, g, rfl, (hput _ m os (List.length_mergeSort l)).dmono fun b hb => .inl hb, .tup [] #[] rfl (fun j hj => by simp at hj)⟩
theorem calls_sortI0 (L : Lays.n189 P ρ) {fs : Nat} (hfs : ρ.f 189 = fs) (hent : entB P fs = true) {Hl : HH} {nx b : Nat} (hb : hk Hl b = some .nl) : CallS P (hk Hl) nx fs [.ow b 0] ⟨.tup [], [], 0, [b]⟩ := by
  subst hfs
  refine ⟨hent, fun C T' H' D g a w hP hr hH _ vs hvs => ?_⟩
  have hb' : H' b = some .nl := (hH b (by simp)).trans hb
  obtain ⟨va, rfl, r1⟩ := one_arg hvs
  obtain ⟨aa, n, c, rfl, hg⟩ := r1.ow_inv
  have g1 : g b = [.slice none 0 0] := hr.bx b _ hb'
  rw [g1] at hg
  simp only [List.getElem?_cons_zero, Option.some.injEq, Value.slice.injEq] at hg
  obtain ⟨rfl, rfl, rfl⟩ := hg
  refine (Any.slices_Sort_int_none L none 0 w).mono ?_
  rintro e' w' ⟨rfl, rfl⟩
  exact ⟨_, g, rfl, hr.dmono fun b hb => .inl hb, .tup [] #[] rfl (fun j hj => by simp at hj)⟩
theorem calls_sort0 (L : SlLaysF0.n6 P ρ) {fs f : Nat} (hfs : ρ.f 6 = fs) (hent : entB P fs = true) {Hl : HH} {nx b : Nat} (hb : hk Hl b = some .nl) : CallS P (hk Hl) nx fs [.ow b 0, .clo f []] ⟨.tup [], [], 0, [b]⟩ := by
  subst hfs
  refine ⟨hent, fun C T' H' D g a w hP hr hH _ vs hvs => ?_⟩
  have hb' : H' b = some .nl := (hH b (by simp)).trans hb
  obtain ⟨va, vb, rfl⟩ : ∃ va vb, vs = #[va, vb] := by
    have := hvs.1
    obtain ⟨vs⟩ := vs
    match vs, this with
    | [x, y], _ => exact ⟨x, y, rfl⟩
  have r1 : Rep w _ g (.ow b 0) va := hvs.2 0 (by simp)
  obtain ⟨aa, n, c, rfl, hg⟩ := r1.ow_inv
  have g1 : g b = [.slice none 0 0] := hr.bx b _ hb'
  rw [g1] at hg
  simp only [List.getElem?_cons_zero, Option.some.injEq, Value.slice.injEq] at hg
  obtain ⟨rfl, rfl, rfl⟩ := hg
  refine (AnyF.slices_SortFunc_none { L with } none 0 vb w).mono ?_
  rintro e' w' ⟨rfl, rfl⟩
  exact ⟨_, g, rfl, hr.dmono fun b hb => .inl hb, .tup [] #[] rfl (fun j hj => by simp at hj)⟩
theorem calls_compI (L : Lays2.n20 P ρ) {fs : Nat} (hfs : ρ.f 20 = fs) (hent : entB P fs = true) {Hl : HH} {nx b e ver : Nat} {l : List Int} (hb : hk Hl b = some (.row e 1 ver (l.map AV.i))) (hlen : l.length ≤ 9223372036854775807) :
    CallS P (hk Hl) nx fs [.ow b ver] ⟨.ow b (ver + 1), [(b, .row e 1 (ver + 1) ((Go.Lib.compact l).map AV.i))], 0, [b]⟩ := by
  subst hfs
  refine ⟨hent, fun C T' H' D g a w hP hr hH _ vs hvs => ?_⟩
  have hb' : H' b = some (.row e 1 ver (l.map AV.i)) := (hH b (by simp)).trans hb
  obtain ⟨va, rfl, r1⟩ := one_arg hvs
  obtain ⟨aa, n, c, rfl, hg⟩ := r1.ow_inv
  rcases Nat.eq_zero_or_pos l.length with h0 | h0
  · obtain rfl := List.eq_nil_of_length_eq_zero h0
    obtain ⟨sv, xs, g1, g2, g3, g4, g5⟩ := hr.bx b _ hb'
    rw [hg] at g1
    injection g1 with g1
    subst g1
    obtain ⟨_, _, hs, _⟩ := g3.slice
    injection hs with _ hs _
    have hn : n = 0 := by simpa using hs
    subst hn
    refine (Any.slices_Compact_int_empty L aa c w).mono ?_
    rintro e' w' ⟨rfl, rfl⟩
    have hget : (updF g b (g b ++ [.slice aa 0 c]) b)[ver + 1]? = some (.slice aa 0 c) := by
      rw [updF_same, List.getElem?_append_right (by omega), g2]; simp
    have hrel := hr.regrow (v' := .slice aa 0 c) (x1 := .row e 1 (ver + 1) (([] : List Int).map AV.i)) hb' ⟨rfl, rfl, rfl, Nat.le_refl _, fun _ _ _ => rfl⟩ (Nat.le_refl _) (fun k hk => by
      refine .inl ?_
      simp only [ownBlk, hget] at hk
      simp only [ownBlk, hg]; exact hk) (fun hl hxt => ⟨_, xs, hget, by rw [updF_same]; simp [g2], (by
        obtain ⟨q1, q2⟩ := g3
        exact ⟨q1, q2⟩), fun v hv => by simp at hv, fun i hi => by simp at hi⟩)
    refine ⟨_, _, rfl, ?_, .ow b (ver + 1) _ _ _ hget⟩
    rw [show Go.Lib.compact ([] : List Int) = [] from rfl]
    exact hrel.dmono fun b hb => .inl hb
  · obtain ⟨blk, cap, g1, g2, hH0, hblk, hcap, hput⟩ := row_ints hr hb' h0
    rw [hg] at g1
    injection g1 with g1
    injection g1 with e1 e2 e3
    subst e1; subst e2; subst e3
    refine (Any.slices_Compact_int L blk 0 (cap + 1) l w hH0 hlen hcap).mono ?_
    rintro e' w' ⟨rfl, q, rfl⟩
    have hle : (Go.Lib.compact l).length ≤ l.length := by
      unfold Go.Lib.compact Go.Lib.compactUpTo
      rw [List.length_map]
      exact Nat.le_trans (List.length_filter_le _ _) (by rw [List.length_range]; exact Nat.le_refl _)
    generalize hcl : Go.Lib.compact l = cl at *
    have hlen2 : (cl ++ List.replicate (l.length - cl.length) 0).length = l.length := by simp; omega
    have hr1 := hput (cl ++ List.replicate (l.length - cl.length) 0) q #[] hlen2
    have hg00 : ∀ W : World, Go.Sort.grow W #[] = W := fun W => by unfold Go.Sort.grow; cases W; simp
    rw [hg00] at hr1
    generalize Go.Sort.putRow (Value.int .i64) (Go.Sort.ahead w q) blk 0 (cl ++ List.replicate (l.length - cl.length) 0).toArray = w1 at hr1 ⊢
    have hb1 : updF H' b (some (ABox.row e 1 ver ((cl ++ List.replicate (l.length - cl.length) 0).map AV.i))) b = some (.row e 1 ver ((cl ++ List.replicate (l.length - cl.length) 0).map AV.i)) := updF_same _ _ _
    have hpos : 0 < ((cl ++ List.replicate (l.length - cl.length) 0).map AV.i).length := by rw [List.length_map, hlen2]; exact h0
    obtain ⟨blk', cap', cur, g1', g2', h2, hcap1, hc2, h5, hob, h6, h7⟩ := row_open (hr1.bx b _ hb1) hpos
    rw [hg] at g1'
    injection g1' with g1'
    injection g1' with e1 e2 e3
    injection e1 with e1
    injection e1 with e1
    injection e3 with e3
    subst e1; subst e3
    have hlm : ((cl ++ List.replicate (l.length - cl.length) 0).map AV.i).length = l.length := by rw [List.length_map, hlen2]
    rw [hlm] at hcap1 h7
    have hget : (updF g b (g b ++ [.slice (some ⟨blk, 0, none⟩) cl.length (cap + 1)]) b)[ver + 1]? = some (.slice (some ⟨blk, 0, none⟩) cl.length (cap + 1)) := by
      rw [updF_same, List.getElem?_append_right (by omega), g2]; simp
    have hlc : (cl.map AV.i).length = cl.length := by simp
    have hnow : ownBlk (updF g b (g b ++ [.slice (some ⟨blk, 0, none⟩) cl.length (cap + 1)])) b (.row e 1 (ver + 1) (cl.map AV.i)) = some blk := by
      simp only [ownBlk, hget]; rfl
    have hrel := hr1.regrow (v' := .slice (some ⟨blk, 0, none⟩) cl.length (cap + 1)) (x1 := .row e 1 (ver + 1) (cl.map AV.i)) (w' := w1) hb1 ⟨rfl, rfl, rfl, Nat.le_refl _, fun _ _ _ => rfl⟩ (Nat.le_refl _) (fun k hk => by
      rw [hnow] at hk; exact .inl (hob.trans hk)) (fun hl hxt => by
      refine ⟨_, cur.toList.take (cl.length * 1), hget, by rw [updF_same]; simp [g2], ⟨?_, .inr ⟨blk, cap, cur, by rw [hlc], h2, by omega, hc2, h5, by rw [hlc]⟩⟩, fun v hv => ?_, fun i' hi2 j hj => ?_⟩
      · have hq2 : cl.length ≤ cur.size := Nat.le_trans hle (by omega)
        rw [List.length_take, hlc, Nat.mul_one]
        exact Nat.min_eq_left (by rw [Array.length_toList]; exact hq2)
      · obtain ⟨x, _, rfl⟩ := List.mem_map.1 hv; rfl
      · rw [hlc] at hi2
        have hj0 : j = 0 := by omega
        subst hj0
        obtain ⟨h8, h9⟩ := h7 i' (by omega) 0 (by omega)
        have e1 : (cur.toList.take (cl.length * 1)).getD (i' * 1 + 0) undef = cur.getD (i' * 1 + 0) undef := by
          rw [List.getD_eq_getElem?_getD, List.getElem?_take, if_pos (by omega), Array.getElem?_toList, Array.getD_eq_getD_getElem?]
        have e2 : (cl.map AV.i).getD i' .und = ((cl ++ List.replicate (l.length - cl.length) 0).map AV.i).getD i' .und := by
          rw [List.map_append, List.getD_eq_getElem?_getD, List.getD_eq_getElem?_getD, List.getElem?_append_left (by rw [hlc]; exact hi2)]
        rw [e1, e2]
        exact h9.later hl hxt)
    refine ⟨_, _, rfl, ?_, .ow b (ver + 1) _ _ _ hget⟩
    have hup : updF (updF H' b (some (ABox.row e 1 ver ((cl ++ List.replicate (l.length - cl.length) 0).map AV.i)))) b (some (.row e 1 (ver + 1) (cl.map AV.i))) = updL H' [(b, .row e 1 (ver + 1) (cl.map AV.i))] := by
      funext c
      simp only [updL]
      by_cases hc : c = b
      · subst hc; rw [updF_same, updF_same]
      · rw [updF_other hc, updF_other hc, updF_other hc]
    rw [← hup]
    exact hrel.dmono fun b hb => .inl hb
theorem calls_compI0 (L : Lays2.n20 P ρ) {fs : Nat} (hfs : ρ.f 20 = fs) (hent : entB P fs = true) {Hl : HH} {nx b : Nat} (hb : hk Hl b = some .nl) : CallS P (hk Hl) nx fs [.ow b 0] ⟨.ow b 0, [], 0, [b]⟩ := by
  subst hfs
  refine ⟨hent, fun C T' H' D g a w hP hr hH _ vs hvs => ?_⟩
  have hb' : H' b = some .nl := (hH b (by simp)).trans hb
  obtain ⟨va, rfl, r1⟩ := one_arg hvs
  obtain ⟨aa, n, c, rfl, hg⟩ := r1.ow_inv
  have g1 : g b = [.slice none 0 0] := hr.bx b _ hb'
  have hg' := hg
  rw [g1] at hg
  simp only [List.getElem?_cons_zero, Option.some.injEq, Value.slice.injEq] at hg
  obtain ⟨rfl, rfl, rfl⟩ := hg
  refine (Any.slices_Compact_int_empty L none 0 w).mono ?_
  rintro e' w' ⟨rfl, rfl⟩
  exact ⟨_, g, rfl, hr.dmono fun b hb => .inl hb, .ow b 0 _ _ _ hg'⟩
theorem cst_of_calls {Hl : HH} {nx f : Nat} {vl cap vl' : List AV} {r : Res} {K : Res → Prop} (h : CallS P (hk Hl) nx f vl' r) (ha : vl ++ cap = vl') (hK : K r) : cst P (hk Hl) nx (.clo f cap) vl K := by
  subst ha; exact ⟨r, h, hK⟩
end
end Go.AL
