/-
  The abstract logic: elements of rows of one's own: addresses, loads, stores; a slice without room. Conditions: none.
-/
import Derived.Test.YtehlfgikcipdaaaAl15
set_option linter.all false
namespace Go.AL
open Go.RowKit

section
variable {C : Cx} {T : Nat → AV} {H : Nat → Option ABox} {D : Nat → Prop} {g : Nat → List Value} {a : Act} {w : World}
/-- a box in its place, told anew. -/
theorem Rel.setbox {b blk : Nat} {x0 x1 : ABox} {w' : World} (h : Rel C T H D g a w) (hH : H b = some x0) (hbk : ownBlk g b x0 = some blk) (hbk' : ownBlk g b x1 = some blk)
    (hwo : w'.os = w.os) (hwt : w'.tape = w.tape) (hwu : w'.output = w.output) (hwz : w'.heap.size = w.heap.size) (hwd : w.drawn ≤ w'.drawn) (hwb : ∀ k, k ≠ blk → w'.heap[k]? = w.heap[k]?)
    (hbx : Later w (Own C.O g H) w' (Own C.O g (updF H b (some x1))) → BoxRep w' (Own C.O g (updF H b (some x1))) g b x1) :
    Rel C T (updF H b (some x1)) D g a w' := by
  have hother : ∀ c x, updF H b (some x1) c = some x → (c = b ∧ x = x1) ∨ (c ≠ b ∧ H c = some x) := by
    intro c x hx
    by_cases hc : c = b
    · subst hc; rw [updF_same] at hx; left; exact ⟨rfl, by injection hx with hx; exact hx.symm⟩
    · rw [updF_other hc] at hx; exact .inr ⟨hc, hx⟩
  have hOwn : ∀ k, Own C.O g (updF H b (some x1)) k → Own C.O g H k := by
    rintro k (hk' | ⟨c, x, hx, hk'⟩)
    · exact .inl hk'
    · rcases hother c x hx with ⟨hcb, hxx⟩ | ⟨hc, hx⟩
      · rw [hcb, hxx, hbk', ← hbk] at hk'; exact .inr ⟨b, _, hH, hk'⟩
      · exact .inr ⟨c, x, hx, hk'⟩
  have hOb : Own C.O g H blk := .inr ⟨b, _, hH, hbk⟩
  have hl : Later w (Own C.O g H) w' (Own C.O g (updF H b (some x1))) :=
    ⟨by omega, fun k _ hk' => hwb k (fun e => hk' (e ▸ hOb)), fun k _ hk => hOwn k hk⟩
  refine ⟨h.df, h.sz, fun t => (h.tm t).later hl (Ext.refl g), fun c x hx => ?_, h.fresh, fun c x hx => ?_, fun c c' x x' k hx hx' hk hk' => ?_, fun c x k hx hk => ?_, h.oo, ?_, h.old.set hH _⟩
  · rcases hother c x hx with ⟨hcb, hxx⟩ | ⟨hc, hx⟩
    · rw [hcb, hxx]; exact hbx hl
    · exact (h.bx c x hx).later hl (Ext.refl g) (fun k hk => hwb k (fun e => hc (h.sep c b x _ blk hx hH (e ▸ hk) hbk))) rfl
  · rcases hother c x hx with ⟨hcb, _⟩ | ⟨_, hx⟩
    · rw [hcb]; exact h.dom _ _ hH
    · exact h.dom c x hx
  · rcases hother c x hx with ⟨hcb, hxx⟩ | ⟨hc, hx⟩ <;> rcases hother c' x' hx' with ⟨hcb', hxx'⟩ | ⟨hc', hx'⟩
    · exact hcb.trans hcb'.symm
    · rw [hcb, hxx, hbk', ← hbk] at hk; rw [hcb]; exact h.sep _ _ _ _ k hH hx' hk hk'
    · rw [hcb', hxx', hbk', ← hbk] at hk'; rw [hcb']; exact h.sep _ _ _ _ k hx hH hk hk'
    · exact h.sep _ _ _ _ k hx hx' hk hk'
  · rw [hwz]
    rcases hother c x hx with ⟨hcb, hxx⟩ | ⟨hc, hx⟩
    · rw [hcb, hxx, hbk', ← hbk] at hk; exact h.own _ _ _ hH hk
    · exact h.own _ _ _ hx hk
  · refine h.kept.trans (F' := fun k => k = blk) ⟨hwo, hwt, hwu, by omega, fun k _ hk => hwb k hk, hwd⟩ (fun k hk e => ?_)
    subst e
    rcases (h.own _ _ _ hH hbk).2.1 with hf | hf
    · exact hf
    · omega
/-- a row with an element in it, as its block stands. -/
theorem row_open {b e z ver : Nat} {es : List AV} {O : Nat → Prop} (hb : BoxRep w O g b (.row e z ver es)) (h0 : 0 < es.length) :
    ∃ (blk cap : Nat) (cur : Array Value), (g b)[ver]? = some (.slice (some ⟨blk, 0, none⟩) es.length (cap + 1)) ∧ (g b).length = ver + 1 ∧ w.heap[blk]? = some (.cells cur e (0, 0)) ∧ es.length ≤ cap + 1 ∧ cap + 1 ≤ maxLen ∧ cur.size = (cap + 1) * z ∧
      ownBlk g b (.row e z ver es) = some blk ∧ (∀ a ∈ es, a.cells.length = z) ∧ ∀ i, i < es.length → ∀ j, j < z → i * z + j < cur.size ∧ Rep w O g ((es.getD i .und).cells.getD j .und) (cur.getD (i * z + j) undef) := by
  obtain ⟨sv, xs, h1, h2, h3, h4, h5⟩ := hb
  rcases h3.2 with ⟨hn, _⟩ | ⟨blk, cap, cur, rfl, hh, hc, hm, hsz, htk⟩
  · omega
  · have hbd : ∀ i, i < es.length → ∀ j, j < z → i * z + j < es.length * z := fun i hi j hj => by
      have := Nat.mul_le_mul_right z (show i + 1 ≤ es.length by omega)
      rw [Nat.succ_mul] at this; omega
    have hle : es.length * z ≤ (cap + 1) * z := Nat.mul_le_mul_right z hc
    refine ⟨blk, cap, cur, h1, h2, hh, hc, hm, hsz, by simp only [ownBlk, h1]; rfl, h4, fun i hi j hj => ?_⟩
    have hlt := hbd i hi j hj
    refine ⟨by omega, ?_⟩
    have := h5 i hi j hj
    have e2 : xs.getD (i * z + j) undef = cur.getD (i * z + j) undef := by
      rw [← htk, List.getD_eq_getElem?_getD, List.getElem?_take, if_pos hlt, Array.getElem?_toList, Array.getD_eq_getD_getElem?]
    rwa [e2] at this

theorem setv_cells {v y : AV} {off n : Nat} (hl : y.cells.length = n) (hfit : off + n ≤ v.cells.length) :
    (v.setv off y).cells.length = v.cells.length ∧ ∀ j, (v.setv off y).cells.getD j .und = if off ≤ j ∧ j < off + n then y.cells.getD (j - off) .und else v.cells.getD j .und := by
  unfold AV.setv
  split
  · rename_i hw
    obtain ⟨rfl, hw⟩ := hw
    refine ⟨hw, fun j => ?_⟩
    split
    · rfl
    · rename_i hj
      have h1 : y.cells.length ≤ j := by omega
      have h2 : v.cells.length ≤ j := by omega
      rw [List.getD_eq_getElem?_getD, List.getD_eq_getElem?_getD, List.getElem?_eq_none h1, List.getElem?_eq_none h2]
  · rw [cells_agg]
    refine ⟨by simp; omega, fun j => ?_⟩
    rw [List.getD_eq_getElem?_getD]
    by_cases c1 : j < off
    · rw [if_neg (by omega), List.append_assoc, List.getElem?_append_left (by simp; omega), List.getElem?_take, if_pos c1, List.getD_eq_getElem?_getD]
    · by_cases c2 : j < off + n
      · rw [if_pos (by omega), List.append_assoc, List.getElem?_append_right (by simp; omega), List.getElem?_append_left (by simp; omega)]
        have hm : min off v.cells.length = off := by omega
        simp only [List.length_take, hm, List.getD_eq_getElem?_getD]
      · rw [if_neg (by omega), List.getElem?_append_right (by simp; omega)]
        have hm : min off v.cells.length = off := by omega
        simp only [List.length_append, List.length_take, hm, List.getElem?_drop, List.getD_eq_getElem?_getD]
        have e : off + y.cells.length + (j - (off + y.cells.length)) = j := by omega
        rw [e]
end

section
variable {C : Cx} {o : Oper} {T : Nat → AV} {H : Nat → Option ABox} {nx : Nat}

/-- the address of an element of a row. -/
theorem opS_indexAddr_ow {t e e' n by_ b ver : Nat} {ag : Bool} {x y : Operand} {es : List AV} {k : IntKind} {i : Int} (h : o.op = .indexAddr t x y) (hc : (evO T x).cond = true) (hc' : (evO T y).cond = true) (hx : ev T x = .ow b ver)
    (hb : H b = some (.row e n ver es)) (hy : ev T y = .sc (.int k i)) (he : elI C.P t = some (e', n, by_, ag)) (h0 : 0 ≤ i) (hi : i < es.length) :
    OpS C o T H nx ⟨.rp b ver n i.toNat 0, [], 0, [b]⟩ := by
  refine opS_pure fun T' H' D g a w hr hT hH => ?_
  have r1 := one_rep hr (hT x (by simp [h, Op.operands])) hc
  have r2 := one_rep hr (hT y (by simp [h, Op.operands])) hc'
  rw [hx] at r1; rw [hy] at r2
  obtain ⟨a0, m, c, hv, hg⟩ := r1.ow_inv
  have hv2 := r2.sc_inv
  obtain ⟨blk, cap, cur, g1, _⟩ := row_open (hr.bx b _ ((hH b (by simp)).trans hb)) (by omega)
  rw [hg] at g1
  injection g1 with g1
  injection g1 with e1 e2 e3
  subst e1; subst e2; subst e3
  obtain ⟨inf, k1, k2, k3, k4, k5, k6, k7⟩ := elI_some he
  refine ⟨.pointer (some ⟨blk, i.toNat * n + 0, none⟩), ?_, .rp b ver n i.toNat 0 blk _ _ hg⟩
  unfold execOp
  simp only [h, hv, hv2, Instr.indexAt, asIntOf, Sem.run_bind, Sem.run_pure, Result.andThen_ok, run_underlying k1]
  rw [if_pos ⟨h0, hi⟩]
  simp only [Sem.run_bind, run_sizeOf' k2, Result.andThen_ok, Sem.run_pure, k3, add_addr, Nat.zero_add, Nat.add_zero]

theorem opS_fieldAddr_rp {s f fo sz b ver z i off : Nat} {ag : Bool} {x : Operand} (h : o.op = .fieldAddr s x f) (hc : (evO T x).cond = true) (hx : ev T x = .rp b ver z i off) (hf : fldI C.P s f = some (fo, sz, ag)) :
    OpS C o T H nx ⟨.rp b ver z i (off + fo), [], 0, []⟩ := by
  refine opS_pure fun T' H' D g a w hr hT hH => ?_
  have r1 := one_rep hr (hT x (by simp [h, Op.operands])) hc
  rw [hx] at r1
  obtain ⟨blk, n, c, hv, hg⟩ := r1.rp_inv
  refine ⟨.pointer (some ⟨blk, i * z + (off + fo), none⟩), ?_, .rp b ver z i (off + fo) blk n c hg⟩
  unfold execOp
  simp only [h, hv, Sem.run_bind, run_fieldAt hf, Result.andThen_ok, Sem.run_pure, Nat.add_assoc]

/-- a load out of an element. -/
theorem opS_load_rp {t : TypeId} {x : Operand} {b ver z i off n e : Nat} {ag : Bool} {es : List AV} (h : o.op = .load t x) (hc : (evO T x).cond = true) (hx : ev T x = .rp b ver z i off) (hb : H b = some (.row e z ver es))
    (ht : tyI C.P t = some (n, ag)) (hn : ag = false → n = 1) (hi : i < es.length) (hfit : off + n ≤ z) : OpS C o T H nx ⟨(es.getD i .und).subv off n ag, [], 0, [b]⟩ := by
  refine opS_pure fun T' H' D g a w hr hT hH => ?_
  have r1 := one_rep hr (hT x (by simp [h, Op.operands])) hc
  rw [hx] at r1
  obtain ⟨blk, m, c, hv, hg⟩ := r1.rp_inv
  obtain ⟨blk', cap, cur, g1, _, h2, _, _, h5, _, h6, h7⟩ := row_open (hr.bx b _ ((hH b (by simp)).trans hb)) (by omega)
  rw [hg] at g1
  injection g1 with g1
  injection g1 with e1 e2 e3
  injection e1 with e1
  injection e1 with e1
  subst e1
  have hz : (es.getD i .und).cells.length = z := h6 _ (getD_mem hi)
  refine ⟨if ag then .agg ((List.range n).map fun j => cur.getD (i * z + off + j) undef).toArray else cur.getD (i * z + off + 0) undef, ?_, ?_⟩
  · unfold execOp
    simp only [h, hv, Instr.loadAt, Instr.sureAddr]
    simp only [Sem.run_bind, Sem.run_pure, Result.andThen_ok]
    rw [run_loadVar_cells (f := fun j => cur.getD (i * z + off + j) undef) ht hn (fun j hj => by
      rw [cell_of_row w blk (i * z + off + j) cur e (0, 0) h2]
      have := (h7 i hi (off + j) (by omega)).1
      have : i * z + off + j < cur.size := by omega
      simp [Array.getD, this])]
    simp only [Result.andThen_ok]
  · unfold AV.subv
    cases ag with
    | true =>
      simp only [if_true]
      refine .agg _ _ (by simp only [List.length_take, List.length_drop, hz]; simp; omega) fun j hj => ?_
      have hj' : j < n := by simp at hj; omega
      rw [getD_drop_take _ _ _ _ _ hj' (by omega)]
      have : ((List.range n).map fun j => cur.getD (i * z + off + j) undef).toArray.getD j undef = cur.getD (i * z + off + j) undef := by simp [Array.getD, hj']
      rw [this, Nat.add_assoc]
      exact (h7 i hi _ (by omega)).2
    | false =>
      have := hn rfl
      simp only [Bool.false_eq_true, if_false]
      rw [Nat.add_zero]
      exact (h7 i hi off (by omega)).2

/-- a store into an element. -/
theorem opS_store_rp {t : TypeId} {x y : Operand} {b ver z i off n e : Nat} {ag : Bool} {es : List AV} (h : o.op = .store t x y) (hc : (evO T x).cond = true) (hc' : (evO T y).cond = true) (hx : ev T x = .rp b ver z i off) (hb : H b = some (.row e z ver es))
    (ht : tyI C.P t = some (n, ag)) (hok : (ev T y).ok = true) (hone : ∀ c ∈ (ev T y).cells, c.one = true) (hlen : (ev T y).cells.length = n) (hi : i < es.length) (hfit : off + n ≤ z) :
    OpS C o T H nx ⟨.und, [(b, .row e z ver (es.set i ((es.getD i .und).setv off (ev T y))))], 0, [b]⟩ := by
  intro T' H' D g a w hr hT hH _ K Q hK
  have r1 := one_rep hr (hT x (by simp [h, Op.operands])) hc
  have r2 := one_rep hr (hT y (by simp [h, Op.operands])) hc'
  rw [hx] at r1
  obtain ⟨blk, m, c, hv, hg⟩ := r1.rp_inv
  obtain ⟨s1, s2⟩ := r2.cells hok
  have hb' : H' b = some (.row e z ver es) := (hH b (by simp)).trans hb
  obtain ⟨blk', cap, cur, g1, g2, h2, hc1, hc2, h5, hob, h6, h7⟩ := row_open (hr.bx b _ hb') (by omega)
  have hg0 := hg
  rw [hg] at g1
  injection g1 with g1
  injection g1 with e1 e2 e3
  injection e1 with e1
  injection e1 with e1
  subst e1; subst e2; subst e3
  have hz : (es.getD i .und).cells.length = z := h6 _ (getD_mem hi)
  obtain ⟨inf, d, hif, hu, rfl, rfl⟩ := tyI_some ht
  have hone' : ∀ u ∈ (a.eval y).cells.toList, u.oneCell' = true := by
    intro u hu
    obtain ⟨j, hj, rfl⟩ := List.mem_iff_getElem.1 hu
    have hj' : j < (a.eval y).cells.size := by simpa using hj
    have := s2 j (by omega)
    have e : (a.eval y).cells.getD j undef = (a.eval y).cells[j] := by simp [Array.getD, hj']
    rw [e] at this
    exact this.oneCell (hone _ (getD_mem (by omega)))
  have hcl : (a.eval y).cells.toList.length = inf.size := by simp; omega
  have hend : i * z + z ≤ es.length * z := by
    have := Nat.mul_le_mul_right z (show i + 1 ≤ es.length by omega)
    rwa [Nat.succ_mul] at this
  have hcap : es.length * z ≤ (cap + 1) * z := Nat.mul_le_mul_right z hc1
  have hfits : i * z + off + inf.size ≤ cur.size := by omega
  have hst := run_storeCells_at (P := C.P) blk (i * z + off) e (a.eval y).cells.toList 0 cur w h2 (by omega) hone'
  rw [Nat.add_zero] at hst
  have hsz : (sizeOf t).run C.P w = .ok inf.size w := by
    unfold sizeOf; simp only [Sem.run_bind, run_typeInfo w hif, Result.andThen_ok, Sem.run_pure]
  generalize hnew : (cur.toList.take (i * z + off) ++ (a.eval y).cells.toList ++ cur.toList.drop (i * z + off + (a.eval y).cells.toList.length)).toArray = cur' at hst
  have hrun : (execOp a.eval o).run C.P w = .ok .skip (w.setRow blk cur') := by
    unfold execOp
    simp only [h, hv, Instr.storeAt, Instr.sureAddr, storeVar, Sem.run_bind, Sem.run_pure, Result.andThen_ok, hsz]
    rw [if_neg (by simp; omega)]
    simp only [Sem.run_bind, Sem.run_pure, Result.andThen_ok, hst]
  have hs' : cur'.size = cur.size := by
    rw [← hnew]; simp only [List.size_toArray, List.length_append, List.length_take, List.length_drop, Array.length_toList]
    omega
  have hcell : ∀ j, j < cur.size → cur'.getD j undef = if i * z + off ≤ j ∧ j < i * z + off + inf.size then (a.eval y).cells.getD (j - (i * z + off)) undef else cur.getD j undef := by
    intro j hj
    rw [← hnew, Array.getD_eq_getD_getElem?]
    simp only [List.getElem?_toArray]
    by_cases c1 : j < i * z + off
    · rw [if_neg (by omega), List.append_assoc, List.getElem?_append_left (by simp; omega), List.getElem?_take, if_pos c1]
      simp [Array.getD, hj]
    · by_cases c2 : j < i * z + off + inf.size
      · rw [if_pos (by omega), List.append_assoc, List.getElem?_append_right (by simp; omega), List.getElem?_append_left (by simp; omega)]
        have hm : min (i * z + off) cur.size = i * z + off := by omega
        simp only [List.length_take, Array.length_toList, hm]
        have : j - (i * z + off) < (a.eval y).cells.size := by omega
        simp [Array.getD, this]
      · rw [if_neg (by omega), List.getElem?_append_right (by simp; omega)]
        have hm : min (i * z + off) cur.size = i * z + off := by omega
        simp only [List.length_append, List.length_take, Array.length_toList, hm, hcl, List.getElem?_drop]
        have e : i * z + off + inf.size + (j - (i * z + off + inf.size)) = j := by omega
        rw [e]
        simp [Array.getD, hj]
  obtain ⟨v1, v2⟩ := setv_cells (v := es.getD i .und) (off := off) hlen (by omega)
  refine wp_of_skip hrun (hK _ _ g ((hr.setbox (x1 := .row e z ver (es.set i ((es.getD i .und).setv off (ev T y)))) (w' := w.setRow blk cur') hb' hob (by simp only [ownBlk, hg0]; rfl) rfl rfl rfl (by simp) (Nat.le_refl _) (fun k hk => setRow_other w blk k _ hk) (fun hl => ?_)).dmono fun b hb => .inl hb) (.und _))
  refine ⟨_, cur'.toList.take (es.length * z), hg0, g2, ⟨?_, .inr ⟨blk, cap, cur', by rw [List.length_set], setRow_heap w blk cur _ e (0, 0) h2, by rw [List.length_set]; exact hc1, hc2, by omega, by rw [List.length_set]⟩⟩, fun v hv => ?_, fun i' hi' j hj => ?_⟩
  · rw [List.length_take, List.length_set]; simp; omega
  · rcases List.mem_or_eq_of_mem_set hv with hv | rfl
    · exact h6 v hv
    · rw [v1]; exact hz
  · rw [List.length_set] at hi'
    have hbd : i' * z + j < es.length * z := by
      have := Nat.mul_le_mul_right z (show i' + 1 ≤ es.length by omega)
      rw [Nat.succ_mul] at this; omega
    have e1 : (cur'.toList.take (es.length * z)).getD (i' * z + j) undef = cur'.getD (i' * z + j) undef := by
      rw [List.getD_eq_getElem?_getD, List.getElem?_take, if_pos hbd, Array.getElem?_toList, Array.getD_eq_getD_getElem?]
    rw [e1, hcell _ (by omega)]
    by_cases hii : i' = i
    · subst hii
      have e2 : (es.set i' ((es.getD i' .und).setv off (ev T y))).getD i' .und = (es.getD i' .und).setv off (ev T y) := by
        rw [List.getD_eq_getElem?_getD, List.getElem?_set_self hi']; rfl
      rw [e2, v2 j]
      by_cases hjj : off ≤ j ∧ j < off + inf.size
      · rw [if_pos hjj, if_pos (by omega), show i' * z + j - (i' * z + off) = j - off by omega]
        exact (s2 _ (by omega)).later hl (Ext.refl g)
      · rw [if_neg hjj, if_neg (by omega)]
        exact (h7 i' hi j hj).2.later hl (Ext.refl g)
    · have e2 : (es.set i ((es.getD i .und).setv off (ev T y))).getD i' .und = es.getD i' .und := by
        rw [List.getD_eq_getElem?_getD, List.getElem?_set_ne (fun e => hii e.symm), List.getD_eq_getElem?_getD]
      rw [e2, if_neg ?_]
      · exact (h7 i' hi' j hj).2.later hl (Ext.refl g)
      · rintro ⟨c1, c2⟩
        rcases Nat.lt_or_gt_of_ne hii with hlt | hlt
        · have := Nat.mul_le_mul_right z (show i' + 1 ≤ i by omega)
          rw [Nat.succ_mul] at this; omega
        · have := Nat.mul_le_mul_right z (show i + 1 ≤ i' by omega)
          rw [Nat.succ_mul] at this; omega

/-- a slice of which nothing is left, without room. -/
theorem opS_slice0 {t e z by_ : Nat} {ag : Bool} {x : Operand} {hi mx : Operand} {es : List AV} {rb : List Nat} {k k' : IntKind} (h : o.op = .slice t x none (some hi) (some mx)) (hc : (evO T x).cond = true) (hx : asrc H (ev T x) = some (es, rb)) (he : elI C.P t = some (e, z, by_, ag))
    (hhi : ev T hi = .sc (.int k 0)) (hmx : ev T mx = .sc (.int k' 0)) (hch : (evO T hi).cond = true) (hcm : (evO T mx).cond = true) (hes : ∀ v ∈ es, v.cells.length = z) : OpS C o T H nx ⟨.e0, [], 0, rb⟩ := by
  refine opS_pure fun T' H' D g a w hr hT hH => ?_
  have r1 := one_rep hr (hT x (by simp [h, Op.operands])) hc
  have r2 := one_rep hr (hT hi (by simp [h, Op.operands])) hch
  have r3 := one_rep hr (hT mx (by simp [h, Op.operands])) hcm
  rw [hhi] at r2; rw [hmx] at r3
  have v2 := r2.sc_inv
  have v3 := r3.sc_inv
  obtain ⟨a0, c, news, hv, _⟩ := rep_asrc (H := H) hr hH r1 hx hes
  obtain ⟨i, k1, k2, k3, k4, k5, k6, k7⟩ := elI_some he
  refine ⟨.slice (if (0 : Nat) = 0 then a0 else a0.map (·.add (0 * z))) (0 - 0) (0 - 0), ?_, .e0 _⟩
  have hsb : ∀ (k : IntKind) (y : Nat) (code : BoundsCode), (Instr.sliceBound (.int k 0) y code).run C.P w = .ok 0 w := by
    intro k y code
    simp only [Instr.sliceBound, asIntOf, Sem.run_bind, Sem.run_pure, Result.andThen_ok]
    rw [if_pos ⟨by omega, by omega⟩]; rfl
  have hbounds : (Instr.sliceBounds true es.length c (none : Option Value) (some (.int k 0)) (some (.int k' 0))).run C.P w = .ok (0, 0, 0) w := by
    simp [Instr.sliceBounds, hsb]
  have hsl : (Instr.slice t (.slice a0 es.length c) none (some (.int k 0)) (some (.int k' 0))).run C.P w = .ok (.slice (if (0 : Nat) = 0 then a0 else a0.map (·.add (0 * z))) (0 - 0) (0 - 0)) w := by
    unfold Instr.slice
    simp only [Sem.run_bind, run_underlying k1, Result.andThen_ok, hbounds, run_sizeOf' k2, Sem.run_pure, k3]
  unfold execOp
  simp only [h, hv, v2, v3, Option.map_none, Option.map_some, Instr.sliceAt, Sem.run_bind, run_underlying k1, Result.andThen_ok, hsl, Sem.run_pure]

/-- append onto a slice without room: a row of one's own. -/
theorem opS_append_e0 {t e z by_ : Nat} {ag : Bool} {x y : Operand} {zs : List Value} {es : List AV} {rb : List Nat} (h : o.op = .call { callee := .builtin .append, args := #[x, y], argTypes := #[t, t] })
    (hc : (evO T x).cond = true) (hc' : (evO T y).cond = true) (hx : ev T x = .e0) (hy : asrc H (ev T y) = some (es, rb)) (he : elI C.P t = some (e, z, by_, ag)) (hz : zI C.P e = some zs) (hzl : zs.length = z)
    (hes : ∀ v ∈ es, v.cells.length = z ∧ ∀ c ∈ v.cells, c.one = true) (h63 : es.length ≤ maxLen) (hbytes : es.length * by_ ≤ 140737488355328) :
    OpS C o T H nx ⟨.ow nx 0, [(nx, .row e z 0 es)], 1, rb⟩ := by
  intro T' H' D g a w hr hT hH hn K Q hK
  have hn0 : ¬ D nx := hn 0 (Nat.lt_succ_self 0)
  have r1 := one_rep hr (hT x (by simp [h, Op.operands, Call.operands])) hc
  have r2 := one_rep hr (hT y (by simp [h, Op.operands, Call.operands])) hc'
  rw [hx] at r1
  obtain ⟨b0, hv1⟩ := r1.e0_inv
  have hzz : ∀ v ∈ es, v.cells.length = z := fun v hv => (hes v hv).1
  obtain ⟨a0, c, news, hv2, hnl, hcell, hnr⟩ := rep_asrc (H := H) hr hH r2 hy hzz
  obtain ⟨i, k1, k2, k3, k4, k5, k6, k7⟩ := elI_some he
  have hzp : 0 < z := by omega
  have h1 : ∀ u ∈ news, u.oneCell' = true := by
    intro u hu
    obtain ⟨j, hj, rfl⟩ := List.mem_iff_getElem.1 hu
    have hdiv : j / z < es.length := by rw [Nat.div_lt_iff_lt_mul hzp]; omega
    have hmod := Nat.mod_lt j hzp
    have hjj : j / z * z + j % z = j := by rw [Nat.mul_comm]; exact Nat.div_add_mod j z
    have hrep := hnr (j / z) hdiv (j % z) hmod
    rw [hjj, List.getD_eq_getElem?_getD (l := news), List.getElem?_eq_getElem hj] at hrep
    have hm := getD_mem (d := .und) hdiv
    exact hrep.oneCell ((hes _ hm).2 _ (getD_mem (by rw [hzz _ hm]; exact hmod)))
  obtain ⟨v', w', hrun, ho', hgr, hnb, hnb0⟩ := run_append_e0 (P := C.P) (ty := o.type) w he hz hzl b0 a0 es.length c news hnl hcell h1 h63 hbytes
  have hrun' : (execOp a.eval o).run C.P w = .ok (.value v') w' := by
    unfold execOp
    simp only [h, resolve, invoke, builtin, Sem.run_bind, Sem.run_pure, Result.andThen_ok, List.map_toArray, List.map_cons, List.map_nil, hv1, hv2, hrun]
  obtain ⟨a2, c2, hsl, _⟩ := ho'.slice
  subst hsl
  have hrel := hr.newown (x0 := .row e z 0 es) (gl := [.slice a2 es.length c2]) (w' := w') hn0 ⟨hgr.os, hgr.tape, hgr.output, hgr.size, fun k hk _ => hgr.block k hk (by simp), run_drawn hrun⟩ (fun k hk => by
    have hk' : rowBlk (.slice a2 es.length c2) = some k := by simpa [ownBlk, updF] using hk
    rcases Nat.eq_zero_or_pos es.length with h0 | h0
    · have := hnb0 h0
      rw [this] at hk'
      cases b0 <;> cases hk'
    · exact hnb k (rowBlk_own hk') h0) (fun hl hxt => ⟨.slice a2 es.length c2, news, by simp [updF], by simp [updF], ho', hzz, fun i hi j hj => (hnr i hi j hj).later hl hxt⟩)
  refine wp_of_value hrun' (hK _ w' _ (hrel.dmono fun b hb => ?_) (.ow nx 0 a2 _ c2 (by simp [updF])))
  rcases hb with hb | rfl
  · exact .inl hb
  · exact .inr ⟨Nat.le_refl _, Nat.lt_succ_self _⟩
end
end Go.AL
