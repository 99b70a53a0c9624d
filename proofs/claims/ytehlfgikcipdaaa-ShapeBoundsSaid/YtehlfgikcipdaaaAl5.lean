/-
  The abstract logic: operations on boxes, pointers and slices. Conditions: none.
-/
import Derived.Test.YtehlfgikcipdaaaAl4
set_option linter.all false
namespace Go.AL
open Go.RowKit

theorem cells_agg (cs : List AV) : (AV.agg cs).cells = cs := rfl
def AV.subv (v : AV) (off sz : Nat) (agg : Bool) : AV := if agg then .agg ((v.cells.drop off).take sz) else v.cells.getD off .und
def AV.setv (v : AV) (off : Nat) (x : AV) : AV :=
  if off = 0 ∧ x.cells.length = v.cells.length then x else .agg (v.cells.take off ++ x.cells ++ v.cells.drop (off + x.cells.length))

theorem getD_drop_take {α : Type} (l : List α) (off sz j : Nat) (d : α) (hj : j < sz) (h : off + sz ≤ l.length) : ((l.drop off).take sz).getD j d = l.getD (off + j) d := by
  rw [List.getD_eq_getElem?_getD, List.getD_eq_getElem?_getD, List.getElem?_take, if_pos hj, List.getElem?_drop]

theorem add_addr (blk off i : Nat) : (⟨blk, off, none⟩ : Addr).add i = ⟨blk, off + i, none⟩ := by
  unfold Addr.add; split <;> simp_all

theorem run_isAgg (P : Program) (t : TypeId) (w : World) {d : TypeDesc} (h : P.underlying t = some d) : (isAgg t).run P w = .ok (aggB P t) w := by
  unfold isAgg aggB
  simp only [Sem.run_bind, run_underlying h, Result.andThen_ok, h]
  cases d <;> rfl

theorem run_loadVar_cells {P : Program} {t : TypeId} {n : Nat} {b : Bool} {w : World} {blk off : Nat} {f : Nat → Value} (ht : tyI P t = some (n, b)) (hn : b = false → n = 1)
    (hc : ∀ j, j < n → w.cell? ⟨blk, off + j, none⟩ = some (f j)) :
    (loadVar t ⟨blk, off, none⟩).run P w = .ok (if b then .agg ((List.range n).map f).toArray else f 0) w := by
  obtain ⟨i, d, h1, h2, rfl, rfl⟩ := tyI_some ht
  unfold loadVar
  simp only [Sem.run_bind, run_isAgg P t w h2, Result.andThen_ok]
  cases hb : aggB P t with
  | true =>
    simp only [if_true, Sem.run_bind]
    unfold sizeOf
    simp only [Sem.run_bind, run_typeInfo w h1, Result.andThen_ok, Sem.run_pure]
    rw [run_loadCells w ⟨blk, off, none⟩ i.size f (fun j hj => by rw [add_addr]; exact hc j hj)]
    rfl
  | false =>
    have h0 := hc 0 (by rw [hn hb]; exact Nat.one_pos)
    simp only [Bool.false_eq_true, if_false]
    show (Sem.load Mode.plain ⟨blk, off, none⟩ Sem.pure).run P w = _
    simp only [Sem.run]
    rw [Nat.add_zero] at h0
    rw [h0]

section
variable {C : Cx} {o : Oper} {T : Nat → AV} {H : Nat → Option ABox} {nx : Nat}

/-- a load out of a box. -/
theorem opS_load_pt {t : TypeId} {x : Operand} {b off n : Nat} {ag : Bool} {v : AV} (h : o.op = .load t x) (hc : (evO T x).cond = true) (hx : ev T x = .pt b off) (hb : H b = some (.var v))
    (ht : tyI C.P t = some (n, ag)) (hn : ag = false → n = 1) (hfit : off + n ≤ v.cells.length) : OpS C o T H nx ⟨v.subv off n ag, [], 0, [b]⟩ := by
  refine opS_pure fun T' H' D g a w hr hT hH => ?_
  have e1 : evO T' x = evO T x := hT x (by simp [h, Op.operands])
  have r1 := hr.evO x
  rw [e1] at r1
  have r1 := r1.get hc
  change Rep w _ g (ev T x) _ at r1
  rw [hx] at r1
  obtain ⟨blk, hv, hg⟩ := r1.pt_inv
  have hb' : H' b = some (.var v) := (hH b (by simp)).trans hb
  obtain ⟨blk', vs, ty, h1, h2, h3, h4⟩ := hr.bx b _ hb'
  have : blk' = blk := by rw [hg] at h1; simpa using h1.symm
  subst this
  refine ⟨if ag then .agg ((List.range n).map fun j => vs.getD (off + j) undef).toArray else vs.getD (off + 0) undef, ?_, ?_⟩
  · unfold execOp
    simp only [h, hv, Instr.loadAt, Instr.sureAddr]
    simp only [Sem.run_bind, Sem.run_pure, Result.andThen_ok]
    rw [run_loadVar_cells (f := fun j => vs.getD (off + j) undef) ht hn (fun j hj => by
      rw [cell_of_row w blk' (off + j) vs ty (0, 0) h2]
      have : off + j < vs.size := by omega
      simp [Array.getD, this])]
    simp only [Result.andThen_ok]
  · unfold AV.subv
    cases ag with
    | true =>
      simp only [if_true]
      refine .agg _ _ (by simp; omega) fun j hj => ?_
      have hj' : j < n := by simp at hj; omega
      rw [getD_drop_take _ _ _ _ _ hj' hfit]
      have : ((List.range n).map fun j => vs.getD (off + j) undef).toArray.getD j undef = vs.getD (off + j) undef := by simp [Array.getD, hj']
      rw [this]
      exact h4 _ (by omega)
    | false =>
      have := hn rfl
      simp only [Bool.false_eq_true, if_false]
      exact h4 off (by omega)

/-- a load out of content. -/
theorem opS_load_cp {t : TypeId} {x : Operand} {n : Nat} {ag : Bool} {cs : List AV} (h : o.op = .load t x) (hc : (evO T x).cond = true) (hx : ev T x = .cp cs)
    (ht : tyI C.P t = some (n, ag)) (hn : ag = false → n = 1) (hfit : n ≤ cs.length) : OpS C o T H nx ⟨(AV.agg cs).subv 0 n ag, [], 0, []⟩ := by
  refine opS_pure fun T' H' D g a w hr hT hH => ?_
  have e1 : evO T' x = evO T x := hT x (by simp [h, Op.operands])
  have r1 := hr.evO x
  rw [e1] at r1
  have r1 := r1.get hc
  change Rep w _ g (ev T x) _ at r1
  rw [hx] at r1
  obtain ⟨blk, off, f, hv, hO, hlt, h1, h2⟩ := r1.cp_inv
  refine ⟨if ag then .agg ((List.range n).map f).toArray else f 0, ?_, ?_⟩
  · unfold execOp
    simp only [h, hv, Instr.loadAt, Instr.sureAddr]
    simp only [Sem.run_bind, Sem.run_pure, Result.andThen_ok]
    rw [run_loadVar_cells (f := f) ht hn (fun j hj => h1 j (by omega))]
    simp only [Result.andThen_ok]
  · unfold AV.subv
    cases ag with
    | true =>
      simp only [if_true, AV.cells]
      refine .agg _ _ (by simp; omega) fun j hj => ?_
      have hj' : j < n := by simp at hj; omega
      rw [getD_drop_take _ _ _ _ _ hj' (by omega), Nat.zero_add]
      have : ((List.range n).map f).toArray.getD j undef = f j := by simp [Array.getD, hj']
      rw [this]
      exact h2 _ (by omega)
    | false =>
      have := hn rfl
      simp only [Bool.false_eq_true, if_false, AV.cells]
      exact h2 0 (by omega)

/-- a new box that holds a value. -/
theorem opS_box {t : TypeId} {x : Operand} (h : o.op = .box t x) (hc : (evO T x).cond = true) (hok : (ev T x).ok = true) : OpS C o T H nx ⟨.pt nx 0, [(nx, .var (ev T x))], 1, []⟩ := by
  intro T' H' D g a w hr hT _ hn K Q hK
  have hn0 : ¬ D nx := hn 0 (Nat.lt_succ_self 0)
  have e1 : evO T' x = evO T x := hT x (by simp [h, Op.operands])
  have r1 := hr.evO x
  rw [e1] at r1
  have r1 := r1.get hc
  change Rep w _ g (ev T x) _ at r1
  obtain ⟨h1, h2⟩ := r1.cells hok
  have hrun : (execOp a.eval o).run C.P w = .ok (.value (.pointer (some ⟨w.heap.size, 0, none⟩))) (w.alloc (.cells (a.eval x).cells t)) := by
    unfold execOp; simp only [h, Instr.box, newVar, newRow, newObj]; rfl
  refine wp_of_value hrun (hK _ _ _ ((hr.newvar hn0 t h1 h2).dmono fun b hb => ?_) (.pt nx 0 w.heap.size (by simp [updF])))
  rcases hb with hb | rfl
  · exact .inl hb
  · exact .inr ⟨Nat.le_refl _, Nat.lt_succ_self _⟩

/-- a store into a box. -/
theorem opS_store {t : TypeId} {x y : Operand} {b off n : Nat} {ag : Bool} {v : AV} (h : o.op = .store t x y) (hc : (evO T x).cond = true) (hc' : (evO T y).cond = true) (hx : ev T x = .pt b off) (hb : H b = some (.var v))
    (ht : tyI C.P t = some (n, ag)) (hok : (ev T y).ok = true) (hone : ∀ c ∈ (ev T y).cells, c.one = true) (hlen : (ev T y).cells.length = n) (hfit : off + n ≤ v.cells.length) :
    OpS C o T H nx ⟨.und, [(b, .var (v.setv off (ev T y)))], 0, [b]⟩ := by
  intro T' H' D g a w hr hT hH _ K Q hK
  have e1 : evO T' x = evO T x := hT x (by simp [h, Op.operands])
  have e2 : evO T' y = evO T y := hT y (by simp [h, Op.operands])
  have r1 := hr.evO x
  have r2 := hr.evO y
  rw [e1] at r1; rw [e2] at r2
  have r1 := r1.get hc
  have r2 := r2.get hc'
  change Rep w _ g (ev T x) _ at r1
  change Rep w _ g (ev T y) _ at r2
  rw [hx] at r1
  obtain ⟨blk, hv, hg⟩ := r1.pt_inv
  obtain ⟨s1, s2⟩ := r2.cells hok
  have hb' : H' b = some (.var v) := (hH b (by simp)).trans hb
  obtain ⟨blk', vs, ty, h1, h2, h3, h4⟩ := hr.bx b _ hb'
  have : blk' = blk := by rw [hg] at h1; simpa using h1.symm
  subst this
  obtain ⟨i, d, hi, hu, rfl, rfl⟩ := tyI_some ht
  have hone' : ∀ u ∈ (a.eval y).cells.toList, u.oneCell' = true := by
    intro u hu
    obtain ⟨j, hj, rfl⟩ := List.mem_iff_getElem.1 hu
    have hj' : j < (a.eval y).cells.size := by simpa using hj
    have := s2 j (by omega)
    have e : (a.eval y).cells.getD j undef = (a.eval y).cells[j] := by simp [Array.getD, hj']
    rw [e] at this
    exact this.oneCell (hone _ (getD_mem (by omega)))
  have hst := run_storeCells_at (P := C.P) blk' off ty (a.eval y).cells.toList 0 vs w h2 (by simp; omega) hone'
  rw [Nat.add_zero] at hst
  have hsz : (sizeOf t).run C.P w = .ok i.size w := by
    unfold sizeOf; simp only [Sem.run_bind, run_typeInfo w hi, Result.andThen_ok, Sem.run_pure]
  have hrun : (execOp a.eval o).run C.P w = .ok .skip (w.setRow blk' (vs.toList.take off ++ (a.eval y).cells.toList ++ vs.toList.drop (off + (a.eval y).cells.toList.length)).toArray) := by
    unfold execOp
    simp only [h, hv, Instr.storeAt, Instr.sureAddr, storeVar, Sem.run_bind, Sem.run_pure, Result.andThen_ok, hsz]
    rw [if_neg (by simp; omega)]
    simp only [Sem.run_bind, Sem.run_pure, Result.andThen_ok, hst]
  refine wp_of_skip hrun (hK _ _ g ((hr.setvar hb' hg h2 (setRow_heap w blk' vs _ ty (0, 0) h2) ?_ rfl rfl rfl (by simp) (Nat.le_refl _) (fun k hk => setRow_other w blk' k _ hk) ?_).dmono fun b hb => .inl hb) (.und _))
  · unfold AV.setv
    split
    · rename_i hw; obtain ⟨rfl, hw⟩ := hw
      simp; omega
    · rw [cells_agg]; simp; omega
  · intro j hj
    have hcell : ∀ j, j < vs.size → (vs.toList.take off ++ (a.eval y).cells.toList ++ vs.toList.drop (off + (a.eval y).cells.toList.length)).toArray.getD j undef =
        if off ≤ j ∧ j < off + i.size then (a.eval y).cells.getD (j - off) undef else vs.getD j undef := by
      intro j hj
      have hs : (a.eval y).cells.toList.length = i.size := by simp; omega
      rw [Array.getD_eq_getD_getElem?]
      simp only [List.getElem?_toArray]
      by_cases c1 : j < off
      · rw [if_neg (by omega), List.append_assoc, List.getElem?_append_left (by simp; omega), List.getElem?_take, if_pos c1]
        simp [Array.getD, hj]
      · by_cases c2 : j < off + i.size
        · rw [if_pos (by omega), List.append_assoc, List.getElem?_append_right (by simp; omega), List.getElem?_append_left (by simp; omega)]
          have hm : min off vs.size = off := by omega
          simp only [List.length_take, Array.length_toList, hm]
          have : j - off < (a.eval y).cells.size := by omega
          simp [Array.getD, this]
        · rw [if_neg (by omega), List.getElem?_append_right (by simp; omega)]
          have hm : min off vs.size = off := by omega
          simp only [List.length_append, List.length_take, Array.length_toList, hm, hs, List.getElem?_drop]
          have e : off + i.size + (j - (off + i.size)) = j := by omega
          rw [e]
          simp [Array.getD, hj]
    have hvl : (v.setv off (ev T y)).cells.length = v.cells.length := by
      unfold AV.setv; split
      · rename_i hw; exact hw.2
      · rw [cells_agg]; simp; omega
    rw [hcell j (by omega)]
    have hav : (v.setv off (ev T y)).cells.getD j .und = if off ≤ j ∧ j < off + i.size then (ev T y).cells.getD (j - off) .und else v.cells.getD j .und := by
      unfold AV.setv
      split
      · rename_i hw; obtain ⟨rfl, hw⟩ := hw
        rw [if_pos (by omega)]; rfl
      · rw [cells_agg, List.getD_eq_getElem?_getD]
        by_cases c1 : j < off
        · rw [if_neg (by omega), List.append_assoc, List.getElem?_append_left (by simp; omega), List.getElem?_take, if_pos c1, List.getD_eq_getElem?_getD]
        · by_cases c2 : j < off + i.size
          · rw [if_pos (by omega), List.append_assoc, List.getElem?_append_right (by simp; omega), List.getElem?_append_left (by simp; omega)]
            have hm : min off v.cells.length = off := by omega
            simp only [List.length_take, hm, List.getD_eq_getElem?_getD]
          · rw [if_neg (by omega), List.getElem?_append_right (by simp; omega)]
            have hm : min off v.cells.length = off := by omega
            simp only [List.length_append, List.length_take, hm, List.getElem?_drop, List.getD_eq_getElem?_getD]
            have e : off + (ev T y).cells.length + (j - (off + (ev T y).cells.length)) = j := by omega
            rw [e]
    rw [hav]
    split
    · exact s2 _ (by omega)
    · exact h4 j (by omega)
end
end Go.AL
