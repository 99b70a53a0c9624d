/-
  The abstract logic: fields, indexes, conversions, lengths. Conditions: none.
-/
import Derived.Test.YtehlfgikcipdaaaAl5
set_option linter.all false
namespace Go.AL
open Go.RowKit

theorem run_sizeOf' {P : Program} {t : TypeId} {i : TypeInfo} (h : P.info? t = some i) (w : World) : (sizeOf t).run P w = .ok i.size w := by
  unfold sizeOf; simp only [Sem.run_bind, run_typeInfo w h, Result.andThen_ok, Sem.run_pure]

theorem run_fieldAt {P : Program} {s f fo sz blk off : Nat} {ag : Bool} (h : fldI P s f = some (fo, sz, ag)) (w : World) :
    (Instr.fieldAt s (.pointer (some ⟨blk, off, none⟩)) f).run P w = .ok (.pointer (some ⟨blk, off + fo, none⟩)) w := by
  obtain ⟨fs, fd, h1, h2, h3, h4, h6, h7⟩ := fldI_some h
  obtain ⟨i, d, hi, hu, hz, _⟩ := tyI_some h3
  unfold Instr.fieldAt
  simp only [Sem.run_bind, run_underlying h1, Result.andThen_ok, h2, Instr.sureAddr, Sem.run_pure, fieldPlace, run_sizeOf' hi]
  rw [if_neg (by omega)]
  simp only [Sem.run_pure, Result.andThen_ok, add_addr, h6]

theorem run_part {P : Program} {t n off : Nat} {ag : Bool} (ht : tyI P t = some (n, ag)) (hn : ag = false → n = 1) (w : World) (cs : Array Value) (hc : off + n ≤ cs.size) :
    (part t cs off).run P w = .ok (if ag then .agg (cs.extract off (off + n)) else cs.getD off undef) w := by
  obtain ⟨i, d, hi, hu, rfl, rfl⟩ := tyI_some ht
  unfold part
  simp only [Sem.run_bind, run_isAgg P t w hu, Result.andThen_ok]
  cases hb : aggB P t with
  | true => simp only [if_true, Sem.run_bind, run_sizeOf' hi, Result.andThen_ok, Sem.run_pure]
  | false =>
    have := hn hb
    have hlt : off < cs.size := by omega
    simp only [Bool.false_eq_true, if_false, Array.getElem?_eq_getElem hlt, Sem.run_pure]
    simp [Array.getD, hlt]

section
variable {C : Cx} {o : Oper} {T : Nat → AV} {H : Nat → Option ABox} {nx : Nat}

/-- one operand, looked at. -/
theorem one_rep {T' : Nat → AV} {H' : Nat → Option ABox} {D : Nat → Prop} {g : Nat → List Value} {a : Act} {w : World} {x : Operand}
    (hr : Rel C T' H' D g a w) (hT : evO T' x = evO T x) (hc : (evO T x).cond = true) : Rep w (Own C.O g H') g (ev T x) (a.eval x) := by
  have r1 := hr.evO x
  rw [hT] at r1
  exact r1.get hc

theorem opS_fieldAddr_pt {s f fo sz b off : Nat} {ag : Bool} {x : Operand} (h : o.op = .fieldAddr s x f) (hc : (evO T x).cond = true) (hx : ev T x = .pt b off) (hf : fldI C.P s f = some (fo, sz, ag)) :
    OpS C o T H nx ⟨.pt b (off + fo), [], 0, []⟩ := by
  refine opS_pure fun T' H' D g a w hr hT hH => ?_
  have r1 := one_rep hr (hT x (by simp [h, Op.operands])) hc
  rw [hx] at r1
  obtain ⟨blk, hv, hg⟩ := r1.pt_inv
  refine ⟨_, ?_, .pt b (off + fo) blk hg⟩
  unfold execOp
  simp only [h, hv, Sem.run_bind, run_fieldAt hf, Result.andThen_ok, Sem.run_pure]

theorem opS_fieldAddr_cp {s f fo sz : Nat} {ag : Bool} {x : Operand} {cs : List AV} (h : o.op = .fieldAddr s x f) (hc : (evO T x).cond = true) (hx : ev T x = .cp cs) (hf : fldI C.P s f = some (fo, sz, ag)) :
    OpS C o T H nx ⟨.cp (cs.drop fo), [], 0, []⟩ := by
  refine opS_pure fun T' H' D g a w hr hT hH => ?_
  have r1 := one_rep hr (hT x (by simp [h, Op.operands])) hc
  rw [hx] at r1
  obtain ⟨blk, off, f', hv, hO, hlt, h1, h2⟩ := r1.cp_inv
  refine ⟨_, ?_, .cp _ blk (off + fo) (fun i => f' (fo + i)) hO hlt (fun i hi => ?_) (fun i hi => ?_)⟩
  · unfold execOp
    simp only [h, hv, Sem.run_bind, run_fieldAt hf, Result.andThen_ok, Sem.run_pure]
  · rw [Nat.add_assoc]; exact h1 _ (by simp at hi; omega)
  · have := h2 (fo + i) (by simp at hi; omega)
    rwa [List.getD_eq_getElem?_getD, List.getElem?_drop, ← List.getD_eq_getElem?_getD]

/-- a part of an aggregate that is a value. -/
theorem rep_part {w : World} {O : Nat → Prop} {g : Nat → List Value} {cs : List AV} {vs : Array Value} {off n : Nat} {ag : Bool} (hn : ag = false → n = 1) (hl : vs.size = cs.length) (hfit : off + n ≤ cs.length)
    (h : ∀ j, j < cs.length → Rep w O g (cs.getD j .und) (vs.getD j undef)) : Rep w O g ((AV.agg cs).subv off n ag) (if ag then .agg (vs.extract off (off + n)) else vs.getD off undef) := by
  unfold AV.subv
  cases ag with
  | true =>
    simp only [if_true, cells_agg]
    refine .agg _ _ (by simp; omega) fun j hj => ?_
    have hj' : j < n := by simp at hj; omega
    rw [getD_drop_take _ _ _ _ _ hj' hfit]
    have : (vs.extract off (off + n)).getD j undef = vs.getD (off + j) undef := by
      have h2 : off + j < vs.size := by omega
      rw [Array.getD_eq_getD_getElem?, Array.getD_eq_getD_getElem?, Array.getElem?_extract, if_pos (by omega)]
    rw [this]
    exact h _ (by omega)
  | false =>
    have := hn rfl
    simp only [Bool.false_eq_true, if_false, cells_agg]
    exact h off (by omega)

theorem opS_field {s f fo sz : Nat} {ag : Bool} {x : Operand} {cs : List AV} (h : o.op = .field s x f) (hc : (evO T x).cond = true) (hx : ev T x = .agg cs) (hf : fldI C.P s f = some (fo, sz, ag)) (hfit : fo + sz ≤ cs.length) :
    OpS C o T H nx ⟨(AV.agg cs).subv fo sz ag, [], 0, []⟩ := by
  refine opS_pure fun T' H' D g a w hr hT hH => ?_
  have r1 := one_rep hr (hT x (by simp [h, Op.operands])) hc
  rw [hx] at r1
  obtain ⟨vs, hv, hl, h1⟩ := r1.agg_inv
  obtain ⟨fs, fd, k1, k2, k3, k4, k6, k7⟩ := fldI_some hf
  refine ⟨_, ?_, rep_part k7 hl hfit h1⟩
  have hp := run_part k3 k7 w vs (off := fo) (by omega)
  unfold execOp
  simp only [h, hv, Instr.field, Sem.run_bind, run_underlying k1, Result.andThen_ok, k2, asAgg, Sem.run_pure, k6, hp]

theorem opS_indexAddr {t e n by_ : Nat} {ag : Bool} {x y : Operand} {es : List AV} {k : IntKind} {i : Int} (h : o.op = .indexAddr t x y) (hc : (evO T x).cond = true) (hc' : (evO T y).cond = true) (hx : ev T x = .sl es)
    (hy : ev T y = .sc (.int k i)) (he : elI C.P t = some (e, n, by_, ag)) (h0 : 0 ≤ i) (hi : i < es.length) (hz : (es.getD i.toNat .und).cells.length = n) :
    OpS C o T H nx ⟨.cp (es.getD i.toNat .und).cells, [], 0, []⟩ := by
  refine opS_pure fun T' H' D g a w hr hT hH => ?_
  have r1 := one_rep hr (hT x (by simp [h, Op.operands])) hc
  have r2 := one_rep hr (hT y (by simp [h, Op.operands])) hc'
  rw [hx] at r1; rw [hy] at r2
  obtain ⟨a0, cap, hv, hrest⟩ := r1.sl_inv
  have hv2 := r2.sc_inv
  obtain ⟨hcap, z, blk, off, f, rfl, hzz, hO, hlt, h1, h2⟩ := hrest (by omega)
  obtain ⟨inf, k1, k2, k3, k4, k5, k6, k7⟩ := elI_some he
  have hlt' : i.toNat < es.length := by omega
  have hzn : z = n := by rw [← hz]; exact (hzz _ (getD_mem hlt')).symm
  subst hzn
  have hb : ∀ j, j < z → i.toNat * z + j < es.length * z := fun j hj => by
    have := Nat.mul_le_mul_right z (show i.toNat + 1 ≤ es.length by omega)
    rw [Nat.succ_mul] at this
    omega
  refine ⟨.pointer (some ⟨blk, off + i.toNat * z, none⟩), ?_, .cp _ blk (off + i.toNat * z) (fun j => f (i.toNat * z + j)) hO hlt (fun j hj => ?_) (fun j hj => ?_)⟩
  · unfold execOp
    simp only [h, hv, hv2, Instr.indexAt, asIntOf, Sem.run_bind, Sem.run_pure, Result.andThen_ok, run_underlying k1]
    rw [if_pos ⟨h0, hi⟩]
    simp only [Sem.run_bind, run_sizeOf' k2, Result.andThen_ok, Sem.run_pure, k3, add_addr]
  · rw [Nat.add_assoc]; exact h1 _ (hb j (by omega))
  · exact h2 _ hlt' j (by omega)

/-- an element of an array variable. -/
theorem opS_indexAddr_arr {t m n b off : Nat} {ag : Bool} {x y : Operand} {k : IntKind} {i : Int} (h : o.op = .indexAddr t x y) (hc : (evO T x).cond = true) (hc' : (evO T y).cond = true) (hx : ev T x = .pt b off)
    (hy : ev T y = .sc (.int k i)) (he : arI C.P t = some (m, n, ag)) (h0 : 0 ≤ i) (hi : i < m) : OpS C o T H nx ⟨.pt b (off + i.toNat * n), [], 0, []⟩ := by
  refine opS_pure fun T' H' D g a w hr hT hH => ?_
  have r1 := one_rep hr (hT x (by simp [h, Op.operands])) hc
  have r2 := one_rep hr (hT y (by simp [h, Op.operands])) hc'
  rw [hx] at r1; rw [hy] at r2
  obtain ⟨blk, hv, hg⟩ := r1.pt_inv
  have hv2 := r2.sc_inv
  obtain ⟨e, k1, k2, k3, k4⟩ := arI_some he
  obtain ⟨inf, d, k5, k6, k7, k8⟩ := tyI_some k2
  refine ⟨_, ?_, .pt b (off + i.toNat * n) blk hg⟩
  unfold execOp
  simp only [h, hv, hv2, Instr.indexAt, asIntOf, Instr.sureAddr, Sem.run_bind, Sem.run_pure, Result.andThen_ok, run_underlying k1]
  rw [if_pos ⟨h0, hi⟩]
  simp only [Sem.run_bind, run_sizeOf' k5, Result.andThen_ok, Sem.run_pure, k7, add_addr]

/-- an element of an array that is a value. -/
theorem opS_index {t m n : Nat} {ag : Bool} {x y : Operand} {k : IntKind} {i : Int} {cs : List AV} (h : o.op = .index t x y) (hc : (evO T x).cond = true) (hc' : (evO T y).cond = true) (hx : ev T x = .agg cs)
    (hy : ev T y = .sc (.int k i)) (he : arI C.P t = some (m, n, ag)) (h0 : 0 ≤ i) (hi : i < m) (hfit : i.toNat * n + n ≤ cs.length) : OpS C o T H nx ⟨(AV.agg cs).subv (i.toNat * n) n ag, [], 0, []⟩ := by
  refine opS_pure fun T' H' D g a w hr hT hH => ?_
  have r1 := one_rep hr (hT x (by simp [h, Op.operands])) hc
  have r2 := one_rep hr (hT y (by simp [h, Op.operands])) hc'
  rw [hx] at r1; rw [hy] at r2
  obtain ⟨vs, hv, hl, h1⟩ := r1.agg_inv
  have hv2 := r2.sc_inv
  obtain ⟨e, k1, k2, k3, k4⟩ := arI_some he
  obtain ⟨inf, d, k5, k6, k7, k8⟩ := tyI_some k2
  refine ⟨_, ?_, rep_part k4 hl hfit h1⟩
  have hp := run_part k2 k4 w vs (off := i.toNat * n) (by omega)
  unfold execOp
  simp only [h, hv, hv2, Instr.index, asIntOf, Sem.run_bind, Sem.run_pure, Result.andThen_ok, run_underlying k1]
  rw [if_pos ⟨h0, hi⟩]
  simp only [Sem.run_bind, run_sizeOf' k5, Result.andThen_ok, Sem.run_pure, k7, hp]

theorem opS_extract {x : Operand} {i : Nat} {vs : List AV} (h : o.op = .extract x i) (hc : (evO T x).cond = true) (hx : ev T x = .tup vs) (hi : i < vs.length) : OpS C o T H nx ⟨vs.getD i .und, [], 0, []⟩ := by
  refine opS_pure fun T' H' D g a w hr hT hH => ?_
  have r1 := one_rep hr (hT x (by simp [h, Op.operands])) hc
  rw [hx] at r1
  obtain ⟨us, hv, hl, h1⟩ := r1.tup_inv
  refine ⟨_, ?_, h1 i hi⟩
  have hlt : i < us.size := by omega
  unfold execOp
  simp only [h, hv, Instr.extract, Array.getElem?_eq_getElem hlt, Sem.run_bind, Sem.run_pure, Result.andThen_ok]
  simp [Array.getD, hlt]

def AV.ptr : AV → Bool
  | .pt _ _ | .cp _ | .clo _ _ | .rp _ _ _ _ _ => true
  | _ => false
theorem opS_nilCheck {x : Operand} (h : o.op = .nilCheck x) (hc : (evO T x).cond = true) (hx : (ev T x).ptr = true) : OpS C o T H nx ⟨ev T x, [], 0, []⟩ := by
  refine opS_pure fun T' H' D g a w hr hT hH => ?_
  have r1 := one_rep hr (hT x (by simp [h, Op.operands])) hc
  refine ⟨_, ?_, r1⟩
  generalize hy : ev T x = y at r1 hx
  unfold execOp
  simp only [h]
  cases y <;> simp [AV.ptr] at hx
  · obtain ⟨blk, off, f, hv, _⟩ := r1.cp_inv; rw [hv]; rfl
  · obtain ⟨blk, hv, _⟩ := r1.pt_inv; rw [hv]; rfl
  · obtain ⟨blk, n, c, hv, _⟩ := r1.rp_inv; rw [hv]; rfl
  · obtain ⟨vs, hv, _⟩ := r1.clo_inv; rw [hv]; rfl

theorem opS_makeFunc {f : Nat} {cap : Array Operand} (h : o.op = .makeFunc (.func f) #[] cap) (hc : ∀ x ∈ cap, (evO T x).cond = true) : OpS C o T H nx ⟨.clo f (cap.toList.map (ev T)), [], 0, []⟩ := by
  refine opS_pure fun T' H' D g a w hr hT hH => ?_
  refine ⟨.func (.func f) #[] (cap.map a.eval), ?_, .clo f _ _ (by simp) fun j hj => ?_⟩
  · unfold execOp
    simp only [h, Instr.makeFunc, Array.map_empty, Sem.run_bind, Sem.run_pure, Result.andThen_ok]
  · have hj' : j < cap.size := by simpa using hj
    have e1 : (cap.toList.map (ev T)).getD j .und = ev T cap[j] := by
      rw [List.getD_eq_getElem?_getD, List.getElem?_map]; simp [hj']
    have e2 : (cap.map a.eval).getD j undef = a.eval cap[j] := by simp [Array.getD, hj']
    rw [e1, e2]
    exact one_rep hr (hT _ (by simp [h, Op.operands])) (hc _ (Array.getElem_mem hj'))

def ikI (P : Program) (t : TypeId) : Option IntKind := match P.underlying t with
  | some (.int k) => some k
  | _ => none
theorem opS_convert {s t : Nat} {x : Operand} {k k' : IntKind} {n : Int} (h : o.op = .convert s t x) (hc : (evO T x).cond = true) (hx : ev T x = .sc (.int k n)) (hs : ikI C.P s ≠ none) (ht : ikI C.P t = some k') :
    OpS C o T H nx ⟨.sc (.int k' (k'.wrap n)), [], 0, []⟩ := by
  refine opS_pure fun T' H' D g a w hr hT hH => ?_
  have r1 := one_rep hr (hT x (by simp [h, Op.operands])) hc
  rw [hx] at r1
  have hv := r1.sc_inv
  have h1 : C.P.underlying t = some (.int k') := by unfold ikI at ht; split at ht <;> simp_all
  obtain ⟨k2, h2⟩ : ∃ k2, C.P.underlying s = some (.int k2) := by
    unfold ikI at hs; split at hs
    · exact ⟨_, by assumption⟩
    · exact absurd rfl hs
  refine ⟨_, ?_, .sc _⟩
  unfold execOp
  simp only [h, hv, convert, Sem.run_bind, run_underlying h1, run_underlying h2, Result.andThen_ok, Conv.intToInt, Sem.run_pure]

def aun (op : UnOp) : AV → Option AV
  | .sc (.int k n) => match op with
    | .neg => some (.sc (.int k (k.wrap (0 - n))))
    | _ => none
  | .sc (.bool b) => match op with
    | .not => some (.sc (.bool !b))
    | _ => none
  | _ => none
theorem opS_un {op : UnOp} {t : Nat} {x : Operand} {v : AV} (h : o.op = .unOp op t x) (hc : (evO T x).cond = true) (hv : aun op (ev T x) = some v) : OpS C o T H nx ⟨v, [], 0, []⟩ := by
  refine opS_pure fun T' H' D g a w hr hT hH => ?_
  have r1 := one_rep hr (hT x (by simp [h, Op.operands])) hc
  unfold aun at hv
  split at hv
  · rename_i k n hx
    rw [hx] at r1
    have hv' := r1.sc_inv
    split at hv
    · cases hv
      refine ⟨_, ?_, .sc _⟩
      unfold execOp
      simp [h, hv', Op.unary, Op.intArith]
    · cases hv
  · rename_i b hx
    rw [hx] at r1
    have hv' := r1.sc_inv
    split at hv
    · cases hv
      refine ⟨_, ?_, .sc _⟩
      unfold execOp
      simp [h, hv', Op.unary]
    · cases hv
  · cases hv
end
end Go.AL
