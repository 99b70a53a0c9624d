/-
  The abstract logic: single operations, what each gives over abstract values, and that it does. Conditions: none.
-/
import Derived.Test.YtehlfgikcipdaaaAl3
set_option linter.all false
namespace Go.AL
open Go.RowKit

def avCell : Value → AV
  | .slice none 0 0 => .sl []
  | v => .sc v
def avOf : Value → AV
  | .agg cs => .agg (cs.toList.map avCell)
  | v => avCell v
def evO (T : Nat → AV) : Operand → AV
  | .tmp t => T t
  | .const v => avOf v
  | .func f => .clo f []
  | .global _ => .und
def ev (T : Nat → AV) (x : Operand) : AV := (evO T x).get

theorem rep_avCell (w : World) (O : Nat → Prop) (g : Nat → List Value) (v : Value) : Rep w O g (avCell v) v := by
  unfold avCell
  split
  · exact .sl0 none 0
  · exact .sc v
theorem rep_avOf (w : World) (O : Nat → Prop) (g : Nat → List Value) (v : Value) : Rep w O g (avOf v) v := by
  cases v with
  | agg cs =>
    refine .agg _ _ (by simp) fun j hj => ?_
    have hj' : j < cs.size := by simpa using hj
    have e1 : (cs.toList.map avCell).getD j AV.und = avCell (cs[j]) := by
      rw [List.getD_eq_getElem?_getD, List.getElem?_map]; simp [hj']
    have e2 : cs.getD j undef = cs[j] := by simp [Array.getD, hj']
    rw [e1, e2]; exact rep_avCell _ _ _ _
  | slice a n c => show Rep w O g (avCell (.slice a n c)) _; exact rep_avCell w O g _
  | _ => exact .sc _

section
variable {C : Cx} {T : Nat → AV} {H : Nat → Option ABox} {D : Nat → Prop} {g : Nat → List Value} {a : Act} {w : World}
theorem Rel.evO (h : Rel C T H D g a w) (x : Operand) : Rep w (Own C.O g H) g (evO T x) (a.eval x) := by
  cases x with
  | tmp t => exact h.tm t
  | const v => exact rep_avOf _ _ _ v
  | func f => exact .clo f [] #[] rfl (fun j hj => by simp at hj)
  | global n => exact .und _
theorem Rel.ev (h : Rel C T H D g a w) (x : Operand) (hc : (AL.evO T x).cond = true) : Rep w (Own C.O g H) g (ev T x) (a.eval x) := (h.evO x).get hc
theorem Rel.dmono {D' : Nat → Prop} (h : Rel C T H D g a w) (hD : ∀ b, D b → D' b) : Rel C T H D' g a w :=
  ⟨h.df, h.sz, h.tm, h.bx, fun b hb => h.fresh b (fun hd => hb (hD b hd)), fun b x hx => hD b (h.dom b x hx), h.sep, h.own, h.oo, h.kept, h.old.mono (fun b x hx => ⟨x, hx⟩) hD⟩
end

structure Res where
  v : AV
  wb : List (Nat × ABox)
  nw : Nat
  rb : List Nat

def updL (H : Nat → Option ABox) : List (Nat × ABox) → Nat → Option ABox
  | [] => H
  | (b, x) :: r => updL (updF H b (some x)) r

/-- the operation gives this result, and does just this to the boxes, in whatever frame that agrees on what it looks at. -/
def OpS (C : Cx) (o : Oper) (T : Nat → AV) (H : Nat → Option ABox) (nx : Nat) (r : Res) : Prop :=
  ∀ T' H' D g a w, Rel C T' H' D g a w → (∀ x ∈ o.op.operands, evO T' x = evO T x) → (∀ b ∈ r.rb, H' b = H b) → (∀ i, i < r.nw → ¬ D (nx + i)) →
  ∀ (K : Act → World → Prop) (Q : Exit → Act → World → Prop),
    (∀ v w' g', Rel C T' (updL H' r.wb) (fun c => D c ∨ (nx ≤ c ∧ c < nx + r.nw)) g' a w' → Rep w' (Own C.O g' (updL H' r.wb)) g' r.v v → K (a.put o.dst v) w') → o.wp C.P a w K Q

theorem wp_of_value {P : Program} {o : Oper} {a : Act} {w w' : World} {v : Value} {K : Act → World → Prop} {Q : Exit → Act → World → Prop}
    (h : (execOp a.eval o).run P w = .ok (.value v) w') (hk : K (a.put o.dst v) w') : o.wp P a w K Q := by
  unfold Oper.wp; rw [h]; exact hk
theorem wp_of_skip {P : Program} {o : Oper} {a : Act} {w w' : World} {K : Act → World → Prop} {Q : Exit → Act → World → Prop}
    (h : (execOp a.eval o).run P w = .ok .skip w') (hk : K (a.put o.dst undef) w') : o.wp P a w K Q := by
  unfold Oper.wp; rw [h]; exact hk

/-- an operation that only computes. -/
theorem opS_pure {C : Cx} {o : Oper} {T : Nat → AV} {H : Nat → Option ABox} {nx : Nat} {v : AV} {rb : List Nat}
    (h : ∀ T' H' D g a w, Rel C T' H' D g a w → (∀ x ∈ o.op.operands, evO T' x = evO T x) → (∀ b ∈ rb, H' b = H b) →
      ∃ val, (execOp a.eval o).run C.P w = .ok (.value val) w ∧ Rep w (Own C.O g H') g v val) : OpS C o T H nx ⟨v, [], 0, rb⟩ := by
  intro T' H' D g a w hr hT hH _ K Q hK
  obtain ⟨val, h1, h2⟩ := h T' H' D g a w hr hT hH
  refine wp_of_value h1 (hK val w g (hr.dmono fun b hb => .inl hb) h2)

def conds (T : Nat → AV) (o : Oper) : Prop := ∀ x ∈ o.op.operands, (evO T x).cond = true

/-- integer operations. -/
def aint (op : BinOp) (k : IntKind) (a b : Int) : Option (Prop × AV) :=
  match op with
  | .add => some (True, .sc (.int k (k.wrap (a + b))))
  | .sub => some (True, .sc (.int k (k.wrap (a - b))))
  | .mul => some (True, .sc (.int k (k.wrap (a * b))))
  | .quo => some (b ≠ 0, .sc (.int k (k.wrap (a.tdiv b))))
  | .rem => some (b ≠ 0, .sc (.int k (a.tmod b)))
  | .and => some (True, .sc (.int k (bits .and k a b)))
  | .or => some (True, .sc (.int k (bits .or k a b)))
  | .eql => some (True, .sc (.bool (decide (a = b))))
  | .neq => some (True, .sc (.bool (!decide (a = b))))
  | .lss => some (True, .sc (.bool (decide (a < b))))
  | .leq => some (True, .sc (.bool (decide (a ≤ b))))
  | .gtr => some (True, .sc (.bool (decide (b < a))))
  | .geq => some (True, .sc (.bool (decide (b ≤ a))))
  | _ => none

/-- a shift. -/
def ash (op : BinOp) (k : IntKind) (a b : Int) : Option (Prop × AV) :=
  match op with
  | .shl => some (0 ≤ b, .sc (.int k (k.wrap (a * 2 ^ (min b.toNat k.bits)))))
  | .shr => some (0 ≤ b, .sc (.int k (a.fdiv (2 ^ (min b.toNat k.bits)))))
  | _ => none

def abin (P : Program) (t : TypeId) (op : BinOp) (x y : AV) : Option (Prop × AV) :=
  match x, y with
  | .sc (.int k a), .sc (.int k' b) => match ash op k a b with
    | some (p, v) => some (p, v)
    | none => match aint op k a b with
      | some (p, v) => some (k = k' ∧ p, v)
      | none => none
  | .sc (.bool a), .sc (.bool b) => match op with
    | .eql => some (P.underlying t = some .bool, .sc (.bool (a == b)))
    | .neq => some (P.underlying t = some .bool, .sc (.bool (!(a == b))))
    | _ => none
  | _, _ => none

/-- equality of structs, cell by cell. -/
def veq : Value → Value → Bool
  | .int _ a, .int _ b => decide (a = b)
  | .bool a, .bool b => a == b
  | _, _ => false
def veqs : List Value → List Value → Bool
  | x :: xs, y :: ys => veq x y && veqs xs ys
  | _, _ => true
def aeq : AV → AV → Bool
  | .sc a, .sc b => veq a b
  | _, _ => false
def aeqs : List AV → List AV → Bool
  | x :: xs, y :: ys => aeq x y && aeqs xs ys
  | _, _ => true
/-- the kinds of cells that are compared: an integer's, or a bool. -/
def kindOf : Value → Option (Option IntKind)
  | .int k _ => some (some k)
  | .bool _ => some none
  | _ => none
def akind : AV → Option (Option IntKind)
  | .sc v => kindOf v
  | _ => none
/-- '==' at type t goes cell by cell, the cells of these kinds. -/
def EqT (P : Program) (t : TypeId) (ks : List (Option IntKind)) : Prop :=
  P.eqGuardType P.depth t = false ∧ ∀ (w : World) (xs ys : Array Value), xs.toList.map kindOf = ks.map some → ys.toList.map kindOf = ks.map some →
    (Op.equalIn 10000 t (.agg xs) (.agg ys)).run P w = .ok (veqs xs.toList ys.toList) w

def apick (c x y : AV) : Option (Prop × AV) :=
  match c.get, x.get, y.get with
  | .sc (.bool c'), .sc (.bool p), .sc (.bool q) => some (c.cond = true ∧ (c' = true → x.cond = true) ∧ (c' = false → y.cond = true), .sc (.bool (bif c' then p else q)))
  | _, _, _ => none

theorem run_move {P : Program} {o : Oper} {a : Act} {w : World} {x : Operand} (h : o.op = .move x ∨ o.op = .assign x) : (execOp a.eval o).run P w = .ok (.value (a.eval x)) w := by
  unfold execOp; rcases h with h | h <;> simp only [h] <;> rfl

section
variable {C : Cx} {o : Oper} {T : Nat → AV} {H : Nat → Option ABox} {nx : Nat}

theorem opS_move {x : Operand} (h : o.op = .move x ∨ o.op = .assign x) (hc : (evO T x).cond = true) : OpS C o T H nx ⟨ev T x, [], 0, []⟩ := by
  refine opS_pure fun T' H' D g a w hr hT _ => ⟨_, run_move h, ?_⟩
  have hx : evO T' x = evO T x := hT x (by rcases h with h | h <;> simp [h, Op.operands])
  have := hr.evO x
  rw [hx] at this
  exact this.get hc

theorem opS_assign_nil (h : o.op = .assign (.const (.slice none 0 0))) : OpS C o T H nx ⟨.ow nx 0, [(nx, .nl)], 1, []⟩ := by
  intro T' H' D g a w hr _ _ hn K Q hK
  have hn0 : ¬ D nx := hn 0 (Nat.lt_succ_self 0)
  refine wp_of_value (run_move (.inr h)) (hK _ w _ ((hr.newnl hn0).dmono fun b hb => ?_) ?_)
  · rcases hb with hb | rfl
    · exact .inl hb
    · exact .inr ⟨Nat.le_refl _, Nat.lt_succ_self _⟩
  · exact .ow nx 0 none 0 0 (by simp [updF])

theorem opS_pick {c x y : Operand} {p : Prop} {v : AV} (h : o.op = .pick c x y) (hp : apick (evO T c) (evO T x) (evO T y) = some (p, v)) (hpp : p) : OpS C o T H nx ⟨v, [], 0, []⟩ := by
  refine opS_pure fun T' H' D g a w hr hT _ => ?_
  have e1 : evO T' c = evO T c := hT c (by simp [h, Op.operands])
  have e2 : evO T' x = evO T x := hT x (by simp [h, Op.operands])
  have e3 : evO T' y = evO T y := hT y (by simp [h, Op.operands])
  have r1 := hr.evO c
  have r2 := hr.evO x
  have r3 := hr.evO y
  rw [e1] at r1; rw [e2] at r2; rw [e3] at r3
  unfold apick at hp
  split at hp
  · rename_i c' p' q' hc hx hy
    simp only [Option.some.injEq, Prod.mk.injEq] at hp
    obtain ⟨rfl, rfl⟩ := hp
    obtain ⟨h1, h2, h3⟩ := hpp
    have r1' := r1.get h1
    rw [hc] at r1'
    have hcv : a.eval c = .bool c' := r1'.sc_inv
    cases c' with
    | true =>
      have r2' := r2.get (h2 rfl)
      rw [hx] at r2'
      refine ⟨a.eval x, ?_, ?_⟩
      · unfold execOp; simp only [h, hcv]; rfl
      · simpa using r2'
    | false =>
      have r3' := r3.get (h3 rfl)
      rw [hy] at r3'
      refine ⟨a.eval y, ?_, ?_⟩
      · unfold execOp; simp only [h, hcv]; rfl
      · simpa using r3'
  · cases hp

theorem run_binOp_int {P : Program} {op : BinOp} {t : TypeId} {k : IntKind} {a b : Int} {p : Prop} {v : AV} {w : World} (hp : aint op k a b = some (p, v)) (hpp : p) :
    ∃ u, v = .sc u ∧ (binOp op t (.int k a) (.int k b)).run P w = .ok u w := by
  cases op <;> simp only [aint] at hp <;> first
    | (cases hp; done)
    | (simp only [Option.some.injEq, Prod.mk.injEq] at hp
       obtain ⟨rfl, rfl⟩ := hp
       refine ⟨_, rfl, ?_⟩
       first
         | (simp [binOp, Op.intArith]; done)
         | (simp [binOp, Op.intCmp]; done)
         | (simp [binOp, Op.intCmp]; rfl)
         | (simp [binOp, Op.intCmp, bne]; rfl)
         | (simp only [binOp, Op.intDiv, ne_eq, not_true_eq_false, if_false, if_neg hpp]; rfl)
         | (simp [binOp, go_sem]; done))

theorem run_eqGuard_int {P : Program} {op : BinOp} {t : TypeId} {x y : Operand} {k k' : IntKind} {a b : Int} {w : World} : (eqGuard op t x y (.int k a) (.int k' b)).run P w = .ok () w := by
  unfold eqGuard; split <;> rfl
theorem run_eqGuard_bool {P : Program} {op : BinOp} {t : TypeId} {x y : Operand} {a b : Bool} {w : World} : (eqGuard op t x y (.bool a) (.bool b)).run P w = .ok () w := by
  unfold eqGuard; split <;> rfl

theorem opS_bin {op : BinOp} {t t' : TypeId} {x y : Operand} {p : Prop} {v : AV} (h : o.op = .binOp op t x y t') (hc1 : (evO T x).cond = true) (hc2 : (evO T y).cond = true)
    (hp : abin C.P t op (ev T x) (ev T y) = some (p, v)) (hpp : p) : OpS C o T H nx ⟨v, [], 0, []⟩ := by
  refine opS_pure fun T' H' D g a w hr hT _ => ?_
  have e1 : evO T' x = evO T x := hT x (by simp [h, Op.operands])
  have e2 : evO T' y = evO T y := hT y (by simp [h, Op.operands])
  have r1 := hr.evO x
  have r2 := hr.evO y
  rw [e1] at r1; rw [e2] at r2
  have r1 := r1.get hc1
  have r2 := r2.get hc2
  change Rep w _ g (ev T x) _ at r1
  change Rep w _ g (ev T y) _ at r2
  unfold abin at hp
  split at hp
  · rename_i k m k' m' hx hy
    rw [hx] at r1; rw [hy] at r2
    have v1 : a.eval x = .int k m := r1.sc_inv
    have v2 : a.eval y = .int k' m' := r2.sc_inv
    split at hp
    · rename_i p' v' hi
      simp only [Option.some.injEq, Prod.mk.injEq] at hp
      obtain ⟨rfl, rfl⟩ := hp
      unfold ash at hi
      split at hi
      · simp only [Option.some.injEq, Prod.mk.injEq] at hi
        obtain ⟨rfl, rfl⟩ := hi
        refine ⟨_, ?_, .sc _⟩
        unfold execOp
        simp [h, v1, v2, Sem.run_bind, run_eqGuard_int, Result.andThen_ok, binOp, Op.shift, Int.not_lt.2 hpp]
      · simp only [Option.some.injEq, Prod.mk.injEq] at hi
        obtain ⟨rfl, rfl⟩ := hi
        refine ⟨_, ?_, .sc _⟩
        unfold execOp
        simp [h, v1, v2, Sem.run_bind, run_eqGuard_int, Result.andThen_ok, binOp, Op.shift, Int.not_lt.2 hpp]
      · cases hi
    · split at hp
      · rename_i p' v' hi
        simp only [Option.some.injEq, Prod.mk.injEq] at hp
        obtain ⟨rfl, rfl⟩ := hp
        obtain ⟨rfl, hp'⟩ := hpp
        obtain ⟨u, rfl, hrun⟩ := run_binOp_int (P := C.P) (t := t) (w := w) hi hp'
        refine ⟨u, ?_, .sc u⟩
        unfold execOp
        simp only [h, v1, v2, Sem.run_bind, run_eqGuard_int, Result.andThen_ok, hrun]
        rfl
      · cases hp
  · rename_i m m' hx hy
    rw [hx] at r1; rw [hy] at r2
    have v1 : a.eval x = .bool m := r1.sc_inv
    have v2 : a.eval y = .bool m' := r2.sc_inv
    split at hp
    · simp only [Option.some.injEq, Prod.mk.injEq] at hp
      obtain ⟨rfl, rfl⟩ := hp
      have hu := hpp
      refine ⟨_, ?_, .sc _⟩
      unfold execOp
      simp [h, v1, v2, Sem.run_bind, run_eqGuard_bool, Result.andThen_ok, binOp, Op.equal, Op.maxDepth, run_equalIn_bool' w 9999 t m m' hu]
    · simp only [Option.some.injEq, Prod.mk.injEq] at hp
      obtain ⟨rfl, rfl⟩ := hp
      have hu := hpp
      refine ⟨_, ?_, .sc _⟩
      unfold execOp
      simp [h, v1, v2, Sem.run_bind, run_eqGuard_bool, Result.andThen_ok, binOp, Op.equal, Op.maxDepth, run_equalIn_bool' w 9999 t m m' hu]
    · cases hp
  · cases hp
end
end Go.AL
