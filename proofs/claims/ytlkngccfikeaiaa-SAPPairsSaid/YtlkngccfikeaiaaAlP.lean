/-
  The abstract logic: pointers compared, maps whose values are abstract. Conditions: none, over any program.
-/
import Derived.Test.YtlkngccfikeaiaaAl24
import Derived.Test.YtlkngccfikeaiaaAlD
import Derived.LaidEql
import Derived.WideLaws
import Derived.Test.YtlkngccfikeaiaaAlB
import Derived.Test.YtlkngccfikeaiaaAlC
set_option linter.all false
namespace Go.AL
open Go Go.RowKit
/-! ### pointers compared -/
class HasPt (P : Program) (t : TypeId) : Prop where
  m : ∃ e j, P.underlying t = some (.pointer e) ∧ P.info? e = some j ∧ j.size ≠ 0
theorem run_eqGuard_ptr {P : Program} {op : BinOp} {t : TypeId} {x y : Operand} {a b : Option Addr} {w : World} : (eqGuard op t x y (.pointer a) (.pointer b)).run P w = .ok () w := by
  unfold eqGuard; split <;> rfl
theorem run_peq {P : Program} {t : TypeId} {op : BinOp} {a b : Option Addr} {w : World} {r : Bool} (hop : op = .eql ∨ op = .neq) (h : (Op.equal t (.pointer a) (.pointer b)).run P w = .ok r w) :
    (binOp op t (.pointer a) (.pointer b)).run P w = .ok (.bool (if op = .eql then r else !r)) w := by
  rcases hop with rfl | rfl
  · simp only [binOp, Sem.run_bind, h, Result.andThen_ok]; rfl
  · simp only [binOp, Sem.run_bind, h, Result.andThen_ok]; rfl
section
variable {C : Cx} {o : Oper} {T : Nat → AV} {H : Nat → Option ABox} {nx : Nat}
theorem opS_peq {op : BinOp} {t t' : TypeId} {x y : Operand} {r : Bool} {rb : List Nat} (h : o.op = .binOp op t x y t') (hop : op = .eql ∨ op = .neq) (hc : (evO T x).cond = true) (hc' : (evO T y).cond = true)
    (hv : ∀ T' H' D g a w, Rel C T' H' D g a w → (∀ b ∈ rb, H' b = H b) → ∀ u v, Rep w (Own C.O g H') g (ev T x) u → Rep w (Own C.O g H') g (ev T y) v → ∃ p q, u = .pointer p ∧ v = .pointer q ∧ (Op.equal t (.pointer p) (.pointer q)).run C.P w = .ok r w) :
    OpS C o T H nx ⟨.sc (.bool (if op = .eql then r else !r)), [], 0, rb⟩ := by
  refine opS_pure fun T' H' D g a w hr hT hH => ?_
  have r1 := one_rep hr (hT x (by simp [h, Op.operands])) hc
  have r2 := one_rep hr (hT y (by simp [h, Op.operands])) hc'
  obtain ⟨p, q, e1, e2, e3⟩ := hv T' H' D g a w hr hH _ _ r1 r2
  refine ⟨_, ?_, .sc _⟩
  unfold execOp
  simp only [h, e1, e2, Sem.run_bind, run_eqGuard_ptr, Result.andThen_ok, run_peq hop e3]
  rfl
theorem eqIn_nil {P : Program} {t e : TypeId} {a b : Option Addr} {w : World} (d : Nat) (hu : P.underlying t = some (.pointer e)) (h : a = none ∨ b = none) : (Op.equalIn (d + 1) t (.pointer a) (.pointer b)).run P w = .ok (a.isNone && b.isNone) w := by
  rcases h with rfl | rfl
  · simp [Op.equalIn, run_underlying hu]
  · cases a <;> simp [Op.equalIn, run_underlying hu]
theorem eqp_nil {P : Program} {t e : TypeId} {a b : Option Addr} {w : World} (hu : P.underlying t = some (.pointer e)) (h : a = none ∨ b = none) : (Op.equal t (.pointer a) (.pointer b)).run P w = .ok (a.isNone && b.isNone) w := eqIn_nil 9999 hu h
theorem eqIn_some {P : Program} {t e : TypeId} {j : TypeInfo} {a b : Addr} {w : World} {r : Bool} (d : Nat) (hu : P.underlying t = some (.pointer e)) (hi : P.info? e = some j) (hs : j.size ≠ 0) (h : (sameAddr a b).run P w = .ok r w) :
    (Op.equalIn (d + 1) t (.pointer (some a)) (.pointer (some b))).run P w = .ok r w := by
  simp [Op.equalIn, run_underlying hu, sizeOf, typeInfo, hi, hs, h]
theorem eqp_some {P : Program} {t e : TypeId} {j : TypeInfo} {a b : Addr} {w : World} {r : Bool} (hu : P.underlying t = some (.pointer e)) (hi : P.info? e = some j) (hs : j.size ≠ 0) (h : (sameAddr a b).run P w = .ok r w) :
    (Op.equal t (.pointer (some a)) (.pointer (some b))).run P w = .ok r w := eqIn_some 9999 hu hi hs h
end
inductive IsP : AV → Prop
  | pt (b off : Nat) : IsP (.pt b off)
  | cp (cs : List AV) : IsP (.cp cs)
theorem IsP.val {v : AV} {w : World} {O : Nat → Prop} {g : Nat → List Value} {val : Value} (h : IsP v) (hr : Rep w O g v val) : ∃ a, val = .pointer (some a) := by
  cases h with
  | pt b off => obtain ⟨blk, rfl, _⟩ := hr.pt_inv; exact ⟨_, rfl⟩
  | cp cs => obtain ⟨blk, off, f, rfl, _⟩ := hr.cp_inv; exact ⟨_, rfl⟩
section
variable {P : Program} {T : Nat → AV} {H : Nat → Option ABox} {nx : Nat} {K : Res → Prop} {t t' : TypeId} {op : BinOp} {x y : Operand}
theorem aext_pnn [hM : HasPt P t] (hc : (evO T x).cond = true) (hx : ev T x = .sc (.pointer none)) (hc' : (evO T y).cond = true) (hy : ev T y = .sc (.pointer none)) (hop : op = .eql ∨ op = .neq)
    (hK : K ⟨.sc (.bool (if op = .eql then true else !true)), [], 0, []⟩) : aext P (.binOp op t x y t') T H nx K := ⟨_, hK, fun C o hP ho => by
  subst hP
  obtain ⟨e, j, hu, _⟩ := hM.m
  refine opS_peq ho hop hc hc' fun T' H' D g a w hr _ u v h1 h2 => ?_
  rw [hx] at h1; rw [hy] at h2
  exact ⟨none, none, h1.sc_inv, h2.sc_inv, eqp_nil hu (.inl rfl)⟩⟩
theorem aext_ppn [hM : HasPt P t] (hc : (evO T x).cond = true) (hx : IsP (ev T x)) (hc' : (evO T y).cond = true) (hy : ev T y = .sc (.pointer none)) (hop : op = .eql ∨ op = .neq)
    (hK : K ⟨.sc (.bool (if op = .eql then false else !false)), [], 0, []⟩) : aext P (.binOp op t x y t') T H nx K := ⟨_, hK, fun C o hP ho => by
  subst hP
  obtain ⟨e, j, hu, _⟩ := hM.m
  refine opS_peq ho hop hc hc' fun T' H' D g a w hr _ u v h1 h2 => ?_
  obtain ⟨p, rfl⟩ := hx.val h1
  rw [hy] at h2
  exact ⟨some p, none, rfl, h2.sc_inv, eqp_nil hu (.inr rfl)⟩⟩
theorem aext_psame [hM : HasPt P t] {b off : Nat} (hc : (evO T x).cond = true) (hx : ev T x = .pt b off) (hc' : (evO T y).cond = true) (hy : ev T y = .pt b off) (hop : op = .eql ∨ op = .neq)
    (hK : K ⟨.sc (.bool (if op = .eql then true else !true)), [], 0, []⟩) : aext P (.binOp op t x y t') T H nx K := ⟨_, hK, fun C o hP ho => by
  subst hP
  obtain ⟨e, j, hu, hi, hs⟩ := hM.m
  refine opS_peq ho hop hc hc' fun T' H' D g a w hr _ u v h1 h2 => ?_
  rw [hx] at h1; rw [hy] at h2
  obtain ⟨blk, rfl, g1⟩ := h1.pt_inv
  obtain ⟨blk', rfl, g2⟩ := h2.pt_inv
  have : blk' = blk := by rw [g1] at g2; simpa using g2.symm
  subst this
  exact ⟨_, _, rfl, rfl, eqp_some hu hi hs (run_sameAddr_same w _)⟩⟩
theorem aext_pdiff [hM : HasPt P t] {b b' off off' : Nat} {v v' : AV} (hc : (evO T x).cond = true) (hx : ev T x = .pt b off) (hc' : (evO T y).cond = true) (hy : ev T y = .pt b' off') (hb : H b = some (.var v)) (hb' : H b' = some (.var v')) (hne : b ≠ b') (hop : op = .eql ∨ op = .neq)
    (hK : K ⟨.sc (.bool (if op = .eql then false else !false)), [], 0, [b, b']⟩) : aext P (.binOp op t x y t') T H nx K := ⟨_, hK, fun C o hP ho => by
  subst hP
  obtain ⟨e, j, hu, hi, hs⟩ := hM.m
  refine opS_peq ho hop hc hc' fun T' H' D g a w hr hH u v0 h1 h2 => ?_
  rw [hx] at h1; rw [hy] at h2
  obtain ⟨blk, rfl, g1⟩ := h1.pt_inv
  obtain ⟨blk', rfl, g2⟩ := h2.pt_inv
  have q1 := (hH b (by simp)).trans hb
  have q2 := (hH b' (by simp)).trans hb'
  obtain ⟨k1, vs1, ty1, p1, p2, _⟩ := hr.bx b _ q1
  obtain ⟨k2, vs2, ty2, p3, p4, _⟩ := hr.bx b' _ q2
  have e1 : k1 = blk := by rw [g1] at p1; simpa using p1.symm
  have e2 : k2 = blk' := by rw [g2] at p3; simpa using p3.symm
  subst e1; subst e2
  have hbk : k1 ≠ k2 := by
    rintro rfl
    exact hne (hr.sep b b' _ _ k1 q1 q2 (by simp [ownBlk, g1]) (by simp [ownBlk, g2]))
  exact ⟨_, _, rfl, rfl, eqp_some hu hi hs (run_sameAddr_other w (fun e => hbk (congrArg Addr.block e)) p2 p4)⟩⟩
end
/-! ### maps whose values are abstract -/
theorem getD_appl {α : Type} (l m : List α) (d : α) {j : Nat} (h : j < l.length) : (l ++ m).getD j d = l.getD j d := by rw [List.getD_eq_getElem?_getD, List.getElem?_append_left h, List.getD_eq_getElem?_getD]
theorem getD_appr {α : Type} (l m : List α) (d : α) {j : Nat} (h : l.length ≤ j) : (l ++ m).getD j d = m.getD (j - l.length) d := by rw [List.getD_eq_getElem?_getD, List.getElem?_append_right h, List.getD_eq_getElem?_getD]
def kfind (k : List Value) : List (List Value) → Nat → Option Nat
  | [], _ => none
  | x :: r, i => if veqs k x = true then some i else kfind k r (i + 1)
theorem kfind_ge {k : List Value} : ∀ {ks : List (List Value)} {i j : Nat}, kfind k ks i = some j → i ≤ j ∧ j < i + ks.length
  | [], _, _, h => by cases h
  | x :: r, i, j, h => by
    unfold kfind at h
    split at h
    · simp only [Option.some.injEq] at h; subst h; simp
    · have := kfind_ge h; simp only [List.length_cons]; omega
theorem mfind_zip {k : List Value} : ∀ {ks : List (List Value)} {us : List Value} {i : Nat}, us.length = ks.length → mfind k (ks.zip us) i = (kfind k ks i).map fun j => (j, us.getD (j - i) undef)
  | [], us, i, _ => by simp [mfind, kfind]
  | x :: r, [], i, h => by simp at h
  | x :: r, u :: us, i, h => by
    simp only [List.zip_cons_cons, mfind, kfind]
    by_cases hv : veqs k x = true
    · rw [if_pos hv, if_pos hv]; simp
    · rw [if_neg hv, if_neg hv, mfind_zip (by simpa using h)]
      cases hk : kfind k r (i + 1) with
      | none => rfl
      | some j =>
        have := kfind_ge hk
        simp only [Option.map_some]
        rw [show j - i = (j - (i + 1)) + 1 by omega, List.getD_cons_succ]
theorem MKeys.zip {ks : List (Option IntKind)} {keys : List (List Value)} (h : ∀ k ∈ keys, k.map kindOf = ks.map some) (us : List Value) : MKeys ks (keys.zip us) := fun m hm => h _ (List.of_mem_zip hm).1
def mqB (ag : Bool) (keys : List (List Value)) (vs : List AV) : ABox := .mq (fun us => mapOb ag (keys.zip us)) vs
section
variable {C : Cx} {o : Oper} {T : Nat → AV} {H : Nat → Option ABox} {nx : Nat}
theorem opS_makeMap_q {t : TypeId} (h : o.op = .makeMap t none) (ag : Bool) : OpS C o T H nx ⟨.mp nx, [(nx, mqB ag [] [])], 1, []⟩ := by
  intro T' H' D g a w hr hT _ hn K Q hK
  have hn0 : ¬ D nx := hn 0 (Nat.lt_succ_self 0)
  have hrun : (execOp a.eval o).run C.P w = .ok (.value (.map (some w.heap.size))) (w.alloc (.map #[] 0)) := by
    unfold execOp
    simp only [h, Option.map_none, Sem.run_bind, run_makeMap, Result.andThen_ok]
    rfl
  have hrel := hr.newbox (x0 := mqB ag [] []) (gl := [.map (some w.heap.size)]) (o := .map #[] 0) hn0 (by simp [ownBlk, updF, mqB]) (fun hl hx => ⟨w.heap.size, [], by simp [updF], (by show (w.heap.push _)[w.heap.size]? = _; simp; rfl), rfl, fun j hj => by simp at hj⟩)
  refine wp_of_value hrun (hK _ _ _ (hrel.dmono fun b hb => ?_) (.mp nx w.heap.size (by simp [updF])))
  rcases hb with hb | rfl
  · exact .inl hb
  · exact .inr ⟨Nat.le_refl _, Nat.lt_succ_self _⟩
def mqV (k : List Value) (keys : List (List Value)) (vs : List AV) (z : Value) : AV := match kfind k keys 0 with | some j => vs.getD j .und | none => .sc z
def mqH (k : List Value) (keys : List (List Value)) : Bool := (kfind k keys 0).isSome
theorem opS_lookup_q {t : TypeId} {x ix : Operand} {ok ag : Bool} {b : Nat} {ks : List (Option IntKind)} {z : Value} {k : List Value} {keys : List (List Value)} {vs : List AV} [hM : HasM C.P t ag ks z] (h : o.op = .lookup t x ix ok)
    (hc : (evO T x).cond = true) (hc' : (evO T ix).cond = true) (hx : ev T x = .mp b) (hb : H b = some (mqB ag keys vs)) (hkey : ev T ix = keyV ag k) (hk : k.map kindOf = ks.map some) (hms : ∀ k ∈ keys, k.map kindOf = ks.map some) (hlen : vs.length = keys.length) :
    OpS C o T H nx ⟨if ok then .tup [mqV k keys vs z, .b (mqH k keys)] else mqV k keys vs z, [], 0, [b]⟩ := by
  obtain ⟨kt, et, i, hu, hK, hi, hz⟩ := hM.m
  refine opS_pure fun T' H' D g a w hr hT hH => ?_
  have r1 := one_rep hr (hT x (by simp [h, Op.operands])) hc
  have r2 := one_rep hr (hT ix (by simp [h, Op.operands])) hc'
  rw [hx] at r1
  rw [hkey] at r2
  obtain ⟨blk, hv, hg⟩ := r1.mp_inv
  have hkv := keyV_rep r2
  have hb' : H' b = some (mqB ag keys vs) := (hH b (by simp)).trans hb
  obtain ⟨blk', us, h1, h2, h3, h4⟩ := hr.bx b _ hb'
  have : blk' = blk := by rw [hg] at h1; simpa using h1.symm
  subst this
  have hf := findKey_m hK hk w (keys.zip us) (MKeys.zip hms us)
  have hmf := mfind_zip (k := k) (i := 0) (show us.length = keys.length by omega)
  have hrun : (Instr.lookup t (a.eval x) (a.eval ix) ok).run C.P w = .ok (if ok then .tuple #[mgetV k (keys.zip us) z, .bool (mhas k (keys.zip us))] else mgetV k (keys.zip us) z) w := by
    have hg1 : (getObj blk').run C.P w = .ok (mapOb ag (keys.zip us)) w := MapKept.run_getObj_map h2
    unfold Instr.lookup
    rw [hv, hkv]
    simp only [Sem.run_bind, run_underlying hu, Result.andThen_ok, hg1, mapOb, Sem.run_pure, hK.ck _ w k hk, hf, mgetV, mhas]
    cases hm : mfind k (keys.zip us) 0 with
    | some p => obtain ⟨j, v⟩ := p; rfl
    | none => simp only [Sem.run_bind, run_zeroValue hi hz, Result.andThen_ok, Sem.run_pure]; rfl
  have hval : Rep w (Own C.O g H') g (mqV k keys vs z) (mgetV k (keys.zip us) z) := by
    unfold mqV mgetV
    rw [hmf]
    cases hkf : kfind k keys 0 with
    | none => exact .sc _
    | some j =>
      have := kfind_ge hkf
      simp only [Option.map_some, Nat.sub_zero]
      exact h4 j (by omega)
  have hhas : mhas k (keys.zip us) = mqH k keys := by
    unfold mhas mqH
    rw [hmf]
    cases kfind k keys 0 <;> rfl
  refine ⟨if ok then .tuple #[mgetV k (keys.zip us) z, .bool (mhas k (keys.zip us))] else mgetV k (keys.zip us) z, ?_, ?_⟩
  · unfold execOp
    simp only [h, Sem.run_bind, hrun, Result.andThen_ok]
    rfl
  · cases ok with
    | false => exact hval
    | true =>
      refine .tup _ _ rfl fun j hj => ?_
      match j, hj with
      | 0, _ => exact hval
      | 1, _ =>
        show Rep w _ g (.b (mqH k keys)) (.bool (mhas k (keys.zip us)))
        rw [hhas]; exact .sc _
theorem opS_mapUpdate_q {t : TypeId} {x ix y : Operand} {ag : Bool} {b : Nat} {ks : List (Option IntKind)} {z : Value} {v : AV} {k : List Value} {keys : List (List Value)} {vs : List AV} [hM : HasM C.P t ag ks z] (h : o.op = .mapUpdate t x ix y)
    (hc : (evO T x).cond = true) (hc' : (evO T ix).cond = true) (hc2 : (evO T y).cond = true) (hx : ev T x = .mp b) (hb : H b = some (mqB ag keys vs)) (hkey : ev T ix = keyV ag k) (hy : ev T y = v) (hk : k.map kindOf = ks.map some) (hms : ∀ k ∈ keys, k.map kindOf = ks.map some) (hlen : vs.length = keys.length)
    (hno : kfind k keys 0 = none) : OpS C o T H nx ⟨.und, [(b, mqB ag (keys ++ [k]) (vs ++ [v]))], 0, [b]⟩ := by
  obtain ⟨kt, et, i, hu, hK, hi, hz⟩ := hM.m
  intro T' H' D g a w hr hT hH _ K Q hKK
  have r1 := one_rep hr (hT x (by simp [h, Op.operands])) hc
  have r2 := one_rep hr (hT ix (by simp [h, Op.operands])) hc'
  have r3 := one_rep hr (hT y (by simp [h, Op.operands])) hc2
  rw [hx] at r1
  rw [hkey] at r2
  rw [hy] at r3
  obtain ⟨blk, hv, hg⟩ := r1.mp_inv
  have hkv := keyV_rep r2
  have hb' : H' b = some (mqB ag keys vs) := (hH b (by simp)).trans hb
  obtain ⟨blk', us, h1, h2, h3, h4⟩ := hr.bx b _ hb'
  have : blk' = blk := by rw [hg] at h1; simpa using h1.symm
  subst this
  have hus : us.length = keys.length := by omega
  have hf := findKey_m hK hk w (keys.zip us) (MKeys.zip hms us)
  have hmf := mfind_zip (k := k) (i := 0) hus
  rw [hno] at hmf
  have hmf' : mfind k (keys.zip us) 0 = none := hmf
  have hset := mset_none (v := a.eval y) hmf'
  have hzip : (keys ++ [k]).zip (us ++ [a.eval y]) = keys.zip us ++ [(k, a.eval y)] := by rw [List.zip_append hus.symm]; rfl
  have hrun : (Instr.mapUpdate t (a.eval x) (a.eval ix) (a.eval y)).run C.P w = .ok () { w with heap := w.heap.setIfInBounds blk' (mapOb ag ((keys ++ [k]).zip (us ++ [a.eval y]))) } := by
    have hg1 : (getObj blk').run C.P w = .ok (mapOb ag (keys.zip us)) w := MapKept.run_getObj_map h2
    unfold Instr.mapUpdate
    rw [hv, hkv]
    simp only [Sem.run_bind, run_underlying hu, Result.andThen_ok, hg1, mapOb, Sem.run_pure, hK.ck _ w k hk, hf, hmf']
    simp only [MapKept.run_setObj_map _ h2]
    rw [hzip, ments_append, Nat.zero_add, List.length_append]
    simp [ments]
  have hrun' : (execOp a.eval o).run C.P w = .ok .skip { w with heap := w.heap.setIfInBounds blk' (mapOb ag ((keys ++ [k]).zip (us ++ [a.eval y]))) } := by
    unfold execOp
    simp only [h, Sem.run_bind, hrun, Result.andThen_ok]
    rfl
  have hset := MapKept.heap_set (o' := mapOb ag ((keys ++ [k]).zip (us ++ [a.eval y]))) h2
  refine wp_of_skip hrun' (hKK _ _ g ((hr.setbox (x1 := mqB ag (keys ++ [k]) (vs ++ [v])) (w' := { w with heap := w.heap.setIfInBounds blk' (mapOb ag ((keys ++ [k]).zip (us ++ [a.eval y]))) }) hb' (blk := blk') (by simp [ownBlk, mqB, hg]) (by simp [ownBlk, mqB, hg]) rfl rfl rfl (by simp) (Nat.le_refl _) hset.2
    (fun hl => ⟨blk', us ++ [a.eval y], hg, hset.1, by rw [List.length_append, List.length_append, h3]; rfl, fun j hj => ?_⟩)).dmono fun b hb => .inl hb) (.und _))
  rw [List.length_append] at hj
  by_cases hjl : j < vs.length
  · rw [getD_appl _ _ _ hjl, getD_appl _ _ _ (by omega)]
    exact (h4 j hjl).later hl (Ext.refl g)
  · have : j = vs.length := by simp at hj; omega
    subst this
    rw [getD_appr _ _ _ (Nat.le_refl _), getD_appr _ _ _ (by omega), h3]
    simp only [Nat.sub_self, List.getD_cons_zero]
    exact r3.later hl (Ext.refl g)
theorem opS_len_q {t : TypeId} {x : Operand} {ag : Bool} {b : Nat} {ks : List (Option IntKind)} {z : Value} {keys : List (List Value)} {vs : List AV} [hM : HasM C.P t ag ks z] (h : o.op = .call { callee := .builtin .len, args := #[x], argTypes := #[t] })
    (hc : (evO T x).cond = true) (hx : ev T x = .mp b) (hb : H b = some (mqB ag keys vs)) (hlen : vs.length = keys.length) : OpS C o T H nx ⟨.i keys.length, [], 0, [b]⟩ := by
  obtain ⟨kt, et, i, hu, hK, hi, hz⟩ := hM.m
  refine opS_pure fun T' H' D g a w hr hT hH => ?_
  have r1 := one_rep hr (hT x (by simp [h, Op.operands, Call.operands])) hc
  rw [hx] at r1
  obtain ⟨blk, hv, hg⟩ := r1.mp_inv
  have hb' : H' b = some (mqB ag keys vs) := (hH b (by simp)).trans hb
  obtain ⟨blk', us, h1, h2, h3, h4⟩ := hr.bx b _ hb'
  have : blk' = blk := by rw [hg] at h1; simpa using h1.symm
  subst this
  have hu' : C.P.underlying t = some (.map (C.P.mapKeyOf t) (C.P.mapElemOf t)) := by unfold Program.mapKeyOf Program.mapElemOf; rw [hu]
  have hl : (ments ag (keys.zip us) 0).length = keys.length := by rw [ments_length, List.length_zip]; omega
  refine ⟨.int .i64 keys.length, ?_, .sc _⟩
  have h2' : w.heap[blk']? = some (.map (ments ag (keys.zip us) 0).toArray (keys.zip us).length) := h2
  unfold execOp
  simp only [h, resolve, invoke, builtin, Sem.run_bind, Sem.run_pure, Result.andThen_ok, List.map_toArray, List.map_cons, List.map_nil, hv, run_len_map w t o.type blk' _ _ hu' h2', goInt, List.size_toArray, hl]
end
section
variable {P : Program} {T : Nat → AV} {H : Nat → Option ABox} {nx : Nat} {K : Res → Prop} {t : TypeId} {ag : Bool} {ks : List (Option IntKind)} {z : Value}
theorem aext_makeMap_q [hM : HasM P t ag ks z] (hk : K ⟨.mp nx, [(nx, mqB ag [] [])], 1, []⟩) : aext P (.makeMap t none) T H nx K := ⟨_, hk, fun _ _ _ ho => opS_makeMap_q ho ag⟩
theorem aext_lookup_q {x ix : Operand} {ok : Bool} {b : Nat} [hM : HasM P t ag ks z] (k : List Value) (keys : List (List Value)) (vs : List AV) (hc : (evO T x).cond = true) (hc' : (evO T ix).cond = true) (hx : ev T x = .mp b) (hb : H b = some (mqB ag keys vs)) (hkey : ev T ix = keyV ag k) (hk : k.map kindOf = ks.map some)
    (hms : ∀ k ∈ keys, k.map kindOf = ks.map some) (hlen : vs.length = keys.length) (hK : K ⟨if ok then .tup [mqV k keys vs z, .b (mqH k keys)] else mqV k keys vs z, [], 0, [b]⟩) : aext P (.lookup t x ix ok) T H nx K := ⟨_, hK, fun C o hP ho => by subst hP; exact opS_lookup_q ho hc hc' hx hb hkey hk hms hlen⟩
theorem aext_mapUpdate_q {x ix y : Operand} {b : Nat} {v : AV} [hM : HasM P t ag ks z] (k : List Value) (keys : List (List Value)) (vs : List AV) (hc : (evO T x).cond = true) (hc' : (evO T ix).cond = true) (hc2 : (evO T y).cond = true) (hx : ev T x = .mp b) (hb : H b = some (mqB ag keys vs)) (hkey : ev T ix = keyV ag k) (hy : ev T y = v) (hk : k.map kindOf = ks.map some)
    (hms : ∀ k ∈ keys, k.map kindOf = ks.map some) (hlen : vs.length = keys.length) (hno : kfind k keys 0 = none) (hK : K ⟨.und, [(b, mqB ag (keys ++ [k]) (vs ++ [v]))], 0, [b]⟩) : aext P (.mapUpdate t x ix y) T H nx K := ⟨_, hK, fun C o hP ho => by subst hP; exact opS_mapUpdate_q ho hc hc' hc2 hx hb hkey hy hk hms hlen hno⟩
theorem aext_len_q {x : Operand} {b : Nat} [hM : HasM P t ag ks z] (keys : List (List Value)) (vs : List AV) (hc : (evO T x).cond = true) (hx : ev T x = .mp b) (hb : H b = some (mqB ag keys vs)) (hlen : vs.length = keys.length)
    (hK : K ⟨.i keys.length, [], 0, [b]⟩) : aext P (.call { callee := .builtin .len, args := #[x], argTypes := #[t] }) T H nx K := ⟨_, hK, fun C o hP ho => by subst hP; exact opS_len_q ho hc hx hb hlen⟩
end
end Go.AL
/-
  The abstract logic: the head of an own row that is only looked at and set through; a loop whose number of boxes grows; boxes told as content. Conditions: none.
-/
namespace Go.AL
open Go Go.RowKit
section
variable {P : Program} {T : Nat → AV} {H : Nat → Option ABox} {nx : Nat} {K : Res → Prop}
theorem aext_slice_px {t e z by_ b ver : Nat} {ag : Bool} {x hi : Operand} {es : List AV} {k : IntKind} {i : Int} (he : elI P t = some (e, z, by_, ag)) (hc : (evO T x).cond = true) (hch : (evO T hi).cond = true) (hx : ev T x = .ow b ver)
    (hb : H b = some (.row e z ver es)) (hhi : ev T hi = .sc (.int k i)) (h0 : 0 ≤ i ∧ i ≤ es.length ∧ 0 < es.length) (hK : K ⟨.px b ver i.toNat, [], 0, [b]⟩) : aext P (.slice t x none (some hi) none) T H nx K := by
  refine ⟨_, hK, fun C o hP h => opS_pure fun T' H' D g a w hr hT hH => ?_⟩
  subst hP
  have r1 := one_rep hr (hT x (by simp [h, Op.operands])) hc
  have r2 := one_rep hr (hT hi (by simp [h, Op.operands])) hch
  rw [hx] at r1; rw [hhi] at r2
  have v2 := r2.sc_inv
  obtain ⟨a0, m, c, hv, hg⟩ := r1.ow_inv
  obtain ⟨blk, cap, cur, g1, _, _, hcap, _⟩ := row_open (hr.bx b _ ((hH b (by simp)).trans hb)) h0.2.2
  have hg0 := hg
  rw [hg] at g1
  injection g1 with g1
  injection g1 with e1 e2 e3
  subst e1; subst e2; subst e3
  obtain ⟨inf, k1, k2, k3, k4, k5, k6, k7⟩ := elI_some he
  have hbounds : (Instr.sliceBounds true es.length (cap + 1) none (some (.int k i)) none).run C.P w = .ok (0, i.toNat, cap + 1) w := by
    simp [Instr.sliceBounds, run_bound (P := C.P) (w := w) (k := k) (y := cap + 1) .sliceAcap h0.1 (by omega)]
  have hsl : (Instr.slice t (.slice (some ⟨blk, 0, none⟩) es.length (cap + 1)) none (some (.int k i)) none).run C.P w = .ok (.slice (some ⟨blk, 0, none⟩) i.toNat (cap + 1)) w := by
    unfold Instr.slice
    simp only [Sem.run_bind, run_underlying k1, Result.andThen_ok, hbounds, run_sizeOf' k2, Sem.run_pure, k3, Option.map_some]
    simp [Addr.add]
  refine ⟨.slice (some ⟨blk, 0, none⟩) i.toNat (cap + 1), ?_, .px b ver i.toNat blk es.length (cap + 1) _ hg0 (by omega)⟩
  unfold execOp
  simp only [h, hv, v2, Option.map_none, Option.map_some, Instr.sliceAt, Sem.run_bind, run_underlying k1, Result.andThen_ok, hsl, Sem.run_pure]
theorem aext_index_px {t e e' n by_ b ver m : Nat} {ag : Bool} {x y : Operand} {es : List AV} {k : IntKind} {j : Int} (he : elI P t = some (e', n, by_, ag)) (hc : (evO T x).cond = true) (hc' : (evO T y).cond = true) (hx : ev T x = .px b ver m)
    (hb : H b = some (.row e n ver es)) (hy : ev T y = .sc (.int k j)) (h0 : 0 ≤ j ∧ j < m ∧ m ≤ es.length) (hK : K ⟨.rp b ver n j.toNat 0, [], 0, [b]⟩) : aext P (.indexAddr t x y) T H nx K := by
  refine ⟨_, hK, fun C o hP h => opS_pure fun T' H' D g a w hr hT hH => ?_⟩
  subst hP
  have r1 := one_rep hr (hT x (by simp [h, Op.operands])) hc
  have r2 := one_rep hr (hT y (by simp [h, Op.operands])) hc'
  rw [hx] at r1; rw [hy] at r2
  obtain ⟨blk, len, c, mm, hv, hg, ho⟩ := r1.px_inv
  have hv2 := r2.sc_inv
  obtain ⟨blk', cap, cur, g1, _⟩ := row_open (hr.bx b _ ((hH b (by simp)).trans hb)) (by omega)
  rw [hg] at g1
  injection g1 with g1
  injection g1 with e1 e2 e3
  injection e1 with e1
  injection e1 with e1
  subst e1; subst e2; subst e3
  obtain ⟨inf, k1, k2, k3, k4, k5, k6, k7⟩ := elI_some he
  refine ⟨.pointer (some ⟨blk, j.toNat * n + 0, none⟩), ?_, .rp b ver n j.toNat 0 blk _ _ hg⟩
  unfold execOp
  simp only [h, hv, hv2, Instr.indexAt, asIntOf, Sem.run_bind, Sem.run_pure, Result.andThen_ok, run_underlying k1]
  rw [if_pos ⟨h0.1, by omega⟩]
  simp only [Sem.run_bind, run_sizeOf' k2, Result.andThen_ok, Sem.run_pure, k3, add_addr, Nat.zero_add, Nat.add_zero]
theorem aext_len_px {t e' n by_ b ver m : Nat} {ag : Bool} {x : Operand} (he : elI P t = some (e', n, by_, ag)) (hc : (evO T x).cond = true) (hx : ev T x = .px b ver m)
    (hK : K ⟨.sc (.int .i64 (m : Int)), [], 0, []⟩) : aext P (.call { callee := .builtin .len, args := #[x], argTypes := #[t] }) T H nx K := by
  refine ⟨_, hK, fun C o hP h => opS_pure fun T' H' D g a w hr hT hH => ⟨.int .i64 (m : Int), ?_, .sc _⟩⟩
  subst hP
  have r1 := one_rep hr (hT x (by simp [h, Op.operands, Call.operands])) hc
  rw [hx] at r1
  obtain ⟨blk, len, c, mm, hv, hg, ho⟩ := r1.px_inv
  obtain ⟨inf, k1, k2, k3, k4, k5, k6, k7⟩ := elI_some he
  have hu : C.P.underlying t = some (.slice (C.P.elem t)) := by rw [k1]; simp [Program.elem, k1]
  generalize a.eval = ev0 at hv ⊢
  unfold execOp
  simp [h, hv, go_sem, run_len_slice (h := hu), goInt]
end
/-! ### a loop whose number of boxes grows -/
theorem tr_loopN {P : Program} {n : Nat} (hm : P.follows .mixedOrders = true) {X : Type} (ST : X → TT) (SH : X → HH) (N : X → Nat) (μ : X → Nat) (x0 : X) {body : Code} {T : TT} {H : HH} {nx : Nat} {Q : Exit → TT → HH → Nat → Prop}
    (hstart : Wk T H nx (ST x0) (SH x0) (N x0)) (hge : ∀ x, nx ≤ N x)
    (round : ∀ x, Tr P n body (ST x) (SH x) (N x) (nextQ (fun T' H' nx' => ∃ x', μ x' < μ x ∧ Wk T' H' nx' (ST x') (SH x') (N x')) Q)) : Tr P n (.loop body) T H nx Q := by
  intro C g a w hP hn hr
  have hm0 : C.m ≤ nx := by
    rcases Nat.lt_or_ge nx C.m with h | h
    · have := hr.old.gm nx h
      omega
    · exact h
  obtain ⟨g0, hr0⟩ := hstart C g a w (Nat.le_trans hm0 (hge x0)) hr
  have key : ∀ (m : Nat) (x : X) (g : Nat → List Value) (a : Act) (w : World), μ x = m → Rel C (lk (ST x)) (hk (SH x)) (fun c => c < N x) g a w →
      ∀ (b : Frame) (k : List Item) (cs : List Frame), ∃ e a' w', (∃ T' H' nx' g', Q e T' H' nx' ∧ Rel C (lk T') (hk H') (fun c => c < nx') g' a' w') ∧
        Arrives P (lone (b.at a (.code body :: .inLoop body :: k)) cs w) b k cs e a' w' := by
    intro m
    induction m using Nat.strongRecOn with
    | _ m ih =>
      intro x g a w hx hr b k cs
      obtain ⟨e, a₁, w₁, ⟨T', H', nx', g', hq, hr'⟩, harr⟩ := round x C g a w hP hn hr b (.inLoop body :: k) cs
      cases e with
      | normal =>
        obtain ⟨x', hlt, hwk⟩ := hq
        obtain ⟨g'', hr''⟩ := hwk C g' a₁ w₁ (Nat.le_trans hm0 (hge x')) hr'
        obtain ⟨e₂, a₂, w₂, hq₂, harr₂⟩ := ih (μ x') (hx ▸ hlt) x' g'' a₁ w₁ rfl hr'' b k cs
        exact ⟨e₂, a₂, w₂, hq₂, .of_steps (Steps.trans harr (.one step_inLoop)) harr₂⟩
      | exit id => exact ⟨_, a₁, w₁, ⟨T', H', nx', g', hq, hr'⟩, .pass (x := .inLoop body) rfl (fun _ _ => .inl (by simp)) harr⟩
      | goto l => exact ⟨_, a₁, w₁, ⟨T', H', nx', g', hq, hr'⟩, .pass (x := .inLoop body) rfl (fun _ _ => .inl (by simp)) harr⟩
      | ret => exact ⟨_, a₁, w₁, ⟨T', H', nx', g', hq, hr'⟩, .pass (x := .inLoop body) rfl (fun _ _ => .inl (by simp)) harr⟩
      | panic ch => exact ⟨_, a₁, w₁, ⟨T', H', nx', g', hq, hr'⟩, .pass (x := .inLoop body) rfl (fun _ _ => .inl (by simp)) harr⟩
      | outgrown => exact ⟨_, a₁, w₁, ⟨T', H', nx', g', hq, hr'⟩, .pass (x := .inLoop body) rfl (fun _ _ => .inl (by simp)) harr⟩
  intro b k cs
  obtain ⟨e, a', w', hq, harr⟩ := key (μ x0) x0 g0 a w rfl hr0 b k cs
  exact ⟨e, a', w', hq, .of_steps (.one step_loop) harr⟩
theorem tr_wk {P : Program} {n : Nat} {c : Code} {T T' : TT} {H H' : HH} {nx nx' : Nat} {Q : Exit → TT → HH → Nat → Prop} (hn : nx ≤ nx') (hw : Wk T H nx T' H' nx') (h : Tr P n c T' H' nx' Q) : Tr P n c T H nx Q := fun C g a w hP hnn hr => by
  obtain ⟨g', hr'⟩ := hw C g a w (Nat.le_trans (by
    rcases Nat.lt_or_ge nx C.m with h | h
    · have := hr.old.gm nx h
      omega
    · exact h) hn) hr
  exact h C g' a w hP hnn hr'
/-! ### boxes told as content -/
inductive Fz (H : Nat → Option ABox) (R : Nat → Prop) : AV → AV → Prop
  | same (v : AV) : Fz H R v v
  | und (v : AV) : Fz H R v .und
  | cp (b : Nat) (cs cs' : List AV) (hb : H b = some (.var (.agg cs))) (hR : R b) (hl : cs'.length = cs.length) (h : ∀ j, j < cs'.length → Fz H R (cs.getD j .und) (cs'.getD j .und)) : Fz H R (.pt b 0) (.cp cs')
inductive BFz (H : Nat → Option ABox) (R : Nat → Prop) : ABox → ABox → Prop
  | same (x : ABox) : BFz H R x x
  | var (cs cs' : List AV) (hl : cs'.length = cs.length) (h : ∀ j, j < cs'.length → Fz H R (cs.getD j .und) (cs'.getD j .und)) : BFz H R (.var (.agg cs)) (.var (.agg cs'))
  | mq (F : List Value → Obj) (vs vs' : List AV) (hl : vs'.length = vs.length) (h : ∀ j, j < vs'.length → Fz H R (vs.getD j .und) (vs'.getD j .und)) : BFz H R (.mq F vs) (.mq F vs')
theorem BFz.blk {H : Nat → Option ABox} {R : Nat → Prop} {x y : ABox} {g : Nat → List Value} {b : Nat} (h : BFz H R x y) : ownBlk g b y = ownBlk g b x := by cases h <;> rfl
theorem Fz.rep {C : Cx} {T : Nat → AV} {H H' : Nat → Option ABox} {R D : Nat → Prop} {g : Nat → List Value} {a : Act} {w : World} (hr : Rel C T H D g a w) (hs : ∀ b x, H' b = some x → ¬ R b ∧ ∃ y, H b = some y ∧ ownBlk g b x = ownBlk g b y) {v v' : AV} (h : Fz H R v v') :
    ∀ val, Rep w (Own C.O g H) g v val → Rep w (Own C.O g H') g v' val := by
  have hsub : ∀ k, Own C.O g H' k → Own C.O g H k := by
    rintro k (h | ⟨c, x, hx, hk⟩)
    · exact .inl h
    · obtain ⟨_, y, hy, e⟩ := hs c x hx
      exact .inr ⟨c, y, hy, by rw [← e]; exact hk⟩
  induction h with
  | same v => exact fun val hv => hv.sub hsub
  | und v => exact fun val _ => .und val
  | cp b cs cs' hb hR hl _ ih =>
    intro val hv
    obtain ⟨blk, rfl, hg⟩ := hv.pt_inv
    obtain ⟨blk', vs, ty, p1, p2, p3, p4⟩ := hr.bx b _ hb
    have : blk' = blk := by rw [hg] at p1; simpa using p1.symm
    subst this
    have hob : ownBlk g b (.var (.agg cs)) = some blk' := by simp [ownBlk, hg]
    have hown := hr.own b _ blk' hb hob
    have hno : ¬ Own C.O g H' blk' := by
      rintro (h | ⟨c, x, hx, hk⟩)
      · exact hown.1 h
      · obtain ⟨hnR, y, hy, e⟩ := hs c x hx
        rw [e] at hk
        have := hr.sep c b y _ blk' hy hb hk hob
        subst this
        exact hnR hR
    have hsz : vs.size = cs.length := p3
    refine .cp cs' blk' 0 (fun i => vs.getD i undef) hno hown.2.2 (fun i hi => ?_) (fun i hi => ih i hi _ (p4 i (by show i < cs.length; omega)))
    rw [Nat.zero_add, cell_of_row w blk' i vs ty (0, 0) p2, Array.getD_eq_getD_getElem?, Array.getElem?_eq_getElem (by omega)]
    rfl
theorem wk_fz {T T' : TT} {H H' : HH} {nx : Nat} (R : Nat → Prop) (hT : ∀ t, lk T' t = .und ∨ Fz (hk H) R (lk T t) (lk T' t)) (hH : ∀ b x, hk H' b = some x → ¬ R b ∧ ∃ y, hk H b = some y ∧ BFz (hk H) R y x) : Wk T H nx T' H' nx := by
  intro C g a w hmn hr
  refine ⟨g, ?_⟩
  have hs : ∀ b x, hk H' b = some x → ¬ R b ∧ ∃ y, hk H b = some y ∧ ownBlk g b x = ownBlk g b y := fun b x hx => by
    obtain ⟨h1, y, h2, h3⟩ := hH b x hx
    exact ⟨h1, y, h2, h3.blk⟩
  have hsub : ∀ k, Own C.O g (hk H') k → Own C.O g (hk H) k := by
    rintro k (h | ⟨c, x, hx, hk'⟩)
    · exact .inl h
    · obtain ⟨_, y, hy, e⟩ := hs c x hx
      exact .inr ⟨c, y, hy, by rw [← e]; exact hk'⟩
  have hold : ∀ c x, hk H' c = some x → ∃ y, hk H c = some y := fun c x hx => by obtain ⟨_, y, hy, _⟩ := hs c x hx; exact ⟨y, hy⟩
  refine ⟨hr.df, hr.sz, fun t => ?_, fun b x hx => ?_, hr.fresh, fun c x hx => ?_, fun c c' x x' k hx hx' hk1 hk2 => ?_, fun c x k hx hk1 => ?_, hr.oo, hr.kept, hr.old.mono hold (fun _ h => h)⟩
  · rcases hT t with h | h
    · rw [h]; exact .und _
    · exact h.rep hr hs _ (hr.tm t)
  · obtain ⟨_, y, hy, hz⟩ := hH b x hx
    have hbx := hr.bx b y hy
    cases hz with
    | same x =>
      cases x with
      | var v => obtain ⟨blk, vs, ty, p1, p2, p3, p4⟩ := hbx; exact ⟨blk, vs, ty, p1, p2, p3, fun j hj => (p4 j hj).sub hsub⟩
      | nl => exact hbx
      | row e' z' ver' es' => obtain ⟨sv, xs, p1, p2, p3, p4, p5⟩ := hbx; exact ⟨sv, xs, p1, p2, p3, p4, fun i hi j hj => (p5 i hi j hj).sub hsub⟩
      | ob o => exact hbx
      | mq F vs => obtain ⟨blk, us, p1, p2, p3, p4⟩ := hbx; exact ⟨blk, us, p1, p2, p3, fun j hj => (p4 j hj).sub hsub⟩
    | var cs cs' hl h =>
      obtain ⟨blk, vs, ty, p1, p2, p3, p4⟩ := hbx
      exact ⟨blk, vs, ty, p1, p2, by show vs.size = cs'.length; rw [hl]; exact p3, fun j hj => (h j hj).rep hr hs _ (p4 j (by show j < cs.length; have hj' : j < cs'.length := hj; omega))⟩
    | mq F vs vs' hl h =>
      obtain ⟨blk, us, p1, p2, p3, p4⟩ := hbx
      exact ⟨blk, us, p1, p2, by rw [hl]; exact p3, fun j hj => (h j hj).rep hr hs _ (p4 j (by omega))⟩
  · obtain ⟨y, hy⟩ := hold c x hx
    exact hr.dom c y hy
  · obtain ⟨_, y, hy, e⟩ := hs c x hx
    obtain ⟨_, y', hy', e'⟩ := hs c' x' hx'
    rw [e] at hk1; rw [e'] at hk2
    exact hr.sep c c' y y' k hy hy' hk1 hk2
  · obtain ⟨_, y, hy, e⟩ := hs c x hx
    rw [e] at hk1
    exact hr.own c y k hy hk1
/-! ### calls by what they do within a frame -/
theorem cst_cs {P : Program} {H : Nat → Option ABox} {nx fid : Nat} {as : List AV} {r : Res} {K : Res → Prop} (h : CallS P H nx fid as r) (hk : K r) : cst P H nx (.clo fid []) as K := ⟨r, by rw [List.append_nil]; exact h, hk⟩
theorem CallS.congr {P : Program} {H H2 : Nat → Option ABox} {nx fid : Nat} {as : List AV} {r : Res} (h : CallS P H nx fid as r) (he : ∀ b ∈ r.rb, H2 b = H b) : CallS P H2 nx fid as r :=
  ⟨h.1, fun C T' H' D g a w hP hr hH hn vs hvs => h.2 C T' H' D g a w hP hr (fun b hb => (hH b hb).trans (he b hb)) hn vs hvs⟩
end Go.AL
/-
  The abstract logic: contracts of functions that work on boxes of the caller's; an empty slice told as a row of one's own. Conditions: none.
-/
namespace Go.AL
open Go Go.RowKit
def retV (P : Program) (rs : List ResultVar) (r : Res) : Exit → TT → HH → Nat → Prop
  | .normal, T, H, _ | .ret, T, H, _ => ∃ v, resA P (lk T) (hk H) rs = some v ∧ (v = r.v ∧ HSub H r.wb)
  | _, _, _, _ => False
theorem retV_normal (P : Program) (rs : List ResultVar) (v : AV) (wb : HH) (n : Nat) (rb : List Nat) (T : TT) (H : HH) (nx : Nat) : retV P rs ⟨v, wb, n, rb⟩ .normal T H nx = ∃ u, resA P (lk T) (hk H) rs = some u ∧ (u = v ∧ HSub H wb) := rfl
theorem retV_ret (P : Program) (rs : List ResultVar) (v : AV) (wb : HH) (n : Nat) (rb : List Nat) (T : TT) (H : HH) (nx : Nat) : retV P rs ⟨v, wb, n, rb⟩ .ret T H nx = ∃ u, resA P (lk T) (hk H) rs = some u ∧ (u = v ∧ HSub H wb) := rfl
attribute [go_sem] retV_normal retV_ret
theorem calls_tr {P : Program} {f : Nat} {fn : Func} {c : Code} {as : List AV} {Hl : HH} {nx : Nat} {r : Res} (hf : P.funcs[f]? = some fn) (hb : fn.body = some c) (he : entB P f = true)
    (hn : as.length ≤ fn.ntmps) (hlt : ∀ v ∈ as, Lt nx v) (hHl : ∀ p ∈ Hl, p.1 < nx ∧ bLt0 nx p.2) (hltr : Lt (nx + r.nw) r.v) (hwl : ∀ p ∈ r.wb, p.1 < nx + r.nw ∧ bLt0 (nx + r.nw) p.2) (hko : keysOk r.wb = true)
    (hrb : r.rb = Hl.map (·.1)) (hkeep : ∀ p ∈ Hl, p.1 ∈ r.wb.map (·.1)) (h : Tr P fn.ntmps c (argT as 0) Hl nx (retV P fn.results.toList r)) : CallS P (hk Hl) nx f as r := by
  refine ⟨he, fun C T' H' D g a w hP hr hH hnew vs hvs => ?_⟩
  subst hP
  obtain ⟨hsz, hrep⟩ := hvs
  refine calls_of_wp hf hb ?_
  have hkH : ∀ b x, hk Hl b = some x → H' b = some x := by
    intro b x hx
    rw [hH b (by rw [hrb]; exact List.mem_map.2 ⟨_, hk_mem Hl b x hx, rfl⟩)]; exact hx
  have hklt : ∀ b x, hk Hl b = some x → b < nx ∧ bLt0 nx x := fun b x hx => hHl _ (hk_mem Hl b x hx)
  let g1 : Nat → List Value := fun b => if b < nx then g b else []
  have hg1 : ∀ b, b < nx → g1 b = g b := fun b hb => if_pos hb
  let O' : Nat → Prop := fun k => C.O k ∨ ∃ b x, H' b = some x ∧ hk Hl b = none ∧ ownBlk g b x = some k
  let F' : Nat → Prop := fun k => ∃ b x, hk Hl b = some x ∧ ownBlk g b x = some k
  let C' : Cx := ⟨C.P, fn.ntmps, w, F', O', nx, g1, fun b => b < nx ∧ hk Hl b = none, []⟩
  have hob : ∀ b x, hk Hl b = some x → ownBlk g1 b x = ownBlk g b x := fun b x hx => ownBlk_congr x (hg1 b (hklt b x hx).1)
  have hOwn1 : ∀ k, Own O' g1 (hk Hl) k → Own C.O g H' k := by
    rintro k ((hk' | ⟨b, x, hx, _, hk'⟩) | ⟨b, x, hx, hk'⟩)
    · exact .inl hk'
    · exact .inr ⟨b, x, hx, hk'⟩
    · rw [hob b x hx] at hk'; exact .inr ⟨b, x, hkH b x hx, hk'⟩
  have hrel : Rel C' (lk (argT as 0)) (hk Hl) (fun c => c < nx) g1 { tmps := vs ++ Array.replicate (fn.ntmps - vs.size) undef, defers := [] } w := by
    refine ⟨rfl, ?_, fun t => ?_, fun b x hx => ?_, fun b hb => if_neg hb, fun b x hx => (hklt b x hx).1, fun b b' x x' k hx hx' hk1 hk2 => ?_, fun b x k hx hk1 => ?_, ?_, Kept.refl w _, ?_⟩
    · simp [C']; omega
    · rw [lk_argT, if_pos (Nat.zero_le t), Nat.sub_zero]
      by_cases ht : t < as.length
      · have h1 := hrep t ht
        have e1 : (vs ++ Array.replicate (fn.ntmps - vs.size) undef).getD t undef = vs.getD t undef := by
          rw [Array.getD_eq_getD_getElem?, Array.getElem?_append_left (by omega), Array.getD_eq_getD_getElem?]
        rw [e1]
        exact (h1.reset hg1 (hlt _ (getD_mem ht))).sub hOwn1
      · rw [List.getD_eq_getElem?_getD, List.getElem?_eq_none (by omega)]; exact .und _
    · exact ((hr.bx b x (hkH b x hx)).reset hg1 (hklt b x hx).1 (hklt b x hx).2).sub hOwn1
    · rw [hob b x hx] at hk1; rw [hob b' x' hx'] at hk2
      exact hr.sep b b' x x' k (hkH b x hx) (hkH b' x' hx') hk1 hk2
    · rw [hob b x hx] at hk1
      have h1 := hr.own b x k (hkH b x hx) hk1
      refine ⟨?_, .inl ⟨b, x, hx, hk1⟩, h1.2.2⟩
      rintro (ho | ⟨b', x', hx', hn', hk'⟩)
      · exact h1.1 ho
      · have := hr.sep b b' x x' k (hkH b x hx) hx' hk1 hk'
        subst this
        rw [hx] at hn'; cases hn'
    · rintro k (ho | ⟨b', x', hx', _, hk'⟩)
      · exact Nat.lt_of_lt_of_le (hr.oo k ho) hr.kept.size
      · exact (hr.own b' x' k hx' hk').2.2
    · exact ⟨fun b _ ver v hv => hv, fun b hb => hb, fun b hb => ⟨hb.1, rfl⟩, fun b x hx hf => by have h2 : b < nx ∧ hk Hl b = none := hf; rw [hx] at h2; cases h2.2⟩
  refine wp_mono (h C' _ _ w rfl rfl hrel) ?_
  rintro e a' w' ⟨T1, H1, nx1, g2, hq, hr1⟩
  have fin : (∃ v, resA C.P (lk T1) (hk H1) fn.results.toList = some v ∧ (v = r.v ∧ HSub H1 r.wb)) → a'.defers = [] ∧ ∃ v, (results fn a'.tmps).run C.P w' = .ok v w' ∧
      ∃ v_1 g', Ending.returned v = .returned v_1 ∧ Rel C T' (updL H' r.wb) (fun c => D c ∨ (nx ≤ c ∧ c < nx + r.nw)) g' a w' ∧ Rep w' (Own C.O g' (updL H' r.wb)) g' r.v v_1 := by
    rintro ⟨v, hv, rfl, hs⟩
    obtain ⟨val, h1, h2⟩ := rep_resA (C := C') hr1 hv
    replace hr1 := hr1.less hs
    replace h2 := h2.sub (fun k hk => Own.less hs hk)
    let g' : Nat → List Value := fun b => if b < nx + r.nw then g2 b else g b
    have hg'2 : ∀ b, b < nx + r.nw → g' b = g2 b := fun b hb => if_pos hb
    have hcase : ∀ b x, updL H' r.wb b = some x → (b ∈ r.wb.map (·.1) ∧ hk r.wb b = some x ∧ b < nx + r.nw ∧ bLt0 (nx + r.nw) x) ∨ (b ∉ r.wb.map (·.1) ∧ H' b = some x ∧ hk Hl b = none) := by
      intro b x hx
      by_cases hm' : b ∈ r.wb.map (·.1)
      · rw [updL_hk r.wb H' b hko hm'] at hx
        exact .inl ⟨hm', hx, hwl _ (hk_mem r.wb b x hx)⟩
      · rw [updL_other r.wb H' b hm'] at hx
        refine .inr ⟨hm', hx, hk_none Hl b fun hk' => hm' ?_⟩
        obtain ⟨p, hp, rfl⟩ := List.mem_map.1 hk'
        exact hkeep p hp
    have hext : Ext g g' := by
      intro b ver v hv
      show (g' b)[ver]? = some v
      by_cases hlt' : b < nx + r.nw
      · rw [hg'2 b hlt']
        by_cases hb : b < nx
        · exact hr1.old.ge b hb ver v (by show (g1 b)[ver]? = some v; rw [hg1 b hb]; exact hv)
        · rw [hr.fresh b (by have := hnew (b - nx) (by omega); rwa [show nx + (b - nx) = b by omega] at this)] at hv; simp at hv
      · have : g' b = g b := if_neg hlt'
        rw [this]; exact hv
    have hgo : ∀ b, hk Hl b = none → (b < nx + r.nw → b < nx ∨ ¬ D b) → g' b = g b ∨ (nx ≤ b ∧ b < nx + r.nw) := by
      intro b hn' _
      by_cases hlt' : b < nx + r.nw
      · by_cases hb : b < nx
        · left
          rw [hg'2 b hlt', (hr1.old.gx b ⟨hb, hn'⟩).2]
          exact hg1 b hb
        · exact .inr ⟨by omega, hlt'⟩
      · exact .inl (if_neg hlt')
    have hnd : ∀ b, nx ≤ b → b < nx + r.nw → ¬ D b := fun b h1 h2 => by
      have := hnew (b - nx) (by omega); rwa [show nx + (b - nx) = b by omega] at this
    have hgo' : ∀ b x, H' b = some x → hk Hl b = none → g' b = g b := by
      intro b x hx hn'
      rcases hgo b hn' (fun _ => by
        rcases Nat.lt_or_ge b nx with h | h
        · exact .inl h
        · exact .inr (hnd b h (by assumption))) with h | h
      · exact h
      · exact absurd (hr.dom b x hx) (hnd b h.1 h.2)
    have hF : ∀ k, F' k → Own C.O g H' k := by
      rintro k ⟨b, x, hx, hk'⟩
      exact .inr ⟨b, x, hkH b x hx, hk'⟩
    have hkp : ∀ k, k < w.heap.size → ¬ Own C.O g H' k → w'.heap[k]? = w.heap[k]? := fun k hk hn' => hr1.kept.block k hk (fun hf => hn' (hF k hf))
    have hsub : ∀ k, k < w.heap.size → Own C.O g' (updL H' r.wb) k → Own C.O g H' k := by
      rintro k hk' (ho | ⟨b, x, hx, hob'⟩)
      · exact .inl ho
      · rcases hcase b x hx with ⟨_, hx1, hlt', _⟩ | ⟨_, hx1, hn'⟩
        · rw [ownBlk_congr x (hg'2 b hlt')] at hob'
          rcases (hr1.own b x k hx1 hob').2.1 with hf | hf
          · exact hF k hf
          · have : w.heap.size ≤ k := hf
            omega
        · rw [ownBlk_congr x (hgo' b x hx1 hn')] at hob'
          exact .inr ⟨b, x, hx1, hob'⟩
    have hl : Later w (Own C.O g H') w' (Own C.O g' (updL H' r.wb)) := ⟨hr1.kept.size, hkp, hsub⟩
    have hsub1 : ∀ k, Own C.O g' (updL H' r.wb) k → Own O' g2 (hk r.wb) k := by
      rintro k (ho | ⟨b, x, hx, hob'⟩)
      · exact .inl (.inl ho)
      · rcases hcase b x hx with ⟨_, hx1, hlt', _⟩ | ⟨_, hx1, hn'⟩
        · rw [ownBlk_congr x (hg'2 b hlt')] at hob'; exact .inr ⟨b, x, hx1, hob'⟩
        · rw [ownBlk_congr x (hgo' b x hx1 hn')] at hob'; exact .inl (.inr ⟨b, x, hx1, hn', hob'⟩)
    have hlow : ∀ b x, hk r.wb b = some x → b < nx → ∃ y, hk Hl b = some y := by
      intro b x hx hb
      cases hy : hk Hl b with
      | some y => exact ⟨y, rfl⟩
      | none => exact absurd ⟨hb, hy⟩ (hr1.old.gh b x hx)
    refine ⟨hr1.df, val, h1, val, g', rfl, ?_, (h2.reset hg'2 hltr).sub hsub1⟩
    refine ⟨hr.df, hr.sz, fun t => (hr.tm t).later hl hext, fun b x hx => ?_, fun b hb => ?_, fun b x hx => ?_, fun b b' x x' k hx hx' hk1 hk2 => ?_, fun b x k hx hk1 => ?_, hr.oo, ?_, ?_⟩
    · rcases hcase b x hx with ⟨_, hx1, hlt', hbl⟩ | ⟨_, hx1, hn'⟩
      · exact ((hr1.bx b x hx1).reset hg'2 hlt' hbl).sub hsub1
      · refine (hr.bx b x hx1).later hl hext (fun k hk' => ?_) (hgo' b x hx1 hn')
        refine hr1.kept.block k (hr.own b x k hx1 hk').2.2 ?_
        rintro ⟨b', x', hx', hk2⟩
        have := hr.sep b b' x x' k hx1 (hkH b' x' hx') hk' hk2
        subst this
        rw [hx'] at hn'; cases hn'
    · have hbd : ¬ D b := fun h => hb (.inl h)
      have hg0 := hr.fresh b hbd
      rcases Nat.lt_or_ge b (nx + r.nw) with hlt' | hlt'
      · have hbx : b < nx := by
          rcases Nat.lt_or_ge b nx with h | h
          · exact h
          · exact absurd (.inr ⟨h, hlt'⟩) hb
        have hn' : hk Hl b = none := by
          cases hy : hk Hl b with
          | none => rfl
          | some y => exact absurd (hr.dom b y (hkH b y hy)) hbd
        rw [hg'2 b hlt', (hr1.old.gx b ⟨hbx, hn'⟩).2]
        show g1 b = []
        rw [hg1 b hbx, hg0]
      · show g' b = []
        have : g' b = g b := if_neg (by omega)
        rw [this, hg0]
    · rcases hcase b x hx with ⟨_, hx1, hlt', _⟩ | ⟨_, hx1, hn'⟩
      · rcases Nat.lt_or_ge b nx with h | h
        · obtain ⟨y, hy⟩ := hlow b x hx1 h
          exact .inl (hr.dom b y (hkH b y hy))
        · exact .inr ⟨h, hlt'⟩
      · exact .inl (hr.dom b x hx1)
    · rcases hcase b x hx with ⟨_, hx1, hlt', _⟩ | ⟨_, hx1, hn'⟩ <;> rcases hcase b' x' hx' with ⟨_, hx1', hlt'', _⟩ | ⟨_, hx1', hn''⟩
      · rw [ownBlk_congr x (hg'2 b hlt')] at hk1; rw [ownBlk_congr x' (hg'2 b' hlt'')] at hk2
        exact hr1.sep b b' x x' k hx1 hx1' hk1 hk2
      · rw [ownBlk_congr x (hg'2 b hlt')] at hk1; rw [ownBlk_congr x' (hgo' b' x' hx1' hn'')] at hk2
        exact absurd (.inr ⟨b', x', hx1', hn'', hk2⟩) (hr1.own b x k hx1 hk1).1
      · rw [ownBlk_congr x (hgo' b x hx1 hn')] at hk1; rw [ownBlk_congr x' (hg'2 b' hlt'')] at hk2
        exact absurd (.inr ⟨b, x, hx1, hn', hk1⟩) (hr1.own b' x' k hx1' hk2).1
      · rw [ownBlk_congr x (hgo' b x hx1 hn')] at hk1; rw [ownBlk_congr x' (hgo' b' x' hx1' hn'')] at hk2
        exact hr.sep b b' x x' k hx1 hx1' hk1 hk2
    · rcases hcase b x hx with ⟨_, hx1, hlt', _⟩ | ⟨_, hx1, hn'⟩
      · rw [ownBlk_congr x (hg'2 b hlt')] at hk1
        obtain ⟨p1, p2, p3⟩ := hr1.own b x k hx1 hk1
        refine ⟨fun ho => p1 (.inl ho), ?_, p3⟩
        rcases p2 with ⟨b', x', hx', hk'⟩ | p2
        · exact (hr.own b' x' k (hkH b' x' hx') hk').2.1
        · exact .inr (Nat.le_trans hr.kept.size p2)
      · rw [ownBlk_congr x (hgo' b x hx1 hn')] at hk1
        obtain ⟨p1, p2, p3⟩ := hr.own b x k hx1 hk1
        exact ⟨p1, p2, Nat.lt_of_lt_of_le p3 hr1.kept.size⟩
    · refine hr.kept.trans hr1.kept (fun k hk' hf => ?_)
      obtain ⟨b, x, hx, hob'⟩ := hf
      rcases (hr.own b x k (hkH b x hx) hob').2.1 with h | h
      · exact h
      · omega
    · refine ⟨fun b hb ver v hv => hext b ver v (hr.old.ge b hb ver v hv), fun b hb => .inl (hr.old.gm b hb), fun b hb => ?_, fun b x hx => ?_⟩
      · obtain ⟨h1, h2⟩ := hr.old.gx b hb
        refine ⟨h1, ?_⟩
        have hHb : H' b = none := by
          cases hy : H' b with
          | none => rfl
          | some y => exact absurd hb (hr.old.gh b y hy)
        have hn' : hk Hl b = none := by
          cases hy : hk Hl b with
          | none => rfl
          | some y => rw [hkH b y hy] at hHb; cases hHb
        rcases hgo b hn' (fun _ => by
          rcases Nat.lt_or_ge b nx with h | h
          · exact .inl h
          · exact .inr (hnd b h (by assumption))) with h | h
        · rw [h]; exact h2
        · exact absurd (hr.old.gm b h1) (hnd b h.1 h.2)
      · rcases hcase b x hx with ⟨_, hx1, hlt', _⟩ | ⟨_, hx1, hn'⟩
        · rcases Nat.lt_or_ge b nx with h | h
          · obtain ⟨y, hy⟩ := hlow b x hx1 h
            exact hr.old.gh b y (hkH b y hy)
          · intro hf
            exact hnd b h hlt' (hr.old.gm b (hr.old.gx b hf).1)
        · exact hr.old.gh b x hx1
  cases e with
  | normal => exact fin hq
  | ret => exact fin hq
  | _ => exact hq.elim
theorem calls_go {P : Program} {f : Nat} {fn : Func} {c : Code} {as : List AV} {Hl : HH} {nx n : Nat} {rs : Array ResultVar} (v : AV) (wb : HH) (nw : Nat) (hm : P.follows .mixedOrders = true) (hf : P.funcs[f]? = some fn) (hb : fn.body = some c) (he : entB P f = true)
    (hn : fn.ntmps = n) (hrs : fn.results = rs) (hle : as.length.ble n = true) (h1 : Lts nx as) (h2 : HBs nx Hl) (h3 : Lt (nx + nw) v) (h4 : HBs (nx + nw) wb) (h5 : keysOk wb = true) (h6 : ∀ p ∈ Hl, p.1 ∈ wb.map (·.1))
    (h : Tr P n c (argT as 0) Hl nx (retV P rs.toList ⟨v, wb, nw, Hl.map (·.1)⟩)) : CallS P (hk Hl) nx f as ⟨v, wb, nw, Hl.map (·.1)⟩ := by
  subst hn
  subst hrs
  exact calls_tr hf hb he (Nat.le_of_ble_eq_true hle) h1.all h2.all h3 h4.all h5 rfl h6 h
end Go.AL
/-
  The abstract logic: the order of a region whose boxes' numbers are not told in digits. Conditions: none.
-/
namespace Go.AL
open Go Go.RowKit
def mapFP (ρ : Nat → Nat) (f : FP) : FP := (f.1.map ρ, f.2.map ρ)
def ltFP (m : Nat) (f : FP) : Bool := (f.1.all fun k => k.blt m) && f.2.all fun k => k.blt m
theorem disj_map {ρ : Nat → Nat} {m : Nat} (hρ : ∀ x y, x < m → y < m → ρ x = ρ y → x = y) {a b : List Nat} (ha : (a.all fun k => k.blt m) = true) (hb : (b.all fun k => k.blt m) = true) (h : disj a b = true) : disj (a.map ρ) (b.map ρ) = true := by
  have ha' : ∀ x ∈ a, x < m := fun x hx => by have := List.all_eq_true.1 ha x hx; exact Nat.le_of_ble_eq_true this
  have hb' : ∀ x ∈ b, x < m := fun x hx => by have := List.all_eq_true.1 hb x hx; exact Nat.le_of_ble_eq_true this
  refine List.all_eq_true.2 fun y hy => ?_
  obtain ⟨x, hx, rfl⟩ := List.mem_map.1 hy
  rw [Bool.not_eq_true', List.contains_eq_mem, decide_eq_false_iff_not]
  intro hm
  obtain ⟨z, hz, e⟩ := List.mem_map.1 hm
  have := hρ z x (hb' z hz) (ha' x hx) e
  subst this
  exact disj_spec h hx hz
theorem apart_map {ρ : Nat → Nat} {m : Nat} (hρ : ∀ x y, x < m → y < m → ρ x = ρ y → x = y) {ds : List (Option Nat)} {oi oj : Oper} {fi fj : FP} (hi : ltFP m fi = true) (hj : ltFP m fj = true) (h : apart ds oi oj fi fj = true) :
    apart ds oi oj (mapFP ρ fi) (mapFP ρ fj) = true := by
  unfold ltFP at hi hj
  unfold apart mapFP at *
  simp only [Bool.and_eq_true] at *
  exact ⟨⟨⟨h.1.1.1, disj_map hρ hi.2 hj.1 h.1.1.2⟩, disj_map hρ hi.2 hj.2 h.1.2⟩, disj_map hρ hi.1 hj.2 h.2⟩
theorem regOk_map {ρ : Nat → Nat} {m : Nat} (hρ : ∀ x y, x < m → y < m → ρ x = ρ y → x = y) {ops : List Oper} {fps : List FP} (hb : (fps.all (ltFP m)) = true) (h : regOk ops fps = true) : regOk ops (fps.map (mapFP ρ)) = true := by
  have hz : (ops.zip (fps.map (mapFP ρ))).zipIdx = (ops.zip fps).zipIdx.map fun p => ((p.1.1, mapFP ρ p.1.2), p.2) := by
    rw [List.zip_map_right, List.zipIdx_map]
    rfl
  have hm : ∀ p ∈ (ops.zip fps).zipIdx, ltFP m p.1.2 = true := fun p hp => by
    have h1 := List.mem_zipIdx' hp
    have h2 : p.1 ∈ ops.zip fps := by rw [h1.2]; exact List.getElem_mem _
    exact List.all_eq_true.1 hb _ (List.of_mem_zip h2).2
  unfold regOk at *
  simp only [hz, List.all_map, List.all_eq_true, Function.comp_apply] at *
  intro p hp
  have h1 := h p hp
  simp only [Bool.and_eq_true, List.all_eq_true] at h1 ⊢
  refine ⟨h1.1, fun q hq => ?_⟩
  have h2 := h1.2 q hq
  have h3 : (!decide (q.2 < p.2) || ((cls ops []).getD p.2 0).testBit q.2 || apart (ops.map (·.dst)) q.1.1 p.1.1 (mapFP ρ q.1.2) (mapFP ρ p.1.2)) = true := by
    rw [Bool.or_eq_true] at h2 ⊢
    rcases h2 with h2 | h2
    · exact .inl h2
    · exact .inr (apart_map hρ (hm q hq) (hm p hp) h2)
  exact h3
theorem regOk_ns (ns : List Nat) (hnd : ns.Nodup) {ops : List Oper} {fps : List FP} (fps0 : List FP) (e : fps0.map (mapFP fun k => ns.getD k 0) = fps) (hb : (fps0.all (ltFP ns.length)) = true) (h : regOk ops fps0 = true) : regOk ops fps = true := by
  rw [← e]
  refine regOk_map (m := ns.length) (fun x y hx hy hxy => ?_) hb h
  rw [List.getD_eq_getElem?_getD, List.getD_eq_getElem?_getD, List.getElem?_eq_getElem hx, List.getElem?_eq_getElem hy] at hxy
  have hp := List.pairwise_iff_getElem.1 hnd
  rcases Nat.lt_trichotomy x y with h1 | h1 | h1
  · exact absurd hxy (hp x y hx hy h1)
  · exact h1
  · exact absurd hxy.symm (hp y x hy hx h1)
end Go.AL
/-
  The abstract logic: a function that is handed an empty slice without room works as one that is handed a row of the caller's. Conditions: none.
-/
namespace Go.AL
open Go Go.RowKit
theorem rel_e0 {C : Cx} {T : Nat → AV} {H : Nat → Option ABox} {D : Nat → Prop} {g : Nat → List Value} {a : Act} {w : World} {nx : Nat} (e z : Nat) (a0 : Option Addr) (hr : Rel C T H D g a w) (hnd : ¬ D nx) :
    Rel C T (updF H nx (some (.row e z 0 []))) (fun c => D c ∨ c = nx) (updF g nx [.slice a0 0 0]) a w := by
  have hg0 : g nx = [] := hr.fresh nx hnd
  have hext : Ext g (updF g nx [.slice a0 0 0]) := Ext.new hg0
  have hother : ∀ b x, updF H nx (some (.row e z 0 [])) b = some x → (b = nx ∧ x = .row e z 0 []) ∨ (b ≠ nx ∧ H b = some x) := by
    intro b x hx
    by_cases hb : b = nx
    · rw [hb, updF_same] at hx; injection hx with hx; exact .inl ⟨hb, hx.symm⟩
    · rw [updF_other hb] at hx; exact .inr ⟨hb, hx⟩
  have hob : ∀ b x, b ≠ nx → ownBlk (updF g nx [.slice a0 0 0]) b x = ownBlk g b x := fun b x hb => ownBlk_congr x (updF_other hb)
  have hnob : ownBlk (updF g nx [.slice a0 0 0]) nx (.row e z 0 []) = none := by
    simp only [ownBlk, updF_same]
    cases a0 <;> rfl
  have hOwn : ∀ k, Own C.O (updF g nx [.slice a0 0 0]) (updF H nx (some (.row e z 0 []))) k → Own C.O g H k := by
    rintro k (ho | ⟨b, x, hx, hk'⟩)
    · exact .inl ho
    · rcases hother b x hx with ⟨rfl, rfl⟩ | ⟨hb, hx⟩
      · rw [hnob] at hk'; cases hk'
      · rw [hob b x hb] at hk'; exact .inr ⟨b, x, hx, hk'⟩
  have hl : Later w (Own C.O g H) w (Own C.O (updF g nx [.slice a0 0 0]) (updF H nx (some (.row e z 0 [])))) := ⟨Nat.le_refl _, fun _ _ _ => rfl, fun k _ h => hOwn k h⟩
  refine ⟨hr.df, hr.sz, fun s => (hr.tm s).later hl hext, fun b x hx => ?_, fun b hb => ?_, fun b x hx => ?_, fun b b' x x' k hx hx' hk1 hk2 => ?_, fun b x k hx hk1 => ?_, hr.oo, hr.kept, ?_⟩
  · rcases hother b x hx with ⟨rfl, rfl⟩ | ⟨hb, hx⟩
    · exact ⟨.slice a0 0 0, [], by rw [updF_same]; rfl, by rw [updF_same]; rfl, .empty w e z a0, fun a ha => by simp at ha, fun i hi => by simp at hi⟩
    · exact (hr.bx b x hx).later hl hext (fun _ _ => rfl) (updF_other hb)
  · have h1 : b ≠ nx := fun e => hb (.inr e)
    rw [updF_other h1]; exact hr.fresh b (fun h => hb (.inl h))
  · rcases hother b x hx with ⟨rfl, rfl⟩ | ⟨hb, hx⟩
    · exact .inr rfl
    · exact .inl (hr.dom b x hx)
  · rcases hother b x hx with ⟨rfl, rfl⟩ | ⟨hb, hx⟩
    · rw [hnob] at hk1; cases hk1
    · rcases hother b' x' hx' with ⟨rfl, rfl⟩ | ⟨hb', hx'⟩
      · rw [hnob] at hk2; cases hk2
      · rw [hob b x hb] at hk1; rw [hob b' x' hb'] at hk2
        exact hr.sep b b' x x' k hx hx' hk1 hk2
  · rcases hother b x hx with ⟨rfl, rfl⟩ | ⟨hb, hx⟩
    · rw [hnob] at hk1; cases hk1
    · rw [hob b x hb] at hk1
      exact hr.own b x k hx hk1
  · refine ⟨fun b hb ver v hv' => hext b ver v (hr.old.ge b hb ver v hv'), fun b hb => .inl (hr.old.gm b hb), fun b hb => ?_, fun b x hx => ?_⟩
    · obtain ⟨h1, h2⟩ := hr.old.gx b hb
      refine ⟨h1, ?_⟩
      have h3 : b ≠ nx := fun e => hnd (e ▸ hr.old.gm b h1)
      rw [updF_other h3]; exact h2
    · rcases hother b x hx with ⟨rfl, rfl⟩ | ⟨hb, hx⟩
      · intro hf
        exact hnd (hr.old.gm _ (hr.old.gx _ hf).1)
      · exact hr.old.gh b x hx
theorem calls_e0 {P : Program} {f nx e z : Nat} {as1 : List AV} {v : AV} {x' : ABox} (h : CallS P (hk [(nx, .row e z 0 [])]) (nx + 1) f (as1 ++ [.ow nx 0]) ⟨v, [(nx, x')], 0, [nx]⟩) : CallS P (hk []) nx f (as1 ++ [.e0]) ⟨v, [(nx, x')], 1, []⟩ := by
  refine ⟨h.1, fun C T' H' D g a w hP hr _ hn vs hvs => ?_⟩
  have hnd : ¬ D nx := hn 0 (Nat.lt_succ_self 0)
  have hlen : (as1 ++ [AV.e0]).length = as1.length + 1 := by rw [List.length_append]; rfl
  have hlast := hvs.2 as1.length (by rw [hlen]; exact Nat.lt_succ_self _)
  have e1 : (as1 ++ [AV.e0]).getD as1.length .und = .e0 := by rw [List.getD_eq_getElem?_getD, List.getElem?_append_right (Nat.le_refl _), Nat.sub_self]; rfl
  rw [e1] at hlast
  obtain ⟨a0, hv⟩ := hlast.e0_inv
  have hr' := rel_e0 e z a0 hr hnd
  have hg0 : g nx = [] := hr.fresh nx hnd
  have hext : Ext g (updF g nx [.slice a0 0 0]) := Ext.new hg0
  have hOwn : ∀ k, Own C.O (updF g nx [.slice a0 0 0]) (updF H' nx (some (.row e z 0 []))) k → Own C.O g H' k := by
    rintro k (ho | ⟨b, x, hx, hk'⟩)
    · exact .inl ho
    · by_cases hb : b = nx
      · subst hb
        rw [updF_same] at hx
        injection hx with hx
        subst hx
        have hnob : ownBlk (updF g b [.slice a0 0 0]) b (.row e z 0 []) = none := by
          simp only [ownBlk, updF_same]
          cases a0 <;> rfl
        rw [hnob] at hk'; cases hk'
      · rw [updF_other hb] at hx
        rw [ownBlk_congr x (updF_other hb)] at hk'
        exact .inr ⟨b, x, hx, hk'⟩
  have hl : Later w (Own C.O g H') w (Own C.O (updF g nx [.slice a0 0 0]) (updF H' nx (some (.row e z 0 [])))) := ⟨Nat.le_refl _, fun _ _ _ => rfl, fun k _ h => hOwn k h⟩
  have hvs' : Reps w (Own C.O (updF g nx [.slice a0 0 0]) (updF H' nx (some (.row e z 0 [])))) (updF g nx [.slice a0 0 0]) (as1 ++ [.ow nx 0]) vs := by
    refine ⟨by rw [hvs.1, hlen, List.length_append]; rfl, fun j hj => ?_⟩
    rw [List.length_append] at hj
    by_cases hjl : j < as1.length
    · have h1 := hvs.2 j (by rw [hlen]; omega)
      rw [getD_appl _ _ _ hjl] at h1 ⊢
      exact h1.later hl hext
    · have hje : j = as1.length := by simp at hj; omega
      subst hje
      rw [getD_appr _ _ _ (Nat.le_refl _), Nat.sub_self, hv]
      exact .ow nx 0 a0 0 0 (by rw [updF_same]; rfl)
  refine (h.2 C T' (updF H' nx (some (.row e z 0 []))) (fun c => D c ∨ c = nx) (updF g nx [.slice a0 0 0]) a w hP hr' (fun b hb => ?_) (fun i hi => absurd hi (Nat.not_lt_zero i)) vs hvs').mono ?_
  · have : b = nx := List.mem_singleton.1 hb
    subst this
    rw [updF_same]
    show _ = hk [(b, ABox.row e z 0 [])] b
    rw [hk_cons, if_pos rfl]
  · rintro en w' ⟨u, g', rfl, h1, h2⟩
    have hH : updL (updF H' nx (some (.row e z 0 []))) [(nx, x')] = updL H' [(nx, x')] := by
      funext c
      show updF (updF H' nx (some (.row e z 0 []))) nx (some x') c = updF H' nx (some x') c
      by_cases hc : c = nx
      · subst hc; rw [updF_same, updF_same]
      · rw [updF_other hc, updF_other hc, updF_other hc]
    dsimp only at h1 h2
    rw [hH] at h1 h2
    refine ⟨u, g', rfl, h1.dmono fun c hc => ?_, h2⟩
    rcases hc with (hc | rfl) | hc
    · exact .inl hc
    · exact .inr ⟨Nat.le_refl _, Nat.lt_succ_self _⟩
    · omega
end Go.AL
/-
  The abstract logic: a map compared with nil. Conditions: none.
-/
namespace Go.AL
open Go Go.RowKit
theorem run_eqGuard_map {P : Program} {op : BinOp} {t : TypeId} {x y : Operand} {a b : Option Nat} {w : World} : (eqGuard op t x y (.map a) (.map b)).run P w = .ok () w := by
  unfold eqGuard; split <;> rfl
theorem eqIn_mnil {P : Program} {t k e : TypeId} {r : Nat} {w : World} (d : Nat) (hu : P.underlying t = some (.map k e)) : (Op.equalIn (d + 1) t (.map (some r)) (.map none)).run P w = .ok false w := by
  simp [Op.equalIn, run_underlying hu]
theorem eqp_mnil {P : Program} {t k e : TypeId} {r : Nat} {w : World} (hu : P.underlying t = some (.map k e)) : (Op.equal t (.map (some r)) (.map none)).run P w = .ok false w := eqIn_mnil 9999 hu
section
variable {P : Program} {T : Nat → AV} {H : Nat → Option ABox} {nx : Nat} {K : Res → Prop} {t t' : TypeId} {x y : Operand} {ag : Bool} {ks : List (Option IntKind)} {z : Value}
theorem aext_mnil {b : Nat} [hM : HasM P t ag ks z] (hc : (evO T x).cond = true) (hx : ev T x = .mp b) (hc' : (evO T y).cond = true) (hy : ev T y = .sc (.map none)) (hK : K ⟨.sc (.bool false), [], 0, []⟩) : aext P (.binOp .eql t x y t') T H nx K := ⟨_, hK, fun C o hP ho => by
  subst hP
  obtain ⟨kt, et, i, hu, _⟩ := hM.m
  refine opS_pure fun T' H' D g a w hr hT _ => ?_
  have r1 := one_rep hr (hT x (by simp [ho, Op.operands])) hc
  have r2 := one_rep hr (hT y (by simp [ho, Op.operands])) hc'
  rw [hx] at r1; rw [hy] at r2
  obtain ⟨blk, hv, _⟩ := r1.mp_inv
  have hv2 := r2.sc_inv
  refine ⟨_, ?_, .sc _⟩
  unfold execOp
  simp only [ho, hv, hv2, Sem.run_bind, run_eqGuard_map, Result.andThen_ok, binOp, eqp_mnil hu]
  rfl⟩
end
end Go.AL
