/-
  The abstract logic: maps of one's own whose keys are integers, Bools or structs of such. Conditions: none, over any program.
-/
import Derived.Test.YtlkngccfikeaiaaAlB
import Derived.Carry
import Derived.MapKept
set_option linter.all false
namespace Go.AL
open Go.RowKit
structure KeyT (P : Program) (kt : TypeId) (ag : Bool) (ks : List (Option IntKind)) : Prop where
  eq : eqI P 20 kt = some ks
  agg : aggB P kt = ag
  one : ag = false → ks.length = 1
  ck : ∀ (em : Bool) (w : World) (xs : List Value), xs.map kindOf = ks.map some → (Instr.checkKey em 10000 kt (formV ag xs)).run P w = .ok () w
def mfind (k : List Value) : List (List Value × Value) → Nat → Option (Nat × Value)
  | [], _ => none
  | (x, v) :: r, i => if veqs k x = true then some (i, v) else mfind k r (i + 1)
def ments (ag : Bool) : List (List Value × Value) → Nat → List MapEntry
  | [], _ => []
  | (x, v) :: r, i => ⟨formV ag x, v, i⟩ :: ments ag r (i + 1)
def mapOb (ag : Bool) (ms : List (List Value × Value)) : Obj := .map (ments ag ms 0).toArray ms.length
def mset (k : List Value) (v : Value) : List (List Value × Value) → List (List Value × Value)
  | [] => [(k, v)]
  | (x, u) :: r => if veqs k x = true then (k, v) :: r else (x, u) :: mset k v r
def MKeys (ks : List (Option IntKind)) (ms : List (List Value × Value)) : Prop := ∀ m ∈ ms, m.1.map kindOf = ks.map some
theorem MKeys.nil {ks : List (Option IntKind)} : MKeys ks [] := fun _ h => by cases h
theorem MKeys.tail {ks : List (Option IntKind)} {m : List Value × Value} {ms : List (List Value × Value)} (h : MKeys ks (m :: ms)) : MKeys ks ms := fun x hx => h x (List.mem_cons_of_mem _ hx)
theorem kind_eq : ∀ {v u : Value} {q : Option IntKind}, kindOf v = some q → kindOf u = some q → veq v u = true → v = u := by
  intro v u q h h' he
  cases q with
  | some k =>
    obtain ⟨n, rfl⟩ := kind_int h
    obtain ⟨m, rfl⟩ := kind_int h'
    simp [veq] at he
    rw [he]
  | none =>
    obtain ⟨n, rfl⟩ := kind_bool h
    obtain ⟨m, rfl⟩ := kind_bool h'
    simp [veq] at he
    rw [he]
theorem kinds_eq : ∀ {xs ys : List Value} {ks : List (Option IntKind)}, xs.map kindOf = ks.map some → ys.map kindOf = ks.map some → veqs xs ys = true → xs = ys
  | [], [], _, _, _, _ => rfl
  | [], _ :: _, [], _, h', _ => by simp at h'
  | [], _ :: _, _ :: _, h, _, _ => by simp at h
  | _ :: _, [], [], h, _, _ => by simp at h
  | _ :: _, [], _ :: _, _, h', _ => by simp at h'
  | _ :: _, _ :: _, [], h, _, _ => by simp at h
  | x :: xs, y :: ys, q :: ks, h, h', he => by
    simp only [List.map_cons, List.cons.injEq] at h h'
    simp only [veqs, Bool.and_eq_true] at he
    rw [kind_eq h.1 h'.1 he.1, kinds_eq h.2 h'.2 he.2]
section
variable {P : Program} {kt : TypeId} {ag : Bool} {ks : List (Option IntKind)}
theorem sameNow_m (hK : KeyT P kt ag ks) {d : TypeDesc} (hd : P.underlying kt = some d) {k x : List Value} (hk : k.map kindOf = ks.map some) (hx : x.map kindOf = ks.map some) :
    Instr.sameNow d (formV ag k) (formV ag x) = none ∨ Instr.sameNow d (formV ag k) (formV ag x) = some (veqs k x) := by
  have he := hK.eq
  have ha := hK.agg
  unfold eqI at he
  rw [hd] at he
  unfold aggB at ha
  rw [hd] at ha
  cases d with
  | bool =>
    right
    simp only [Option.some.injEq] at he
    subst he
    subst ha
    obtain ⟨a, rfl⟩ := List.length_eq_one_iff.1 (show k.length = 1 by simpa using congrArg List.length hk)
    obtain ⟨b, rfl⟩ := List.length_eq_one_iff.1 (show x.length = 1 by simpa using congrArg List.length hx)
    obtain ⟨n, rfl⟩ := kind_bool (by simpa using hk)
    obtain ⟨m, rfl⟩ := kind_bool (by simpa using hx)
    simp [formV, Instr.sameNow, veqs, veq]
  | int q =>
    right
    simp only [Option.some.injEq] at he
    subst he
    subst ha
    obtain ⟨a, rfl⟩ := List.length_eq_one_iff.1 (show k.length = 1 by simpa using congrArg List.length hk)
    obtain ⟨b, rfl⟩ := List.length_eq_one_iff.1 (show x.length = 1 by simpa using congrArg List.length hx)
    obtain ⟨n, rfl⟩ := kind_int (by simpa using hk)
    obtain ⟨m, rfl⟩ := kind_int (by simpa using hx)
    simp [formV, Instr.sameNow, veqs, veq]
    rfl
  | struct fs => left; rfl
  | _ => simp at he
theorem findNow_m (hK : KeyT P kt ag ks) {d : TypeDesc} (hd : P.underlying kt = some d) {k : List Value} (hk : k.map kindOf = ks.map some) : ∀ (ms : List (List Value × Value)) (i : Nat), MKeys ks ms →
    Instr.findNow d (formV ag k) (ments ag ms i) i = none ∨ Instr.findNow d (formV ag k) (ments ag ms i) i = some (mfind k ms i)
  | [], i, _ => .inr rfl
  | (x, v) :: r, i, h => by
    rcases sameNow_m hK hd hk (h (x, v) (List.mem_cons_self ..)) with e | e
    · left; simp only [ments, Instr.findNow, e]
    · rcases findNow_m hK hd hk r (i + 1) h.tail with e2 | e2
      · cases hv : veqs k x with
        | true => right; simp only [ments, Instr.findNow, e, mfind, hv, if_true]
        | false => left; simp only [ments, Instr.findNow, e, hv, e2]
      · right
        cases hv : veqs k x with
        | true => simp only [ments, Instr.findNow, e, mfind, hv, if_true]
        | false => simp only [ments, Instr.findNow, e, mfind, hv, e2, Bool.false_eq_true, if_false]
theorem findAsking_m (hK : KeyT P kt ag ks) {k : List Value} (hk : k.map kindOf = ks.map some) (w : World) : ∀ (ms : List (List Value × Value)) (i : Nat), MKeys ks ms →
    (Instr.findAsking kt (formV ag k) (ments ag ms i) i).run P w = .ok (mfind k ms i) w
  | [], i, _ => rfl
  | (x, v) :: r, i, h => by
    have he := eq_run 20 kt ks hK.eq 10000 (by omega) w k x hk (h (x, v) (List.mem_cons_self ..))
    rw [hK.agg] at he
    have hr := findAsking_m hK hk w r (i + 1) h.tail
    have he' : (Op.equal kt (formV ag k) (formV ag x)).run P w = .ok (veqs k x) w := he
    simp only [ments, Instr.findAsking, Sem.run_bind, he', Result.andThen_ok, mfind]
    cases veqs k x with
    | true => rfl
    | false => simp only [Bool.false_eq_true, if_false]; exact hr
theorem findKey_m (hK : KeyT P kt ag ks) {k : List Value} (hk : k.map kindOf = ks.map some) (w : World) (ms : List (List Value × Value)) (h : MKeys ks ms) :
    (Instr.findKey kt (formV ag k) (ments ag ms 0)).run P w = .ok (mfind k ms 0) w := by
  have hd : ∃ d, P.underlying kt = some d := by
    cases e : P.underlying kt with
    | some d => exact ⟨d, rfl⟩
    | none => have he := hK.eq; unfold eqI at he; rw [e] at he; cases he
  obtain ⟨d, hd⟩ := hd
  have ha := findAsking_m hK hk w ms 0 h
  unfold Instr.findKey
  simp only [Sem.run_bind, run_underlying hd, Result.andThen_ok]
  rcases findNow_m hK hd hk ms 0 h with e | e
  · rw [e]; exact ha
  · rw [e]; rfl
theorem ments_length (ms : List (List Value × Value)) : ∀ i, (ments ag ms i).length = ms.length := by
  induction ms with
  | nil => exact fun _ => rfl
  | cons m r ih => intro i; obtain ⟨x, v⟩ := m; simp [ments, ih]
theorem mset_none {k : List Value} {v : Value} : ∀ {ms : List (List Value × Value)} {i : Nat}, mfind k ms i = none → mset k v ms = ms ++ [(k, v)]
  | [], _, _ => rfl
  | (x, u) :: r, i, h => by
    unfold mfind at h
    split at h
    · cases h
    · rename_i hv
      rw [mset, if_neg hv, mset_none h]; rfl
theorem ments_append (a b : List (List Value × Value)) : ∀ i, ments ag (a ++ b) i = ments ag a i ++ ments ag b (i + a.length) := by
  induction a with
  | nil => intro i; simp [ments]
  | cons m r ih => intro i; obtain ⟨x, v⟩ := m; simp [ments, ih]; congr 1; omega
theorem mset_some {k : List Value} (hk : k.map kindOf = ks.map some) {v : Value} : ∀ {ms : List (List Value × Value)} {i j : Nat} {u : Value}, MKeys ks ms → mfind k ms i = some (j, u) →
    i ≤ j ∧ (ments ag ms i)[j - i]? = some ⟨formV ag k, u, j⟩ ∧ (ments ag ms i).modify (j - i) (fun e => { e with key := formV ag k, val := v }) = ments ag (mset k v ms) i ∧ (mset k v ms).length = ms.length
  | [], _, _, _, _, h => by cases h
  | (x, t) :: r, i, j, u, hm, h => by
    unfold mfind at h
    split at h
    · rename_i hv
      simp only [Option.some.injEq, Prod.mk.injEq] at h
      obtain ⟨rfl, rfl⟩ := h
      have := kinds_eq hk (hm (x, t) (List.mem_cons_self ..)) hv
      subst this
      rw [mset, if_pos hv]
      exact ⟨Nat.le_refl _, by simp [ments], by simp [ments], by simp⟩
    · rename_i hv
      obtain ⟨h1, h2, h3, h4⟩ := mset_some (v := v) hk hm.tail h
      have e : j - i = (j - (i + 1)) + 1 := by omega
      rw [mset, if_neg hv, e]
      refine ⟨by omega, by simp only [ments, List.getElem?_cons_succ]; exact h2, ?_, by simp [h4]⟩
      simp only [ments, List.modify_succ_cons]
      rw [h3]
theorem sameBits_kind {v : Value} {q : Option IntKind} (h : kindOf v = some q) (n : Nat) : Instr.sameBits n v v = true := by
  cases q with
  | some k => obtain ⟨m, rfl⟩ := kind_int h; cases n <;> simp [Instr.sameBits]
  | none => obtain ⟨m, rfl⟩ := kind_bool h; cases n <;> simp [Instr.sameBits]
theorem sameBits_form {k : List Value} (hk : k.map kindOf = ks.map some) (h1 : ag = false → k.length = 1) : Instr.sameBits 10000 (formV ag k) (formV ag k) = true := by
  have hall : ∀ v ∈ k, ∃ q, kindOf v = some q := fun v hv => by
    have : kindOf v ∈ k.map kindOf := List.mem_map.2 ⟨v, hv, rfl⟩
    rw [hk] at this
    obtain ⟨q, _, e⟩ := List.mem_map.1 this
    exact ⟨q, e.symm⟩
  cases ag with
  | false =>
    obtain ⟨a, rfl⟩ := List.length_eq_one_iff.1 (h1 rfl)
    obtain ⟨q, hq⟩ := hall a (List.mem_cons_self ..)
    exact sameBits_kind hq _
  | true =>
    show Instr.sameBits (9999 + 1) (.agg k.toArray) (.agg k.toArray) = true
    simp only [Instr.sameBits, beq_self_eq_true, Bool.true_and, List.all_eq_true]
    intro p hp
    have : ∀ (l : List Value) (p : Value × Value), p ∈ l.zip l → p.1 ∈ l ∧ p.1 = p.2 := by
      intro l
      induction l with
      | nil => intro p h; simp at h
      | cons a l ih =>
        intro p h
        rw [List.zip_cons_cons] at h
        rcases List.mem_cons.1 h with rfl | h
        · exact ⟨List.mem_cons_self .., rfl⟩
        · exact ⟨List.mem_cons_of_mem _ (ih p h).1, (ih p h).2⟩
    obtain ⟨hm, he⟩ := this k p hp
    obtain ⟨x, y⟩ := p
    simp only at he hm
    subst he
    obtain ⟨q, hq⟩ := hall x hm
    exact sameBits_kind hq _
end
class HasM (P : Program) (t : TypeId) (ag : outParam Bool) (ks : outParam (List (Option IntKind))) (z : outParam Value) : Prop where
  m : ∃ kt et i, P.underlying t = some (.map kt et) ∧ KeyT P kt ag ks ∧ P.info? et = some i ∧ i.zero = some z
def keyV (ag : Bool) (k : List Value) : AV := if ag then .agg (k.map .sc) else .sc (k.getD 0 undef)
def mgetV (k : List Value) (ms : List (List Value × Value)) (z : Value) : Value := match mfind k ms 0 with | some (_, v) => v | none => z
def mhas (k : List Value) (ms : List (List Value × Value)) : Bool := (mfind k ms 0).isSome
theorem keyV_rep {w : World} {O : Nat → Prop} {g : Nat → List Value} {ag : Bool} {k : List Value} {val : Value} (h : Rep w O g (keyV ag k) val) : val = formV ag k := by
  cases ag with
  | false => exact h.sc_inv
  | true =>
    obtain ⟨vs, rfl, hl, hr⟩ := Rep.agg_inv (cs := k.map .sc) h
    show Value.agg vs = .agg k.toArray
    congr 1
    apply Array.ext
    · simpa using hl
    · intro j h1 h2
      have := hr j (by omega)
      have hj : j < k.length := by simpa using h2
      rw [show (k.map AV.sc).getD j .und = .sc k[j] by simp [List.getD_eq_getElem?_getD, hj]] at this
      have e := this.sc_inv
      rw [show vs.getD j undef = vs[j] by simp [Array.getD, h1]] at e
      rw [e]; simp
section
variable {C : Cx} {o : Oper} {T : Nat → AV} {H : Nat → Option ABox} {nx : Nat}
theorem opS_makeMap {t : TypeId} (h : o.op = .makeMap t none) (ag : Bool) : OpS C o T H nx ⟨.mp nx, [(nx, .ob (mapOb ag []))], 1, []⟩ := by
  intro T' H' D g a w hr hT _ hn K Q hK
  have hn0 : ¬ D nx := hn 0 (Nat.lt_succ_self 0)
  have hrun : (execOp a.eval o).run C.P w = .ok (.value (.map (some w.heap.size))) (w.alloc (.map #[] 0)) := by
    unfold execOp
    simp only [h, Option.map_none, Sem.run_bind, run_makeMap, Result.andThen_ok]
    rfl
  have hrel := hr.newbox (x0 := .ob (mapOb ag [])) (gl := [.map (some w.heap.size)]) (o := .map #[] 0) hn0 (by simp [ownBlk, updF]) (fun hl hx => ⟨w.heap.size, by simp [updF], (by show (w.heap.push _)[w.heap.size]? = _; simp; rfl)⟩)
  refine wp_of_value hrun (hK _ _ _ (hrel.dmono fun b hb => ?_) (.mp nx w.heap.size (by simp [updF])))
  rcases hb with hb | rfl
  · exact .inl hb
  · exact .inr ⟨Nat.le_refl _, Nat.lt_succ_self _⟩
theorem opS_lookup {t : TypeId} {x ix : Operand} {ok ag : Bool} {b : Nat} {ks : List (Option IntKind)} {z : Value} {k : List Value} {ms : List (List Value × Value)} [hM : HasM C.P t ag ks z] (h : o.op = .lookup t x ix ok)
    (hc : (evO T x).cond = true) (hc' : (evO T ix).cond = true) (hx : ev T x = .mp b) (hb : H b = some (.ob (mapOb ag ms))) (hkey : ev T ix = keyV ag k) (hk : k.map kindOf = ks.map some) (hms : MKeys ks ms) :
    OpS C o T H nx ⟨if ok then .tup [.sc (mgetV k ms z), .b (mhas k ms)] else .sc (mgetV k ms z), [], 0, [b]⟩ := by
  obtain ⟨kt, et, i, hu, hK, hi, hz⟩ := hM.m
  refine opS_pure fun T' H' D g a w hr hT hH => ?_
  have r1 := one_rep hr (hT x (by simp [h, Op.operands])) hc
  have r2 := one_rep hr (hT ix (by simp [h, Op.operands])) hc'
  rw [hx] at r1
  rw [hkey] at r2
  obtain ⟨blk, hv, hg⟩ := r1.mp_inv
  have hkv := keyV_rep r2
  have hb' : H' b = some (.ob (mapOb ag ms)) := (hH b (by simp)).trans hb
  obtain ⟨blk', h1, h2⟩ := hr.bx b _ hb'
  have : blk' = blk := by rw [hg] at h1; simpa using h1.symm
  subst this
  have hf := findKey_m hK hk w ms hms
  have hrun : (Instr.lookup t (a.eval x) (a.eval ix) ok).run C.P w = .ok (if ok then .tuple #[mgetV k ms z, .bool (mhas k ms)] else mgetV k ms z) w := by
    have hg1 : (getObj blk').run C.P w = .ok (mapOb ag ms) w := MapKept.run_getObj_map h2
    unfold Instr.lookup
    rw [hv, hkv]
    simp only [Sem.run_bind, run_underlying hu, Result.andThen_ok, hg1, mapOb, Sem.run_pure, hK.ck _ w k hk, hf, mgetV, mhas]
    cases hm : mfind k ms 0 with
    | some p => obtain ⟨j, v⟩ := p; rfl
    | none => simp only [Sem.run_bind, run_zeroValue hi hz, Result.andThen_ok, Sem.run_pure]; rfl
  refine ⟨if ok then .tuple #[mgetV k ms z, .bool (mhas k ms)] else mgetV k ms z, ?_, ?_⟩
  · unfold execOp
    simp only [h, Sem.run_bind, hrun, Result.andThen_ok]
    rfl
  · cases ok with
    | false => exact .sc _
    | true =>
      refine .tup _ _ rfl fun j hj => ?_
      match j, hj with
      | 0, _ => exact .sc _
      | 1, _ => exact .sc _
theorem opS_mapUpdate {t : TypeId} {x ix y : Operand} {ag : Bool} {b : Nat} {ks : List (Option IntKind)} {z v : Value} {k : List Value} {ms : List (List Value × Value)} [hM : HasM C.P t ag ks z] (h : o.op = .mapUpdate t x ix y)
    (hc : (evO T x).cond = true) (hc' : (evO T ix).cond = true) (hc2 : (evO T y).cond = true) (hx : ev T x = .mp b) (hb : H b = some (.ob (mapOb ag ms))) (hkey : ev T ix = keyV ag k) (hy : ev T y = .sc v) (hk : k.map kindOf = ks.map some) (hms : MKeys ks ms) :
    OpS C o T H nx ⟨.und, [(b, .ob (mapOb ag (mset k v ms)))], 0, [b]⟩ := by
  obtain ⟨kt, et, i, hu, hK, hi, hz⟩ := hM.m
  intro T' H' D g a w hr hT hH _ K Q hKK
  have r1 := one_rep hr (hT x (by simp [h, Op.operands])) hc
  have r2 := one_rep hr (hT ix (by simp [h, Op.operands])) hc'
  have r3 := one_rep hr (hT y (by simp [h, Op.operands])) hc2
  rw [hx] at r1
  rw [hkey] at r2
  rw [hy] at r3
  obtain ⟨blk, hv, hg⟩ := r1.mp_inv
  have hkv := keyV_rep r2
  have hyv := r3.sc_inv
  have hb' : H' b = some (.ob (mapOb ag ms)) := (hH b (by simp)).trans hb
  obtain ⟨blk', h1, h2⟩ := hr.bx b _ hb'
  have : blk' = blk := by rw [hg] at h1; simpa using h1.symm
  subst this
  have hf := findKey_m hK hk w ms hms
  have hlen : k.length = ks.length := by simpa using congrArg List.length hk
  have hblk : blk' < w.heap.size := (Array.getElem?_eq_some_iff.1 h2).1
  have hrun : (Instr.mapUpdate t (a.eval x) (a.eval ix) (a.eval y)).run C.P w = .ok () { w with heap := w.heap.setIfInBounds blk' (mapOb ag (mset k v ms)) } := by
    have hg1 : (getObj blk').run C.P w = .ok (mapOb ag ms) w := MapKept.run_getObj_map h2
    unfold Instr.mapUpdate
    rw [hv, hkv, hyv]
    simp only [Sem.run_bind, run_underlying hu, Result.andThen_ok, hg1, mapOb, Sem.run_pure, hK.ck _ w k hk, hf]
    cases hm : mfind k ms 0 with
    | some p =>
      obtain ⟨j, u⟩ := p
      obtain ⟨_, e2, e3, e4⟩ := mset_some hk (v := v) hms hm
      simp only [Nat.sub_zero] at e2 e3
      have hks : (Instr.keyThatStays ((((ments ag ms 0).toArray[j]?).map (·.key)).getD (formV ag k)) (formV ag k)).run C.P w = .ok (formV ag k) w := by
        have e5 : ((ments ag ms 0).toArray[j]?).map (·.key) = some (formV ag k) := by rw [List.getElem?_toArray, e2]; rfl
        unfold Instr.keyThatStays
        rw [e5, Option.getD_some, sameBits_form hk (fun e => by rw [hlen]; exact hK.one e)]
        rfl
      simp only [Sem.run_bind, hks, Result.andThen_ok, MapKept.run_setObj_map _ h2]
      rw [e4, ← e3, List.modify_toArray]
    | none =>
      simp only [MapKept.run_setObj_map _ h2]
      rw [mset_none hm, ments_append, Nat.zero_add, List.length_append]
      simp [ments]
  have hrun' : (execOp a.eval o).run C.P w = .ok .skip { w with heap := w.heap.setIfInBounds blk' (mapOb ag (mset k v ms)) } := by
    unfold execOp
    simp only [h, Sem.run_bind, hrun, Result.andThen_ok]
    rfl
  have hset := MapKept.heap_set (o' := mapOb ag (mset k v ms)) h2
  refine wp_of_skip hrun' (hKK _ _ g ((hr.setbox (x1 := .ob (mapOb ag (mset k v ms))) (w' := { w with heap := w.heap.setIfInBounds blk' (mapOb ag (mset k v ms)) }) hb' (blk := blk') (by simp [ownBlk, hg]) (by simp [ownBlk, hg]) rfl rfl rfl (by simp) (Nat.le_refl _) (fun q hq => hset.2 q hq)
    (fun _ => ⟨blk', hg, hset.1⟩)).dmono fun b hb => .inl hb) (.und _))
end
/-! ### in a walk -/
section
variable {P : Program} {T : Nat → AV} {H : Nat → Option ABox} {nx : Nat} {K : Res → Prop} {t : TypeId} {ag : Bool} {ks : List (Option IntKind)} {z : Value}
theorem aext_makeMap [hM : HasM P t ag ks z] (hk : K ⟨.mp nx, [(nx, .ob (mapOb ag []))], 1, []⟩) : aext P (.makeMap t none) T H nx K := ⟨_, hk, fun _ _ _ ho => opS_makeMap ho ag⟩
theorem aext_lookup {x ix : Operand} {ok : Bool} {b : Nat} [hM : HasM P t ag ks z] (k : List Value) (ms : List (List Value × Value)) (hc : (evO T x).cond = true) (hc' : (evO T ix).cond = true) (hx : ev T x = .mp b) (hb : H b = some (.ob (mapOb ag ms))) (hkey : ev T ix = keyV ag k) (hk : k.map kindOf = ks.map some) (hms : MKeys ks ms)
    (hK : K ⟨if ok then .tup [.sc (mgetV k ms z), .b (mhas k ms)] else .sc (mgetV k ms z), [], 0, [b]⟩) : aext P (.lookup t x ix ok) T H nx K := ⟨_, hK, fun C o hP ho => by subst hP; exact opS_lookup ho hc hc' hx hb hkey hk hms⟩
theorem aext_mapUpdate {x ix y : Operand} {b : Nat} {v : Value} [hM : HasM P t ag ks z] (k : List Value) (ms : List (List Value × Value)) (hc : (evO T x).cond = true) (hc' : (evO T ix).cond = true) (hc2 : (evO T y).cond = true) (hx : ev T x = .mp b) (hb : H b = some (.ob (mapOb ag ms))) (hkey : ev T ix = keyV ag k) (hy : ev T y = .sc v) (hk : k.map kindOf = ks.map some) (hms : MKeys ks ms)
    (hK : K ⟨.und, [(b, .ob (mapOb ag (mset k v ms)))], 0, [b]⟩) : aext P (.mapUpdate t x ix y) T H nx K := ⟨_, hK, fun C o hP ho => by subst hP; exact opS_mapUpdate ho hc hc' hc2 hx hb hkey hy hk hms⟩
end
end Go.AL
