/-
  The abstract logic: the tail of a row of one's own, cleared; the head of a row of one's own. Conditions: none.
-/
import Derived.Test.YtfhpalfchhinlaaAlB
import Derived.Test.YtfhpalfchhinlaaAlA
set_option linter.all false
namespace Go.AL
open Go Go.RowKit

section
variable {C : Cx} {o : Oper} {T : Nat → AV} {H : Nat → Option ABox} {nx : Nat}

theorem run_bound {P : Program} {w : World} {k : IntKind} {i : Int} {y : Nat} (code : BoundsCode) (h0 : 0 ≤ i) (h1 : i ≤ y) : (Instr.sliceBound (.int k i) y code).run P w = .ok i.toNat w := by
  simp only [Instr.sliceBound, asIntOf, Sem.run_bind, Sem.run_pure, Result.andThen_ok]
  rw [if_pos ⟨h0, h1⟩]; rfl

/-- the tail of a row. -/
theorem opS_tail {t e z by_ b ver : Nat} {ag : Bool} {x lo : Operand} {es : List AV} {k : IntKind} {i : Int} (h : o.op = .slice t x (some lo) none none) (hc : (evO T x).cond = true) (hx : ev T x = .ow b ver)
    (hb : H b = some (.row e z ver es)) (he : elI C.P t = some (e, z, by_, ag)) (hlo : ev T lo = .sc (.int k i)) (hcl : (evO T lo).cond = true) (h0 : 0 ≤ i) (hi : i ≤ es.length) (hpos : 0 < es.length) : OpS C o T H nx ⟨.rs b ver z i.toNat, [], 0, [b]⟩ := by
  refine opS_pure fun T' H' D g a w hr hT hH => ?_
  have r1 := one_rep hr (hT x (by simp [h, Op.operands])) hc
  have r2 := one_rep hr (hT lo (by simp [h, Op.operands])) hcl
  rw [hx] at r1; rw [hlo] at r2
  have v2 := r2.sc_inv
  obtain ⟨a0, m, c, hv, hg⟩ := r1.ow_inv
  obtain ⟨blk, cap, cur, g1, _, _, hcap, _⟩ := row_open (hr.bx b _ ((hH b (by simp)).trans hb)) hpos
  have hg0 := hg
  rw [hg] at g1
  injection g1 with g1
  injection g1 with e1 e2 e3
  subst e1; subst e2; subst e3
  obtain ⟨inf, k1, k2, k3, k4, k5, k6, k7⟩ := elI_some he
  have hbounds : (Instr.sliceBounds true es.length (cap + 1) (some (.int k i)) none none).run C.P w = .ok (i.toNat, es.length, cap + 1) w := by
    simp [Instr.sliceBounds, run_bound _ h0 hi]
  have hsl : (Instr.slice t (.slice (some ⟨blk, 0, none⟩) es.length (cap + 1)) (some (.int k i)) none none).run C.P w =
      .ok (.slice (if cap + 1 = i.toNat then some ⟨blk, 0, none⟩ else some (Addr.add ⟨blk, 0, none⟩ (i.toNat * z))) (es.length - i.toNat) (cap + 1 - i.toNat)) w := by
    unfold Instr.slice
    simp only [Sem.run_bind, run_underlying k1, Result.andThen_ok, hbounds, run_sizeOf' k2, Sem.run_pure, k3, Option.map_some]
  refine ⟨.slice (some ⟨blk, if cap + 1 = i.toNat then 0 else i.toNat * z, none⟩) (es.length - i.toNat) (cap + 1 - i.toNat), ?_, ?_⟩
  · have e1 : (if cap + 1 = i.toNat then some (⟨blk, 0, none⟩ : Addr) else some (Addr.add ⟨blk, 0, none⟩ (i.toNat * z))) = some ⟨blk, if cap + 1 = i.toNat then 0 else i.toNat * z, none⟩ := by
      split
      · rfl
      · simp only [Addr.add, Nat.zero_add]
        split
        · rename_i h0; rw [h0]
        · rfl
    rw [e1] at hsl
    unfold execOp
    simp only [h, hv, v2, Option.map_none, Option.map_some, Instr.sliceAt, Sem.run_bind, run_underlying k1, Result.andThen_ok, hsl, Sem.run_pure]
  · refine .rs b ver z i.toNat blk es.length (cap + 1) _ _ hg0 (fun hp => ?_)
    rw [if_neg (by omega)]

/-- the head of a row. -/
theorem opS_head {t e z by_ b ver : Nat} {ag : Bool} {x hi : Operand} {es : List AV} {k : IntKind} {i : Int} (h : o.op = .slice t x none (some hi) none) (hc : (evO T x).cond = true) (hx : ev T x = .ow b ver)
    (hb : H b = some (.row e z ver es)) (he : elI C.P t = some (e, z, by_, ag)) (hhi : ev T hi = .sc (.int k i)) (hch : (evO T hi).cond = true) (h0 : 0 ≤ i) (hi' : i ≤ es.length) (hpos : 0 < es.length) :
    OpS C o T H nx ⟨.ow b (ver + 1), [(b, .row e z (ver + 1) (es.take i.toNat))], 0, [b]⟩ := by
  intro T' H' D g a w hr hT hH _ K Q hK
  have r1 := one_rep hr (hT x (by simp [h, Op.operands])) hc
  have r2 := one_rep hr (hT hi (by simp [h, Op.operands])) hch
  rw [hx] at r1; rw [hhi] at r2
  have v2 := r2.sc_inv
  obtain ⟨a0, m, c, hv, hg⟩ := r1.ow_inv
  have hb' : H' b = some (.row e z ver es) := (hH b (by simp)).trans hb
  obtain ⟨blk, cap, cur, g1, g2, h2, hcap, hc2, h5, hob, h6, h7⟩ := row_open (hr.bx b _ hb') hpos
  have hg0 := hg
  rw [hg] at g1
  injection g1 with g1
  injection g1 with e1 e2 e3
  subst e1; subst e2; subst e3
  obtain ⟨inf, k1, k2, k3, k4, k5, k6, k7⟩ := elI_some he
  have hbounds : (Instr.sliceBounds true es.length (cap + 1) none (some (.int k i)) none).run C.P w = .ok (0, i.toNat, cap + 1) w := by
    simp [Instr.sliceBounds, run_bound (P := C.P) (w := w) (k := k) (y := cap + 1) .sliceAcap h0 (by omega)]
  have hsl : (Instr.slice t (.slice (some ⟨blk, 0, none⟩) es.length (cap + 1)) none (some (.int k i)) none).run C.P w = .ok (.slice (some ⟨blk, 0, none⟩) i.toNat (cap + 1)) w := by
    unfold Instr.slice
    simp only [Sem.run_bind, run_underlying k1, Result.andThen_ok, hbounds, run_sizeOf' k2, Sem.run_pure, k3, Option.map_some]
    simp [Addr.add]
  have hrun : (execOp a.eval o).run C.P w = .ok (.value (.slice (some ⟨blk, 0, none⟩) i.toNat (cap + 1))) w := by
    unfold execOp
    simp only [h, hv, v2, Option.map_none, Option.map_some, Instr.sliceAt, Sem.run_bind, run_underlying k1, Result.andThen_ok, hsl, Sem.run_pure]
  have hlen : (es.take i.toNat).length = i.toNat := by rw [List.length_take]; omega
  have hgr : w.grownBy w (ownBlk g b (.row e z ver es)) := ⟨rfl, rfl, rfl, Nat.le_refl _, fun _ _ _ => rfl⟩
  have hget : (updF g b (g b ++ [.slice (some ⟨blk, 0, none⟩) i.toNat (cap + 1)]) b)[ver + 1]? = some (.slice (some ⟨blk, 0, none⟩) i.toNat (cap + 1)) := by
    rw [updF_same, List.getElem?_append_right (by omega), g2]; simp
  have hnow : ownBlk (updF g b (g b ++ [.slice (some ⟨blk, 0, none⟩) i.toNat (cap + 1)])) b (.row e z (ver + 1) (es.take i.toNat)) = some blk := by
    simp only [ownBlk, hget]; rfl
  have hrel := hr.regrow (v' := .slice (some ⟨blk, 0, none⟩) i.toNat (cap + 1)) (x1 := .row e z (ver + 1) (es.take i.toNat)) hb' hgr (Nat.le_refl _) (fun k hk => by
      rw [hnow] at hk; exact .inl (hob.trans hk)) (fun hl hxt => by
    refine ⟨_, cur.toList.take (i.toNat * z), hget, by rw [updF_same]; simp [g2], ⟨?_, .inr ⟨blk, cap, cur, by rw [hlen], h2, by omega, hc2, h5, by rw [hlen]⟩⟩, fun v hv => h6 v (List.mem_of_mem_take hv), fun i' hi2 j hj => ?_⟩
    · rw [List.length_take, hlen, Array.length_toList]
      have := Nat.mul_le_mul_right z (show i.toNat ≤ cap + 1 by omega)
      omega
    · rw [hlen] at hi2
      have hbd : i' * z + j < i.toNat * z := by
        have := Nat.mul_le_mul_right z (show i' + 1 ≤ i.toNat by omega)
        rw [Nat.succ_mul] at this; omega
      obtain ⟨h8, h9⟩ := h7 i' (by omega) j hj
      have e1 : (cur.toList.take (i.toNat * z)).getD (i' * z + j) undef = cur.getD (i' * z + j) undef := by
        rw [List.getD_eq_getElem?_getD, List.getElem?_take, if_pos hbd, Array.getElem?_toList, Array.getD_eq_getD_getElem?]
      have e2 : (es.take i.toNat).getD i' .und = es.getD i' .und := by
        rw [List.getD_eq_getElem?_getD, List.getElem?_take, if_pos hi2, ← List.getD_eq_getElem?_getD]
      rw [e1, e2]
      exact h9.later hl hxt)
  exact wp_of_value hrun (hK _ w _ (hrel.dmono fun b hb => .inl hb) (.ow b (ver + 1) _ _ _ hget))

theorem zeros_list (z : Array Value) (n : Nat) (u : Value) (h : u ∈ (Builtin.zeroCells z n).toList) : ∃ j, j < n * z.size ∧ u = z[j % z.size]! := by
  simp only [Builtin.zeroCells, Array.toList_map, Array.toList_range, List.mem_map, List.mem_range] at h
  obtain ⟨j, hj, rfl⟩ := h
  exact ⟨j, hj, rfl⟩

/-- clear of the tail of a row. -/
theorem opS_clear {t e z by_ b ver i : Nat} {ag : Bool} {x : Operand} {zs : List Value} {es : List AV} (h : o.op = .call { callee := .builtin .clear, args := #[x], argTypes := #[t] }) (hc : (evO T x).cond = true) (hx : ev T x = .rs b ver z i)
    (hb : H b = some (.row e z ver es)) (he : elI C.P t = some (e, z, by_, ag)) (hz : zI C.P e = some zs) (hzl : zs.length = z) (hone : zs.all Value.oneCell' = true) (hi : i ≤ es.length) (hpos : 0 < es.length) :
    OpS C o T H nx ⟨.und, [(b, .row e z ver (es.take i ++ List.replicate (es.length - i) (AV.agg (List.replicate z AV.und))))], 0, [b]⟩ := by
  intro T' H' D g a w hr hT hH _ K Q hK
  have r1 := one_rep hr (hT x (by simp [h, Op.operands, Call.operands])) hc
  rw [hx] at r1
  obtain ⟨blk, n, c, o', m, hv, hg, ho'⟩ := r1.rs_inv
  have hb' : H' b = some (.row e z ver es) := (hH b (by simp)).trans hb
  obtain ⟨blk', cap, cur, g1, g2, h2, hcap, hc2, h5, hob, h6, h7⟩ := row_open (hr.bx b _ hb') hpos
  have hg0 := hg
  rw [hg] at g1
  injection g1 with g1
  injection g1 with e1 e2 e3
  injection e1 with e1
  injection e1 with e1
  subst e1; subst e2; subst e3
  obtain ⟨inf, k1, k2, k3, k4, k5, k6, k7⟩ := elI_some he
  obtain ⟨inf', z0, j1, j2, j3⟩ := zI_some hz
  rw [k2] at j1; injection j1 with j1; subst j1
  have hlen : (es.take i ++ List.replicate (es.length - i) (AV.agg (List.replicate z .und))).length = es.length := by simp; omega
  have key : ∀ (w' : World) (cur' : Array Value), w' = w.setRow blk cur' → cur'.size = cur.size → (∀ j, j < i * z → cur'.getD j undef = cur.getD j undef) → 
      (execOp a.eval o).run C.P w = .ok (.value (.tuple #[])) w' → o.wp C.P a w K Q := by
    intro w' cur' hw' hsz hlow hrun
    subst hw'
    have hrel : Rel C T' (updF H' b (some (ABox.row e z ver (es.take i ++ List.replicate (es.length - i) (AV.agg (List.replicate z AV.und)))))) D g a (w.setRow blk cur') := by
      refine hr.setbox hb' hob (by simp only [ownBlk, hg0]; rfl) rfl rfl rfl (by simp) (Nat.le_refl _) (fun k hk => setRow_other w blk k _ hk) (fun hl => ?_)
      refine ⟨_, cur'.toList.take (es.length * z), hg0, g2, ⟨?_, .inr ⟨blk, cap, cur', by rw [hlen], setRow_heap w blk cur _ e (0, 0) h2, by omega, hc2, by omega, by rw [hlen]⟩⟩, fun v hv => ?_, fun i' hi' j hj => ?_⟩
      · have hq : cur'.toList.length = (cap + 1) * z := by rw [Array.length_toList, hsz, h5]
        rw [List.length_take, hlen, hq]
        have := Nat.mul_le_mul_right z hcap
        omega
      · rcases List.mem_append.1 hv with hv | hv
        · exact h6 v (List.mem_of_mem_take hv)
        · rw [List.eq_of_mem_replicate hv]; simp [AV.cells]
      · rw [hlen] at hi'
        by_cases hlt : i' < i
        · have hbd : i' * z + j < i * z := by
            have := Nat.mul_le_mul_right z (show i' + 1 ≤ i by omega)
            rw [Nat.succ_mul] at this; omega
          have hbd2 : i * z ≤ es.length * z := Nat.mul_le_mul_right z hi
          have e1 : (cur'.toList.take (es.length * z)).getD (i' * z + j) undef = cur'.getD (i' * z + j) undef := by
            rw [List.getD_eq_getElem?_getD, List.getElem?_take, if_pos (by omega), Array.getElem?_toList, Array.getD_eq_getD_getElem?]
          have e2 : (es.take i ++ List.replicate (es.length - i) (AV.agg (List.replicate z .und))).getD i' .und = es.getD i' .und := by
            rw [List.getD_eq_getElem?_getD, List.getElem?_append_left (by simp; omega), List.getElem?_take, if_pos hlt, ← List.getD_eq_getElem?_getD]
          rw [e1, e2, hlow _ hbd]
          exact (h7 i' (by omega) j hj).2.later hl (Ext.refl g)
        · have e2 : (es.take i ++ List.replicate (es.length - i) (AV.agg (List.replicate z .und))).getD i' .und = .agg (List.replicate z .und) := by
            rw [List.getD_eq_getElem?_getD, List.getElem?_append_right (by simp; omega), List.getElem?_replicate, if_pos (by simp; omega)]; rfl
          rw [e2]
          show Rep _ _ g ((List.replicate z AV.und).getD j .und) _
          rw [List.getD_eq_getElem?_getD, List.getElem?_replicate, if_pos hj]
          exact .und _
    exact wp_of_value hrun (hK _ _ g (hrel.dmono fun b hb => .inl hb) (.und _))
  by_cases hn : es.length - i = 0
  · refine key w cur (setRow_self w blk cur e (0, 0) h2).symm rfl (fun _ _ => rfl) ?_
    unfold execOp
    simp only [h, resolve, invoke, builtin, Sem.run_bind, Sem.run_pure, Result.andThen_ok, List.map_toArray, List.map_cons, List.map_nil, hv, hn]
    simp [Builtin.clear_, run_underlying k1]
  · have ho := ho' (by omega)
    subst ho
    have hzsz : z0.cells.size = z := by rw [← hzl, ← j3]; simp
    have hvs : (Builtin.zeroCells z0.cells (es.length - i)).toList.length = (es.length - i) * z := by
      simp [Builtin.zeroCells, hzsz]
    have hzp : 0 < z := by omega
    have h1 : ∀ u ∈ (Builtin.zeroCells z0.cells (es.length - i)).toList, u.oneCell' = true := by
      intro u hu
      obtain ⟨j, hj, rfl⟩ := zeros_list _ _ _ hu
      have hlt : j % z0.cells.size < z0.cells.size := Nat.mod_lt _ (by omega)
      rw [getElem!_pos z0.cells _ hlt]
      refine List.all_eq_true.1 hone _ ?_
      rw [← j3]
      exact Array.getElem_mem_toList hlt
    have hsum : i * z + (es.length - i) * z = es.length * z := by rw [← Nat.add_mul]; congr 1; omega
    have hle : es.length * z ≤ (cap + 1) * z := Nat.mul_le_mul_right z hcap
    have hst := run_storeCells_at (P := C.P) blk (i * z) e (Builtin.zeroCells z0.cells (es.length - i)).toList 0 cur w h2 (by rw [hvs]; omega) h1
    rw [Nat.add_zero] at hst
    refine key _ ((cur.toList.take (i * z) ++ (Builtin.zeroCells z0.cells (es.length - i)).toList ++ cur.toList.drop (i * z + (Builtin.zeroCells z0.cells (es.length - i)).toList.length)).toArray) rfl ?_ ?_ ?_
    · simp only [List.size_toArray, List.length_append, List.length_take, List.length_drop, Array.length_toList, hvs]; omega
    · intro j hj
      rw [Array.getD_eq_getD_getElem?]
      simp only [List.getElem?_toArray]
      rw [List.append_assoc, List.getElem?_append_left (by simp; omega), List.getElem?_take, if_pos hj]
      have : j < cur.size := by omega
      simp [Array.getD, this]
    · have hzv : (zeroValue e).run C.P w = .ok z0 w := by
        unfold zeroValue
        simp only [Sem.run_bind, run_typeInfo w k2, Result.andThen_ok, j2, Sem.run_pure]
      obtain ⟨q, hq⟩ : ∃ q, es.length - i = q + 1 := ⟨es.length - i - 1, by omega⟩
      unfold execOp
      simp only [h, resolve, invoke, builtin, Sem.run_bind, Sem.run_pure, Result.andThen_ok, List.map_toArray, List.map_cons, List.map_nil, hv]
      rw [hq] at hst ⊢
      simp [Builtin.clear_, run_underlying k1, hzv, hst]
end

/-- a slice that is not nil. -/
theorem anb_no (A B : Unit → Prop) : anb true false A B = B () := propext ⟨fun h => h.2 (fun _ => rfl), fun h => ⟨fun h' => absurd (h' rfl) (by decide), fun _ => h⟩⟩
section
variable {P : Program} {T : Nat → AV} {H : Nat → Option ABox} {nx : Nat} {K : Res → Prop} {t e z by_ b ver : Nat} {ag : Bool}
theorem aext_tail {x lo : Operand} {es : List AV} {k : IntKind} {i : Int} (he : elI P t = some (e, z, by_, ag)) (hc : (evO T x).cond = true) (hx : ev T x = .ow b ver) (hb : H b = some (.row e z ver es)) (hlo : ev T lo = .sc (.int k i)) (hcl : (evO T lo).cond = true)
    (h0 : 0 ≤ i ∧ i ≤ es.length ∧ 0 < es.length) (hK : K ⟨.rs b ver z i.toNat, [], 0, [b]⟩) : aext P (.slice t x (some lo) none none) T H nx K :=
  ⟨_, hK, fun C o hP ho => by subst hP; exact opS_tail ho hc hx hb he hlo hcl h0.1 h0.2.1 h0.2.2⟩
theorem aext_head {x hi : Operand} {es : List AV} {k : IntKind} {i : Int} (he : elI P t = some (e, z, by_, ag)) (hc : (evO T x).cond = true) (hx : ev T x = .ow b ver) (hb : H b = some (.row e z ver es)) (hlo : ev T hi = .sc (.int k i)) (hcl : (evO T hi).cond = true)
    (h0 : 0 ≤ i ∧ i ≤ es.length ∧ 0 < es.length) (hK : K ⟨.ow b (ver + 1), [(b, .row e z (ver + 1) (es.take i.toNat))], 0, [b]⟩) : aext P (.slice t x none (some hi) none) T H nx K :=
  ⟨_, hK, fun C o hP ho => by subst hP; exact opS_head ho hc hx hb he hlo hcl h0.1 h0.2.1 h0.2.2⟩
theorem aext_clear {x : Operand} {zs : List Value} {es : List AV} {i : Nat} (he : elI P t = some (e, z, by_, ag)) (hz : zI P e = some zs) (hzl : zs.length = z) (hone : zs.all Value.oneCell' = true) (hc : (evO T x).cond = true) (hx : ev T x = .rs b ver z i) (hb : H b = some (.row e z ver es))
    (h0 : i ≤ es.length ∧ 0 < es.length) (hK : K ⟨.und, [(b, .row e z ver (es.take i ++ List.replicate (es.length - i) (AV.agg (List.replicate z AV.und))))], 0, [b]⟩) : aext P (.call { callee := .builtin .clear, args := #[x], argTypes := #[t] }) T H nx K :=
  ⟨_, hK, fun C o hP ho => by subst hP; exact opS_clear ho hc hx hb he hz hzl hone h0.1 h0.2⟩
/-- a literal of large elements, as a row of one's own. -/
theorem aext_litrow {len : Nat} {ps : Array (Nat × Operand)} {zs : List Value} (he : elI P t = some (e, z, by_, ag)) (hz : zI P e = some zs) (hp : zs.length = z ∧ len * z ≤ 16777216 ∧ (∀ p ∈ ps.toList, (evO T p.2).cond = true) ∧ afP ((List.range len).map fun i => (i * z, z)) ((List.replicate len (zs.map avCell)).flatten) (ps.toList.map fun p => (p.1, ev T p.2)) ∧ ones (afV ((List.range len).map fun i => (i * z, z)) ((List.replicate len (zs.map avCell)).flatten) (ps.toList.map fun p => (p.1, ev T p.2))) = true ∧ (∀ p ∈ ps.toList, p.1 < len))
    (hK : K ⟨.ow nx 0, [(nx, .row e z 0 (chunks z ag len (afV ((List.range len).map fun i => (i * z, z)) ((List.replicate len (zs.map avCell)).flatten) (ps.toList.map fun p => (p.1, ev T p.2)))))], 1, []⟩) : aext P (.buildSlice t len ps) T H nx K :=
  ⟨_, hK, fun C o hP ho => by subst hP; exact opS_buildSlice ho he hz hp.1 hp.2.1 hp.2.2.1 hp.2.2.2.1 hp.2.2.2.2.1 hp.2.2.2.2.2⟩
/-- .. and as content. -/
theorem aext_litsl {len : Nat} {ps : Array (Nat × Operand)} {zs : List Value} (he : elI P t = some (e, z, by_, ag)) (hz : zI P e = some zs) (hp : zs.length = z ∧ len * z ≤ 16777216 ∧ (∀ p ∈ ps.toList, (evO T p.2).cond = true) ∧ afP ((List.range len).map fun i => (i * z, z)) ((List.replicate len (zs.map avCell)).flatten) (ps.toList.map fun p => (p.1, ev T p.2)) ∧ ones (afV ((List.range len).map fun i => (i * z, z)) ((List.replicate len (zs.map avCell)).flatten) (ps.toList.map fun p => (p.1, ev T p.2))) = true ∧ (∀ p ∈ ps.toList, p.1 < len))
    (hK : K ⟨.sl (chunks z ag len (afV ((List.range len).map fun i => (i * z, z)) ((List.replicate len (zs.map avCell)).flatten) (ps.toList.map fun p => (p.1, ev T p.2)))), [], 1, []⟩) : aext P (.buildSlice t len ps) T H nx K :=
  ⟨_, hK, fun C o hP ho => by subst hP; exact (opS_buildSlice (H := H) (nx := nx) ho he hz hp.1 hp.2.1 hp.2.2.1 hp.2.2.2.1 hp.2.2.2.2.1 hp.2.2.2.2.2).freeze⟩
end
end Go.AL
