/-
  The abstract logic: a callee that is walked in its place and leaves its caller's boxes as they were: only the new boxes count as written. Conditions: the program follows the mixed orders.
-/
import Derived.Test.YtplmagdbnbijlaaGreatAlC
import Derived.Test.YtplmagdbnbijlaaGreatAlB
import Derived.Test.YtplmagdbnbijlaaGreatAlA
import Derived.ChangeKeysEq
set_option linter.all false
namespace Go.AL
open Go.RowKit
end Go.AL
/-
  The abstract logic: a choice whose condition is known. Conditions: none.
-/
namespace Go.AL
open Go.RowKit
section
open Go Go.RowKit
theorem aext_pick {P : Program} {T : Nat → AV} {H : Nat → Option ABox} {nx : Nat} {K : Res → Prop} {c x y : Operand} {p : Bool} (h1 : (evO T c).cond = true) (h2 : (evO T c).get = .sc (.bool true)) (h3 : (evO T x).cond = true) (h4 : (evO T x).get = .sc (.bool p))
    (hk : K ⟨.sc (.bool p), [], 0, []⟩) : aext P (.pick c x y) T H nx K := by
  refine ⟨_, hk, fun C o _ ho => opS_pure fun T' H' D g a w hr hT _ => ?_⟩
  have e1 : evO T' c = evO T c := hT c (by simp [ho, Op.operands])
  have e2 : evO T' x = evO T x := hT x (by simp [ho, Op.operands])
  have r1 := hr.evO c
  have r2 := hr.evO x
  rw [e1] at r1; rw [e2] at r2
  have r1' := r1.get h1
  rw [h2] at r1'
  have hcv : a.eval c = .bool true := r1'.sc_inv
  have r2' := r2.get h3
  rw [h4] at r2'
  refine ⟨a.eval x, ?_, ?_⟩
  · unfold execOp; simp only [ho, hcv]; rfl
  · simpa using r2'
theorem aext_pickf {P : Program} {T : Nat → AV} {H : Nat → Option ABox} {nx : Nat} {K : Res → Prop} {c x y : Operand} {p : Bool} (h1 : (evO T c).cond = true) (h2 : (evO T c).get = .sc (.bool false)) (h3 : (evO T y).cond = true) (h4 : (evO T y).get = .sc (.bool p))
    (hk : K ⟨.sc (.bool p), [], 0, []⟩) : aext P (.pick c x y) T H nx K := by
  refine ⟨_, hk, fun C o _ ho => opS_pure fun T' H' D g a w hr hT _ => ?_⟩
  have e1 : evO T' c = evO T c := hT c (by simp [ho, Op.operands])
  have e2 : evO T' y = evO T y := hT y (by simp [ho, Op.operands])
  have r1 := hr.evO c
  have r2 := hr.evO y
  rw [e1] at r1; rw [e2] at r2
  have r1' := r1.get h1
  rw [h2] at r1'
  have hcv : a.eval c = .bool false := r1'.sc_inv
  have r2' := r2.get h3
  rw [h4] at r2'
  refine ⟨a.eval y, ?_, ?_⟩
  · unfold execOp; simp only [ho, hcv]; rfl
  · simpa using r2'
theorem gcst_deadb {P : Program} {H : Nat → Option ABox} {nx : Nat} {f : AV} {as : List AV} {K : Res → Prop} (h : K ⟨.gd false (.b true), [], 0, []⟩) : gcst false P H nx f as K :=
  .inr (.inr ⟨.b true, [], (fun h => by cases h), h⟩)
end
end Go.AL
/-
  The abstract logic: the tail of a row of one's own, cleared; the head of a row of one's own. Conditions: none.
-/
namespace Go.AL
open Go Go.RowKit
section
variable {C : Cx} {o : Oper} {T : Nat → AV} {H : Nat → Option ABox} {nx : Nat}
theorem run_bound {P : Program} {w : World} {k : IntKind} {i : Int} {y : Nat} (code : BoundsCode) (h0 : 0 ≤ i) (h1 : i ≤ y) : (Instr.sliceBound (.int k i) y code).run P w = .ok i.toNat w := by
  simp only [Instr.sliceBound, asIntOf, Sem.run_bind, Sem.run_pure, Result.andThen_ok]
  rw [if_pos ⟨h0, h1⟩]; rfl
theorem opS_tail {t e z by_ b ver : Nat} {ag : Bool} {x lo : Operand} {es : List AV} {k : IntKind} {i : Int} (h : o.op = .slice t x (some lo) none none) (hc : (evO T x).cond = true) (hx : ev T x = .ow b ver)
    (hb : H b = some (.row e z ver es)) (he : elI C.P t = some (e, z, by_, ag)) (hlo : ev T lo = .sc (.int k i)) (hcl : (evO T lo).cond = true) (h0 : 0 ≤ i) (hi : i ≤ es.length) (hpos : 0 < es.length) : OpS C o T H nx ⟨.rs b ver z i.toNat, [], 0, [b]⟩ := by
  refine opS_pure fun T' H' D g a w hr hT hH => ?_
  have r1 := one_rep hr (hT x (by simp [h, Op.operands])) hc
  have r2 := one_rep hr (hT lo (by simp [h, Op.operands])) hcl
  rw [hx] at r1; rw [hlo] at r2
  have v2 := r2.sc_inv
  obtain ⟨a0, m, c, hv, hg⟩ := r1.ow_inv
  obtain ⟨blk, cap, cur, g1, _, _, hcap, _⟩ := row_open (hr.bx b _ ((hH b (by simp)).trans hb)) hpos
  have hg0 := hg
  rw [hg] at g1
  injection g1 with g1
  injection g1 with e1 e2 e3
  subst e1; subst e2; subst e3
  obtain ⟨inf, k1, k2, k3, k4, k5, k6, k7⟩ := elI_some he
  have hbounds : (Instr.sliceBounds true es.length (cap + 1) (some (.int k i)) none none).run C.P w = .ok (i.toNat, es.length, cap + 1) w := by
    simp [Instr.sliceBounds, run_bound _ h0 hi]
  have hsl : (Instr.slice t (.slice (some ⟨blk, 0, none⟩) es.length (cap + 1)) (some (.int k i)) none none).run C.P w =
      .ok (.slice (if cap + 1 = i.toNat then some ⟨blk, 0, none⟩ else some (Addr.add ⟨blk, 0, none⟩ (i.toNat * z))) (es.length - i.toNat) (cap + 1 - i.toNat)) w := by
    unfold Instr.slice
    simp only [Sem.run_bind, run_underlying k1, Result.andThen_ok, hbounds, run_sizeOf' k2, Sem.run_pure, k3, Option.map_some]
  refine ⟨.slice (some ⟨blk, if cap + 1 = i.toNat then 0 else i.toNat * z, none⟩) (es.length - i.toNat) (cap + 1 - i.toNat), ?_, ?_⟩
  · have e1 : (if cap + 1 = i.toNat then some (⟨blk, 0, none⟩ : Addr) else some (Addr.add ⟨blk, 0, none⟩ (i.toNat * z))) = some ⟨blk, if cap + 1 = i.toNat then 0 else i.toNat * z, none⟩ := by
      split
      · rfl
      · simp only [Addr.add, Nat.zero_add]
        split
        · rename_i h0; rw [h0]
        · rfl
    rw [e1] at hsl
    unfold execOp
    simp only [h, hv, v2, Option.map_none, Option.map_some, Instr.sliceAt, Sem.run_bind, run_underlying k1, Result.andThen_ok, hsl, Sem.run_pure]
  · refine .rs b ver z i.toNat blk es.length (cap + 1) _ _ hg0 (fun hp => ?_)
    rw [if_neg (by omega)]
end
section
variable {P : Program} {T : Nat → AV} {H : Nat → Option ABox} {nx : Nat} {K : Res → Prop} {t e z by_ b ver : Nat} {ag : Bool}
theorem aext_tail {x lo : Operand} {es : List AV} {k : IntKind} {i : Int} (he : elI P t = some (e, z, by_, ag)) (hc : (evO T x).cond = true) (hx : ev T x = .ow b ver) (hb : H b = some (.row e z ver es)) (hlo : ev T lo = .sc (.int k i)) (hcl : (evO T lo).cond = true)
    (h0 : 0 ≤ i ∧ i ≤ es.length ∧ 0 < es.length) (hK : K ⟨.rs b ver z i.toNat, [], 0, [b]⟩) : aext P (.slice t x (some lo) none none) T H nx K :=
  ⟨_, hK, fun C o hP ho => by subst hP; exact opS_tail ho hc hx hb he hlo hcl h0.1 h0.2.1 h0.2.2⟩
theorem aext_litsl {len : Nat} {ps : Array (Nat × Operand)} {zs : List Value} (he : elI P t = some (e, z, by_, ag)) (hz : zI P e = some zs) (hp : zs.length = z ∧ len * z ≤ 16777216 ∧ (∀ p ∈ ps.toList, (evO T p.2).cond = true) ∧ afP ((List.range len).map fun i => (i * z, z)) ((List.replicate len (zs.map avCell)).flatten) (ps.toList.map fun p => (p.1, ev T p.2)) ∧ ones (afV ((List.range len).map fun i => (i * z, z)) ((List.replicate len (zs.map avCell)).flatten) (ps.toList.map fun p => (p.1, ev T p.2))) = true ∧ (∀ p ∈ ps.toList, p.1 < len))
    (hK : K ⟨.sl (chunks z ag len (afV ((List.range len).map fun i => (i * z, z)) ((List.replicate len (zs.map avCell)).flatten) (ps.toList.map fun p => (p.1, ev T p.2)))), [], 1, []⟩) : aext P (.buildSlice t len ps) T H nx K :=
  ⟨_, hK, fun C o hP ho => by subst hP; exact (opS_buildSlice (H := H) (nx := nx) ho he hz hp.1 hp.2.1 hp.2.2.1 hp.2.2.2.1 hp.2.2.2.2.1 hp.2.2.2.2.2).freeze⟩
end
end Go.AL
/-
  The abstract logic: '==' of arrays of two integers. Conditions: none.
-/
namespace Go.AL
open Go Go.RowKit
theorem eqt_arr2 {P : Program} {t e : TypeId} {k : IntKind} (ht : P.underlying t = some (.array 2 e)) (he : P.underlying e = some (.int k)) (hi : (P.info? e).isSome = true) (hs : P.cellsOf e = 1) (hty : tyI P e = some (1, false)) (hg : P.eqGuardType P.depth t = false) :
    EqT P t [some k, some k] := by
  obtain ⟨i, hi⟩ := Option.isSome_iff_exists.1 hi
  refine ⟨hg, fun w xs ys hx hy => ?_⟩
  have hxl := congrArg List.length hx
  have hyl := congrArg List.length hy
  simp only [List.length_map, Array.length_toList, List.length_cons, List.length_nil] at hxl hyl
  obtain ⟨⟨x⟩, rfl⟩ : ∃ a, xs = a := ⟨_, rfl⟩
  obtain ⟨⟨y⟩, rfl⟩ : ∃ a, ys = a := ⟨_, rfl⟩
  match x, y, hxl, hyl, hx, hy with
  | [a, b], [c, d], _, _, hx, hy =>
    simp only [List.map_cons, List.map_nil, List.cons.injEq] at hx hy
    obtain ⟨a, rfl⟩ := kind_int hx.1
    obtain ⟨b, rfl⟩ := kind_int hx.2.1
    obtain ⟨c, rfl⟩ := kind_int hy.1
    obtain ⟨d, rfl⟩ := kind_int hy.2.1
    have p0 : ∀ u v : Value, (part e ⟨[u, v]⟩ 0).run P w = .ok u w := fun u v => run_part hty (fun _ => rfl) w ⟨[u, v]⟩ (off := 0) (by simp)
    have p1 : ∀ u v : Value, (part e ⟨[u, v]⟩ 1).run P w = .ok v w := fun u v => run_part hty (fun _ => rfl) w ⟨[u, v]⟩ (off := 1) (by simp)
    have hq := fun (m n : Int) => run_equalIn_int (P := P) w 9998 e k k m n he
    rw [run_equalIn_array w 9999 _ _ ht hi, hs]
    show (Op.eqItems 9999 e 1 _ _ [0, 1]).run P w = _
    simp only [Op.eqItems, Nat.zero_mul, Nat.one_mul, Sem.run_bind, p0, p1, Result.andThen_ok, Bool.false_eq_true, if_false]
    simp [hq, veqs, veq]
    by_cases h1 : a = c <;> by_cases h2 : b = d <;> simp [h1, h2, hq, p0, p1]
end Go.AL
/-
  The abstract logic: nested blocks walked with what comes behind out of sight. Conditions: none.
-/
namespace Go.AL
open Go.RowKit
section
variable {P : Program} {n : Nat} {T : TT} {H : HH} {nx : Nat} {Q : Exit → TT → HH → Nat → Prop}
theorem seq_gen {a b : Code} (h : ∀ Q' : Exit → TT → HH → Nat → Prop, (∀ T H nx, Q' .normal T H nx = KCode P n b Q T H nx) → (∀ T H nx, Q' .ret T H nx = Q .ret T H nx) → (∀ id T H nx, Q' (.exit id) T H nx = Q (.exit id) T H nx) → acode P n a T H nx Q') :
    acode P n (.seq a b) T H nx Q := h _ (fun _ _ _ => rfl) (fun _ _ _ => rfl) (fun _ _ _ _ => rfl)
theorem blk_gen {id : Nat} {c : Code} (h : ∀ Q' : Exit → TT → HH → Nat → Prop, (∀ T H nx, Q' .normal T H nx = Q .normal T H nx) → (∀ T H nx, Q' .ret T H nx = Q .ret T H nx) → (∀ id' T H nx, Q' (.exit id') T H nx = if id' = id then Q .normal T H nx else Q (.exit id') T H nx) → acode P n c T H nx Q') :
    acode P n (.block id c) T H nx Q := h (QBlk id Q) (fun _ _ _ => rfl) (fun _ _ _ => rfl) (fun id' T H nx => by unfold QBlk inB; simp only []; split <;> rfl)
theorem seq_cut {a b : Code} (h : ∀ KB : TT → HH → Nat → Prop, (∀ T H nx, KB T H nx = acode P n b T H nx Q) → acode P n a T H nx (nextQ KB Q)) : acode P n (.seq a b) T H nx Q := h _ (fun _ _ _ => rfl)
end
end Go.AL
/-
  The abstract logic: a slice literal told as content, under a guard. Conditions: none.
-/
namespace Go.AL
open Go.RowKit
@[go_sem] theorem aresGX_one (c : Bool) (P : Program) (op : Op) (T : Nat → AV) (H : Nat → Option ABox) (nx : Nat) (p : Prop) (v : AV) (rb : List Nat) (K : Res → Prop) : aresGX c P op T H nx (some (p, ⟨v, [], 1, rb⟩)) K = effG c (p ∧ K ⟨v, [], 1, rb⟩) (K ⟨.gd c .und, [], 0, []⟩) := by simp [aresGX]
end Go.AL
