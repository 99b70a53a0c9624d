/-
  The abstract logic: one evaluation of each operation, contracts of calls, guards. Conditions: none.
-/
import Derived.Test.YtehlfgikcipdaaaAl21
import Derived.Orders
set_option linter.all false
namespace Go.AL
open Go.RowKit

def eqK (P : Program) (t : TypeId) : Option (List (Option IntKind)) := (zI P t).bind fun zs => if (zs.map kindOf).all Option.isSome then some (zs.map fun v => (kindOf v).getD none) else none

/-- builtin functions that only look. -/
def abi (P : Program) (b : Builtin) (args : List Operand) (ts : List TypeId) (T : Nat → AV) (H : Nat → Option ABox) (nx : Nat) : Option (Prop × Res) :=
  match b with
  | .len => match args, ts with
    | [x], [t] => match elI P t with
      | some _ => match alen H (ev T x) with
        | some (m, rb) => some ((evO T x).cond = true, ⟨.sc (.int .i64 m), [], 0, rb⟩)
        | none => none
      | none => none
    | _, _ => none
  | .min => match args, ts with
    | [x, y], [_, _] => match ev T x, ev T y with
      | .sc (.int k m), .sc (.int _ n) => some ((evO T x).cond = true ∧ (evO T y).cond = true, ⟨.sc (.int k (if n < m then n else m)), [], 0, []⟩)
      | _, _ => none
    | _, _ => none
  | .max => match args, ts with
    | [x, y], [_, _] => match ev T x, ev T y with
      | .sc (.int k m), .sc (.int _ n) => some ((evO T x).cond = true ∧ (evO T y).cond = true, ⟨.sc (.int k (if m < n then n else m)), [], 0, []⟩)
      | _, _ => none
    | _, _ => none
  | .append => match args, ts with
    | [x, y], [t, t'] => match elI P t, ev T x with
      | some (e, z, by_, _), .ow b ver => match zI P e, asrc H (ev T y), H b with
        | some zs, some (es, rb), some .nl => some (t = t' ∧ ver = 0 ∧ (evO T x).cond = true ∧ (evO T y).cond = true ∧ zs.length = z ∧ (∀ v ∈ es, v.cells.length = z ∧ ∀ c ∈ v.cells, c.one = true) ∧ es.length ≤ 9223372036854775807 ∧ es.length * by_ ≤ 140737488355328,
            ⟨.ow b 1, [(b, .row e z 1 es)], 0, b :: rb⟩)
        | some zs, some (es, rb), some (.row e' z' ver' es0) => some (t = t' ∧ e' = e ∧ z' = z ∧ ver' = ver ∧ (evO T x).cond = true ∧ (evO T y).cond = true ∧ zs.length = z ∧ (∀ v ∈ es, v.cells.length = z ∧ ∀ c ∈ v.cells, c.one = true) ∧
            es0.length + es.length ≤ 9223372036854775807 ∧ (es0.length + es.length) * by_ ≤ 140737488355328, ⟨.ow b (ver + 1), [(b, .row e z (ver + 1) (es0 ++ es))], 0, b :: rb⟩)
        | _, _, _ => none
      | some (e, z, by_, _), .e0 => match zI P e, asrc H (ev T y) with
        | some zs, some (es, rb) => some (t = t' ∧ (evO T x).cond = true ∧ (evO T y).cond = true ∧ zs.length = z ∧ (∀ v ∈ es, v.cells.length = z ∧ ∀ c ∈ v.cells, c.one = true) ∧ es.length ≤ 9223372036854775807 ∧ es.length * by_ ≤ 140737488355328,
            ⟨.ow nx 0, [(nx, .row e z 0 es)], 1, rb⟩)
        | _, _ => none
      | _, _ => none
    | _, _ => none
  | _ => none

theorem abi_sound {C : Cx} {o : Oper} {T : Nat → AV} {H : Nat → Option ABox} {nx : Nat} {p : Prop} {r : Res} {c : Call} {b : Builtin} (hop : o.op = .call c) (hc : c.callee = .builtin b)
    (h : abi C.P b c.args.toList c.argTypes.toList T H nx = some (p, r)) (hp : p) : OpS C o T H nx r := by
  obtain ⟨callee, ⟨args⟩, ⟨ts⟩⟩ := c
  simp only at hc h
  subst hc
  unfold abi at h
  split at h
  · split at h
    · split at h
      · rename_i he
        split at h
        · rename_i m rb hl
          simp only [Option.some.injEq, Prod.mk.injEq] at h; obtain ⟨rfl, rfl⟩ := h
          exact opS_len hop hp hl he
        · cases h
      · cases h
    · cases h
  · split at h
    · split at h
      · rename_i hx hy
        simp only [Option.some.injEq, Prod.mk.injEq] at h; obtain ⟨rfl, rfl⟩ := h
        exact opS_min hop hp.1 hp.2 hx hy
      · cases h
    · cases h
  · split at h
    · split at h
      · rename_i hx hy
        simp only [Option.some.injEq, Prod.mk.injEq] at h; obtain ⟨rfl, rfl⟩ := h
        exact opS_max hop hp.1 hp.2 hx hy
      · cases h
    · cases h
  · split at h
    · split at h
      · rename_i he hx
        split at h
        · rename_i hz hy hb
          simp only [Option.some.injEq, Prod.mk.injEq] at h; obtain ⟨rfl, rfl⟩ := h
          obtain ⟨rfl, h1, h2, h3, h4, h5, h6, h7⟩ := hp
          exact opS_append (es0 := []) hop h2 h3 hx hb (.inl ⟨rfl, h1, rfl, rfl⟩) hy he hz h4 h5 (by simpa [maxLen] using h6) (by simpa using h7)
        · rename_i hz hy hb
          simp only [Option.some.injEq, Prod.mk.injEq] at h; obtain ⟨rfl, rfl⟩ := h
          obtain ⟨rfl, rfl, rfl, rfl, h2, h3, h4, h5, h6, h7⟩ := hp
          exact opS_append hop h2 h3 hx hb (.inr ⟨rfl, rfl⟩) hy he hz h4 h5 (by simpa [maxLen] using h6) h7
        · cases h
      · rename_i he hx
        split at h
        · rename_i hz hy
          simp only [Option.some.injEq, Prod.mk.injEq] at h; obtain ⟨rfl, rfl⟩ := h
          obtain ⟨rfl, h2, h3, h4, h5, h6, h7⟩ := hp
          exact opS_append_e0 hop h2 h3 hx hy he hz h4 h5 (by simpa [maxLen] using h6) h7
        · cases h
      · cases h
    · cases h
  · cases h

/-- what an operation gives: a condition and a result; 'none' where nothing is known. -/
def aop (P : Program) (op : Op) (T : Nat → AV) (H : Nat → Option ABox) (nx : Nat) : Option (Prop × Res) :=
  match op with
  | .move x => some ((evO T x).cond = true, ⟨ev T x, [], 0, []⟩)
  | .assign x => match x with
    | .const (.slice none 0 0) => some (True, ⟨.ow nx 0, [(nx, .nl)], 1, []⟩)
    | x => some ((evO T x).cond = true, ⟨ev T x, [], 0, []⟩)
  | .pick c x y => match apick (evO T c) (evO T x) (evO T y) with
    | some (p, v) => some (p, ⟨v, [], 0, []⟩)
    | none => none
  | .alloc t => match zI P t with
    | some zs => some (True, ⟨.pt (nx + zcn zs) 0, zbx zs nx ++ [(nx + zcn zs, .var (.agg (zav zs nx)))], zcn zs + 1, []⟩)
    | none => none
  | .box _ x => some ((evO T x).cond = true ∧ (ev T x).ok = true, ⟨.pt nx 0, [(nx, .var (ev T x))], 1, []⟩)
  | .load t x => match tyI P t with
    | some (n, ag) => match ev T x with
      | .pt b off => match H b with
        | some (.var v) => some ((evO T x).cond = true ∧ (ag = false → n = 1) ∧ off + n ≤ v.cells.length, ⟨v.subv off n ag, [], 0, [b]⟩)
        | _ => none
      | .cp cs => some ((evO T x).cond = true ∧ (ag = false → n = 1) ∧ n ≤ cs.length, ⟨(AV.agg cs).subv 0 n ag, [], 0, []⟩)
      | .rp b ver z i off => match H b with
        | some (.row _ z' ver' es) => some ((evO T x).cond = true ∧ z' = z ∧ ver' = ver ∧ (ag = false → n = 1) ∧ i < es.length ∧ off + n ≤ z, ⟨(es.getD i .und).subv off n ag, [], 0, [b]⟩)
        | _ => none
      | _ => none
    | none => none
  | .store t x y => match tyI P t with
    | some (n, _) => match ev T x with
      | .pt b off => match H b with
        | some (.var v) => some ((evO T x).cond = true ∧ (evO T y).cond = true ∧ (ev T y).ok = true ∧ (∀ c ∈ (ev T y).cells, c.one = true) ∧ (ev T y).cells.length = n ∧ off + n ≤ v.cells.length,
            ⟨.und, [(b, .var (v.setv off (ev T y)))], 0, [b]⟩)
        | _ => none
      | .rp b ver z i off => match H b with
        | some (.row e z' ver' es) => some ((evO T x).cond = true ∧ (evO T y).cond = true ∧ z' = z ∧ ver' = ver ∧ (ev T y).ok = true ∧ (∀ c ∈ (ev T y).cells, c.one = true) ∧ (ev T y).cells.length = n ∧ i < es.length ∧ off + n ≤ z,
            ⟨.und, [(b, .row e z ver (es.set i ((es.getD i .und).setv off (ev T y))))], 0, [b]⟩)
        | _ => none
      | _ => none
    | none => none
  | .nilCheck x => some ((evO T x).cond = true ∧ (ev T x).ptr = true, ⟨ev T x, [], 0, []⟩)
  | .binOp op t x (.const (.slice none 0 0)) _ => match asrc H (ev T x), elI P t with
    | some (es, rb), some (_, z, _, _) => some ((op = .eql ∨ op = .neq) ∧ (evO T x).cond = true ∧ (∀ v ∈ es, v.cells.length = z), ⟨.nb (decide (0 < es.length)) (if op = .eql then false else true), [], 0, rb⟩)
    | _, _ => none
  | .binOp op t x y _ => match ev T x, ev T y with
    | .agg xs, .agg ys => match eqK P t with
      | some ks => some ((op = .eql ∨ op = .neq) ∧ (evO T x).cond = true ∧ (evO T y).cond = true ∧ EqT P t ks ∧ xs.map akind = ks.map some ∧ ys.map akind = ks.map some,
          ⟨.sc (.bool (if op = .eql then aeqs xs ys else !aeqs xs ys)), [], 0, []⟩)
      | none => none
    | vx, vy => match abin P t op vx vy with
      | some (p, v) => some ((evO T x).cond = true ∧ (evO T y).cond = true ∧ p, ⟨v, [], 0, []⟩)
      | none => none
  | .unOp op _ x => match aun op (ev T x) with
    | some v => some ((evO T x).cond = true, ⟨v, [], 0, []⟩)
    | none => none
  | .convert s t x => match ev T x with
    | .sc (.int _ n) => match ikI P s, ikI P t with
      | some _, some k' => some ((evO T x).cond = true, ⟨.sc (.int k' (k'.wrap n)), [], 0, []⟩)
      | _, _ => none
    | _ => none
  | .makeFunc fn first cap => match fn, first.toList with
    | .func f, [] => some (∀ x ∈ cap, (evO T x).cond = true, ⟨.clo f (cap.toList.map (ev T)), [], 0, []⟩)
    | _, _ => none
  | .fieldAddr s x f => match fldI P s f with
    | some (fo, _, _) => match ev T x with
      | .pt b off => some ((evO T x).cond = true, ⟨.pt b (off + fo), [], 0, []⟩)
      | .cp cs => some ((evO T x).cond = true, ⟨.cp (cs.drop fo), [], 0, []⟩)
      | .rp b ver z i off => some ((evO T x).cond = true, ⟨.rp b ver z i (off + fo), [], 0, []⟩)
      | _ => none
    | none => none
  | .field s x f => match fldI P s f with
    | some (fo, n, ag) => match ev T x with
      | .agg cs => some ((evO T x).cond = true ∧ fo + n ≤ cs.length, ⟨(AV.agg cs).subv fo n ag, [], 0, []⟩)
      | _ => none
    | none => none
  | .indexAddr t x y => match ev T y with
    | .sc (.int _ i) => match ev T x with
      | .sl es => match elI P t with
        | some (_, n, _, _) => some ((evO T x).cond = true ∧ (evO T y).cond = true ∧ 0 ≤ i ∧ i < es.length ∧ (es.getD i.toNat .und).cells.length = n, ⟨.cp (es.getD i.toNat .und).cells, [], 0, []⟩)
        | none => none
      | .ow b ver => match elI P t, H b with
        | some (_, n, _, _), some (.row _ z ver' es) => some ((evO T x).cond = true ∧ (evO T y).cond = true ∧ z = n ∧ ver' = ver ∧ 0 ≤ i ∧ i < es.length, ⟨.rp b ver n i.toNat 0, [], 0, [b]⟩)
        | _, _ => none
      | .pt b off => match arI P t with
        | some (m, n, _) => some ((evO T x).cond = true ∧ (evO T y).cond = true ∧ 0 ≤ i ∧ i < m, ⟨.pt b (off + i.toNat * n), [], 0, []⟩)
        | none => none
      | _ => none
    | _ => none
  | .index t x y => match ev T y with
    | .sc (.int _ i) => match ev T x with
      | .agg cs => match arI P t with
        | some (m, n, ag) => some ((evO T x).cond = true ∧ (evO T y).cond = true ∧ 0 ≤ i ∧ i < m ∧ i.toNat * n + n ≤ cs.length, ⟨(AV.agg cs).subv (i.toNat * n) n ag, [], 0, []⟩)
        | none => none
      | _ => none
    | _ => none
  | .build t ps => match plI P t with
    | some (pl, zs) => some ((∀ p ∈ ps.toList, (evO T p.2).cond = true) ∧ (∀ p ∈ ps.toList, p.1 < pl.length) ∧ afP pl (zav zs nx) (ps.toList.map fun p => (p.1, ev T p.2)),
        ⟨.agg (afV pl (zav zs nx) (ps.toList.map fun p => (p.1, ev T p.2))), zbx zs nx, zcn zs, []⟩)
    | none => none
  | .buildSlice t len ps => match elI P t with
    | some (e, z, _, ag) => match zI P e with
      | some zs => some (zs.length = z ∧ len * z ≤ 16777216 ∧ (∀ p ∈ ps.toList, (evO T p.2).cond = true) ∧ afP ((List.range len).map fun i => (i * z, z)) ((List.replicate len (zs.map avCell)).flatten) (ps.toList.map fun p => (p.1, ev T p.2)) ∧
          ones (afV ((List.range len).map fun i => (i * z, z)) ((List.replicate len (zs.map avCell)).flatten) (ps.toList.map fun p => (p.1, ev T p.2))) = true ∧ (∀ p ∈ ps.toList, p.1 < len),
          if len = 0 then ⟨.ow nx 0, [(nx, .row e z 0 (chunks z ag len (afV ((List.range len).map fun i => (i * z, z)) ((List.replicate len (zs.map avCell)).flatten) (ps.toList.map fun p => (p.1, ev T p.2)))))], 1, []⟩
          else ⟨.sl (chunks z ag len (afV ((List.range len).map fun i => (i * z, z)) ((List.replicate len (zs.map avCell)).flatten) (ps.toList.map fun p => (p.1, ev T p.2)))), [], 1, []⟩)
      | none => none
    | none => none
  | .slice t x lo hi none => match ev T x, elI P t with
    | .sl es, some (_, z, _, _) => match bnd T lo 0, bnd T hi es.length with
      | some l, some m => some ((evO T x).cond = true ∧ bndc T lo ∧ bndc T hi ∧ 0 ≤ l ∧ l ≤ m ∧ m ≤ es.length ∧ (∀ v ∈ es, v.cells.length = z), ⟨.sl ((es.take m.toNat).drop l.toNat), [], 0, []⟩)
      | _, _ => none
    | _, _ => none
  | .slice t x none (some hi) (some mx) => match asrc H (ev T x), elI P t, ev T hi, ev T mx with
    | some (es, rb), some (_, z, _, _), .sc (.int _ l), .sc (.int _ m) => some ((evO T x).cond = true ∧ (evO T hi).cond = true ∧ (evO T mx).cond = true ∧ l = 0 ∧ m = 0 ∧ (∀ v ∈ es, v.cells.length = z), ⟨.e0, [], 0, rb⟩)
    | _, _, _, _ => none
  | .extract x i => match ev T x with
    | .tup vs => some ((evO T x).cond = true ∧ i < vs.length, ⟨vs.getD i .und, [], 0, []⟩)
    | _ => none
  | .call c => match c.callee with
    | .builtin b => abi P b c.args.toList c.argTypes.toList T H nx
    | _ => none
  | _ => none

theorem aop_sound {C : Cx} {o : Oper} {T : Nat → AV} {H : Nat → Option ABox} {nx : Nat} {p : Prop} {r : Res} (h : aop C.P o.op T H nx = some (p, r)) (hp : p) : OpS C o T H nx r := by
  generalize hop : o.op = op at h
  unfold aop at h
  split at h
  · simp only [Option.some.injEq, Prod.mk.injEq] at h; obtain ⟨rfl, rfl⟩ := h
    exact opS_move (.inl hop) hp
  · split at h
    · simp only [Option.some.injEq, Prod.mk.injEq] at h; obtain ⟨rfl, rfl⟩ := h
      exact opS_assign_nil hop
    · simp only [Option.some.injEq, Prod.mk.injEq] at h; obtain ⟨rfl, rfl⟩ := h
      exact opS_move (.inr hop) hp
  · split at h
    · rename_i p' v hq
      simp only [Option.some.injEq, Prod.mk.injEq] at h; obtain ⟨rfl, rfl⟩ := h
      exact opS_pick hop hq hp
    · cases h
  · split at h
    · rename_i zs hz
      simp only [Option.some.injEq, Prod.mk.injEq] at h; obtain ⟨rfl, rfl⟩ := h
      exact opS_alloc hop hz
    · cases h
  · simp only [Option.some.injEq, Prod.mk.injEq] at h; obtain ⟨rfl, rfl⟩ := h
    exact opS_box hop hp.1 hp.2
  · split at h
    · rename_i n ag ht
      split at h
      · rename_i b off hx
        split at h
        · rename_i v hb
          simp only [Option.some.injEq, Prod.mk.injEq] at h; obtain ⟨rfl, rfl⟩ := h
          exact opS_load_pt hop hp.1 hx hb ht hp.2.1 hp.2.2
        · cases h
      · rename_i cs hx
        simp only [Option.some.injEq, Prod.mk.injEq] at h; obtain ⟨rfl, rfl⟩ := h
        exact opS_load_cp hop hp.1 hx ht hp.2.1 hp.2.2
      · rename_i b ver z i off hx
        split at h
        · rename_i hb
          simp only [Option.some.injEq, Prod.mk.injEq] at h; obtain ⟨rfl, rfl⟩ := h
          obtain ⟨h1, rfl, rfl, h2, h3, h4⟩ := hp
          exact opS_load_rp hop h1 hx hb ht h2 h3 h4
        · cases h
      · cases h
    · cases h
  · split at h
    · rename_i n ag ht
      split at h
      · rename_i b off hx
        split at h
        · rename_i v hb
          simp only [Option.some.injEq, Prod.mk.injEq] at h; obtain ⟨rfl, rfl⟩ := h
          obtain ⟨h1, h2, h3, h4, h5, h6⟩ := hp
          exact opS_store hop h1 h2 hx hb ht h3 h4 h5 h6
        · cases h
      · rename_i b ver z i off hx
        split at h
        · rename_i hb
          simp only [Option.some.injEq, Prod.mk.injEq] at h; obtain ⟨rfl, rfl⟩ := h
          obtain ⟨h1, h2, rfl, rfl, h3, h4, h5, h6, h7⟩ := hp
          exact opS_store_rp hop h1 h2 hx hb ht h3 h4 h5 h6 h7
        · cases h
      · cases h
    · cases h
  · simp only [Option.some.injEq, Prod.mk.injEq] at h; obtain ⟨rfl, rfl⟩ := h
    exact opS_nilCheck hop hp.1 hp.2
  · split at h
    · rename_i es rb _ z _ _ hx he
      simp only [Option.some.injEq, Prod.mk.injEq] at h; obtain ⟨rfl, rfl⟩ := h
      exact opS_nilcmp hop hp.1 hp.2.1 hx he hp.2.2
    · cases h
  · split at h
    · rename_i xs ys hx hy
      split at h
      · rename_i ks _
        simp only [Option.some.injEq, Prod.mk.injEq] at h; obtain ⟨rfl, rfl⟩ := h
        obtain ⟨h1, h2, h3, h4, h5, h6⟩ := hp
        exact opS_eqs hop h1 h2 h3 hx hy h4 h5 h6
      · cases h
    · split at h
      · rename_i p' v hb
        simp only [Option.some.injEq, Prod.mk.injEq] at h; obtain ⟨rfl, rfl⟩ := h
        obtain ⟨h1, h2, h3⟩ := hp
        exact opS_bin hop h1 h2 hb h3
      · cases h
  · split at h
    · rename_i v hv
      simp only [Option.some.injEq, Prod.mk.injEq] at h; obtain ⟨rfl, rfl⟩ := h
      exact opS_un hop hp hv
    · cases h
  · split at h
    · rename_i k n hx
      split at h
      · rename_i k1 k' hs ht
        simp only [Option.some.injEq, Prod.mk.injEq] at h; obtain ⟨rfl, rfl⟩ := h
        exact opS_convert hop hp hx (by rw [hs]; simp) ht
      · cases h
    · cases h
  · rename_i fn first cap
    split at h
    · rename_i f hf
      simp only [Option.some.injEq, Prod.mk.injEq] at h; obtain ⟨rfl, rfl⟩ := h
      obtain ⟨first⟩ := first
      simp only at hf
      subst hf
      exact opS_makeFunc hop hp
    · cases h
  · split at h
    · rename_i fo n ag hf
      split at h
      · rename_i b off hx
        simp only [Option.some.injEq, Prod.mk.injEq] at h; obtain ⟨rfl, rfl⟩ := h
        exact opS_fieldAddr_pt hop hp hx hf
      · rename_i cs hx
        simp only [Option.some.injEq, Prod.mk.injEq] at h; obtain ⟨rfl, rfl⟩ := h
        exact opS_fieldAddr_cp hop hp hx hf
      · rename_i b ver z i off hx
        simp only [Option.some.injEq, Prod.mk.injEq] at h; obtain ⟨rfl, rfl⟩ := h
        exact opS_fieldAddr_rp hop hp hx hf
      · cases h
    · cases h
  · split at h
    · rename_i fo n ag hf
      split at h
      · rename_i cs hx
        simp only [Option.some.injEq, Prod.mk.injEq] at h; obtain ⟨rfl, rfl⟩ := h
        exact opS_field hop hp.1 hx hf hp.2
      · cases h
    · cases h
  · split at h
    · rename_i k i hy
      split at h
      · rename_i es hx
        split at h
        · rename_i e n by_ ag he
          simp only [Option.some.injEq, Prod.mk.injEq] at h; obtain ⟨rfl, rfl⟩ := h
          obtain ⟨h1, h2, h3, h4, h5⟩ := hp
          exact opS_indexAddr hop h1 h2 hx hy he h3 h4 h5
        · cases h
      · rename_i b ver hx
        split at h
        · rename_i he hb
          simp only [Option.some.injEq, Prod.mk.injEq] at h; obtain ⟨rfl, rfl⟩ := h
          obtain ⟨h1, h2, rfl, rfl, h3, h4⟩ := hp
          exact opS_indexAddr_ow hop h1 h2 hx hb hy he h3 h4
        · cases h
      · rename_i b off hx
        split at h
        · rename_i m n ag he
          simp only [Option.some.injEq, Prod.mk.injEq] at h; obtain ⟨rfl, rfl⟩ := h
          obtain ⟨h1, h2, h3, h4⟩ := hp
          exact opS_indexAddr_arr hop h1 h2 hx hy he h3 h4
        · cases h
      · cases h
    · cases h
  · split at h
    · rename_i k i hy
      split at h
      · rename_i cs hx
        split at h
        · rename_i m n ag he
          simp only [Option.some.injEq, Prod.mk.injEq] at h; obtain ⟨rfl, rfl⟩ := h
          obtain ⟨h1, h2, h3, h4, h5⟩ := hp
          exact opS_index hop h1 h2 hx hy he h3 h4 h5
        · cases h
      · cases h
    · cases h
  · split at h
    · rename_i pl zs hpl
      simp only [Option.some.injEq, Prod.mk.injEq] at h; obtain ⟨rfl, rfl⟩ := h
      exact opS_build hop hpl hp.1 hp.2.1 hp.2.2
    · cases h
  · split at h
    · rename_i e z _ ag he
      split at h
      · rename_i zs hz
        simp only [Option.some.injEq, Prod.mk.injEq] at h; obtain ⟨rfl, rfl⟩ := h
        obtain ⟨h1, h2, h3, h4, h5, h6⟩ := hp
        have hop' := opS_buildSlice (H := H) (nx := nx) hop he hz h1 h2 h3 h4 h5 h6
        split
        · exact hop'
        · exact hop'.freeze
      · cases h
    · cases h
  · split at h
    · rename_i es _ z _ _ hx he
      split at h
      · rename_i l m hl hm
        simp only [Option.some.injEq, Prod.mk.injEq] at h; obtain ⟨rfl, rfl⟩ := h
        obtain ⟨h1, h2, h3, h4, h5, h6, h7⟩ := hp
        exact opS_slice hop h1 hx he hl hm h2 h3 h4 h5 h6 h7
      · cases h
    · cases h
  · split at h
    · rename_i hx he hh hm
      simp only [Option.some.injEq, Prod.mk.injEq] at h; obtain ⟨rfl, rfl⟩ := h
      obtain ⟨h1, h2, h3, rfl, rfl, h4⟩ := hp
      exact opS_slice0 hop h1 hx he hh hm h2 h3 h4
    · cases h
  · split at h
    · rename_i vs hx
      simp only [Option.some.injEq, Prod.mk.injEq] at h; obtain ⟨rfl, rfl⟩ := h
      exact opS_extract hop hp.1 hx hp.2
    · cases h
  · split at h
    · rename_i b hc
      exact abi_sound hop hc h hp
    · cases h
  · cases h

end Go.AL
