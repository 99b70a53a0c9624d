/-
  The abstract logic: a body walked in parts; a row of one's own told as content; slices.Grow of nil. Conditions: none (slices.Grow: the library's function is the shelf's).
-/
import Derived.Test.YtfhpalfchhinlaaAlC
import Derived.Test.YtfhpalfchhinlaaAl32
import Derived.Shelf.Spec.SlicesGrow
set_option linter.all false
namespace Go.AL
open Go.RowKit Go.Proofs Go.Shelf Go.Lib

section
variable {P : Program} {n : Nat} {T : TT} {H : HH} {nx : Nat} {Q : Exit → TT → HH → Nat → Prop}
/-- behind a, the rest is a task of its own. -/
def KTr (P : Program) (n : Nat) (b : Code) (Q : Exit → TT → HH → Nat → Prop) (T : TT) (H : HH) (nx : Nat) : Prop := Tr P n b T H nx Q
theorem tr_seqt {a b : Code} (h : Tr P n a T H nx (nextQ (KTr P n b Q) Q)) : Tr P n (.seq a b) T H nx Q := fun C g ac w hP hn hr => by
  refine wp_seq (wp_mono (h C g ac w hP hn hr) ?_)
  rintro e a' w' ⟨T', H', nx', g', hq, hr'⟩
  cases e with
  | normal => exact hq C g' a' w' hP hn hr'
  | _ => exact ⟨T', H', nx', g', hq, hr'⟩
theorem tr_seqc (hm : P.follows .mixedOrders = true) {a b : Code} (h : acode P n a T H nx (nextQ (KTr P n b Q) Q)) : Tr P n (.seq a b) T H nx Q := tr_seqt (acode_sound hm _ _ _ _ _ h)
theorem ktr_go {b : Code} (h : Tr P n b T H nx Q) : KTr P n b Q T H nx := h
theorem tr_ac (hm : P.follows .mixedOrders = true) {b : Code} (h : acode P n b T H nx Q) : Tr P n b T H nx Q := acode_sound hm _ _ _ _ _ h

/-- a row of one's own, told as content from here on. -/
def frz (b ver : Nat) (es : List AV) : AV → AV
  | .ow b' ver' => if b' = b ∧ ver' = ver then .sl es else .und
  | v => v
def frzT (b ver : Nat) (es : List AV) : TT → TT
  | [] => []
  | (t, v) :: r => (t, frz b ver es v) :: frzT b ver es r
def dropH (b : Nat) : HH → HH
  | [] => []
  | (c, x) :: r => if c = b then dropH b r else (c, x) :: dropH b r
theorem lk_frzT (b ver : Nat) (es : List AV) : ∀ (T : TT) (t : Nat), lk (frzT b ver es T) t = frz b ver es (lk T t)
  | [], t => rfl
  | (k, v) :: r, t => by
    show (if t = k then frz b ver es v else lk (frzT b ver es r) t) = frz b ver es (if t = k then v else lk r t)
    by_cases h : t = k
    · rw [if_pos h, if_pos h]
    · rw [if_neg h, if_neg h]; exact lk_frzT b ver es r t
theorem hk_dropH (b : Nat) : ∀ (H : HH) (c : Nat), hk (dropH b H) c = if c = b then none else hk H c
  | [], c => by simp [dropH, hk]
  | (k, x) :: r, c => by
    unfold dropH
    have ih := hk_dropH b r c
    by_cases hk' : k = b
    · rw [if_pos hk', ih]
      by_cases h : c = b
      · rw [if_pos h, if_pos h]
      · rw [if_neg h, if_neg h]; show _ = (if c = k then some x else hk r c); rw [if_neg (by omega)]
    · rw [if_neg hk']
      show (if c = k then some x else hk (dropH b r) c) = _
      by_cases h : c = k
      · rw [if_pos h, if_neg (by omega)]; show _ = (if c = k then some x else hk r c); rw [if_pos h]
      · rw [if_neg h, ih]
        by_cases h2 : c = b
        · rw [if_pos h2, if_pos h2]
        · rw [if_neg h2, if_neg h2]; show _ = (if c = k then some x else hk r c); rw [if_neg h]
theorem wk_frz {b ver e z : Nat} {es : List AV} (hb : hk H b = some (.row e z ver es)) : Wk T H nx (frzT b ver es T) (dropH b H) nx := by
  intro C g a w hmn hr
  refine ⟨g, ?_⟩
  have hd : ∀ c x, hk (dropH b H) c = some x → c ≠ b ∧ hk H c = some x := by
    intro c x hx
    rw [hk_dropH] at hx
    by_cases h : c = b
    · rw [if_pos h] at hx; cases hx
    · rw [if_neg h] at hx; exact ⟨h, hx⟩
  have hsub : ∀ k, Own C.O g (hk (dropH b H)) k → Own C.O g (hk H) k := by
    rintro k (h | ⟨c, x, hx, hk'⟩)
    · exact .inl h
    · exact .inr ⟨c, x, (hd c x hx).2, hk'⟩
  refine ⟨hr.df, hr.sz, fun t => ?_, fun c x hx => ?_, hr.fresh, fun c x hx => hr.dom c x (hd c x hx).2, fun c c' x x' k hx hx' => hr.sep c c' x x' k (hd c x hx).2 (hd c' x' hx').2, fun c x k hx => hr.own c x k (hd c x hx).2, hr.oo, hr.kept,
    hr.old.mono (fun c x hx => ⟨x, (hd c x hx).2⟩) (fun _ h => h)⟩
  · have ht := hr.tm t
    rw [lk_frzT]
    generalize lk T t = v at ht
    generalize a.tmps.getD t undef = val at ht
    cases v with
    | ow b' ver' =>
      show Rep _ _ _ (if b' = b ∧ ver' = ver then .sl es else .und) _
      by_cases h : b' = b ∧ ver' = ver
      · obtain ⟨rfl, rfl⟩ := h
        rw [if_pos ⟨rfl, rfl⟩]
        obtain ⟨a0, n0, c0, rfl, hg⟩ := ht.ow_inv
        obtain ⟨sv, xs, h1, h2, h3, h4, h5⟩ := hr.bx b' _ hb
        rw [hg] at h1
        injection h1 with h1
        subst h1
        obtain ⟨hl, h3'⟩ := h3
        rcases h3' with ⟨hn, a1, hv⟩ | ⟨gg, cap, cur, hv, hh, hcap, _, hsz, htk⟩
        · injection hv with e1 e2 e3
          subst e1; subst e2; subst e3
          have : es = [] := List.eq_nil_of_length_eq_zero hn
          subst this
          exact .sl0 _ 0
        · injection hv with e1 e2 e3
          subst e1; subst e2; subst e3
          have hob : ownBlk g b' (.row e z ver' es) = some gg := by simp [ownBlk, hg, rowBlk]
          have hown := hr.own b' _ gg hb hob
          have hno : ¬ Own C.O g (hk (dropH b' H)) gg := by
            rintro (h | ⟨c, x, hx, hk'⟩)
            · exact hown.1 h
            · exact (hd c x hx).1 (hr.sep c b' x _ gg (hd c x hx).2 hb hk' hob)
          refine .sl1 z es gg 0 (cap + 1) (fun i => xs.getD i undef) hcap h4 hno hown.2.2 (fun i hi => ?_) (fun i hi j hj => (h5 i hi j hj).sub hsub)
          rw [Nat.zero_add, cell_of_row w gg i cur e (0, 0) hh]
          have hlt : i < xs.length := by omega
          have hx : xs[i]? = cur[i]? := by rw [← htk, List.getElem?_take, if_pos hi, Array.getElem?_toList]
          rw [← hx, List.getD_eq_getElem?_getD, List.getElem?_eq_getElem hlt]
          rfl
      · rw [if_neg h]; exact .und _
    | _ => exact ht.sub hsub
  · obtain ⟨_, hx'⟩ := hd c x hx
    have hbx := hr.bx c x hx'
    cases x with
    | var v => obtain ⟨blk, vs, ty, p1, p2, p3, p4⟩ := hbx; exact ⟨blk, vs, ty, p1, p2, p3, fun j hj => (p4 j hj).sub hsub⟩
    | nl => exact hbx
    | row e' z' ver' es' => obtain ⟨sv, xs, p1, p2, p3, p4, p5⟩ := hbx; exact ⟨sv, xs, p1, p2, p3, p4, fun i hi j hj => (p5 i hi j hj).sub hsub⟩
    | ob o => exact hbx
/-- a nil slice of one's own, told as content. -/
theorem wk_frz0 {b : Nat} (hb : hk H b = some .nl) : Wk T H nx (frzT b 0 [] T) (dropH b H) nx := by
  intro C g a w hmn hr
  refine ⟨g, ?_⟩
  have hd : ∀ c x, hk (dropH b H) c = some x → c ≠ b ∧ hk H c = some x := by
    intro c x hx
    rw [hk_dropH] at hx
    by_cases h : c = b
    · rw [if_pos h] at hx; cases hx
    · rw [if_neg h] at hx; exact ⟨h, hx⟩
  have hsub : ∀ k, Own C.O g (hk (dropH b H)) k → Own C.O g (hk H) k := by
    rintro k (h | ⟨c, x, hx, hk'⟩)
    · exact .inl h
    · exact .inr ⟨c, x, (hd c x hx).2, hk'⟩
  refine ⟨hr.df, hr.sz, fun t => ?_, fun c x hx => ?_, hr.fresh, fun c x hx => hr.dom c x (hd c x hx).2, fun c c' x x' k hx hx' => hr.sep c c' x x' k (hd c x hx).2 (hd c' x' hx').2, fun c x k hx => hr.own c x k (hd c x hx).2, hr.oo, hr.kept,
    hr.old.mono (fun c x hx => ⟨x, (hd c x hx).2⟩) (fun _ h => h)⟩
  · have ht := hr.tm t
    rw [lk_frzT]
    generalize lk T t = v at ht
    generalize a.tmps.getD t undef = val at ht
    cases v with
    | ow b' ver' =>
      show Rep _ _ _ (if b' = b ∧ ver' = 0 then .sl [] else .und) _
      by_cases h : b' = b ∧ ver' = 0
      · obtain ⟨rfl, rfl⟩ := h
        rw [if_pos ⟨rfl, rfl⟩]
        obtain ⟨a0, n0, c0, rfl, hg⟩ := ht.ow_inv
        have h1 : g b' = [.slice none 0 0] := hr.bx b' _ hb
        rw [h1] at hg
        simp only [List.getElem?_cons_zero, Option.some.injEq, Value.slice.injEq] at hg
        obtain ⟨rfl, rfl, rfl⟩ := hg
        exact .sl0 _ 0
      · rw [if_neg h]; exact .und _
    | _ => exact ht.sub hsub
  · obtain ⟨_, hx'⟩ := hd c x hx
    have hbx := hr.bx c x hx'
    cases x with
    | var v => obtain ⟨blk, vs, ty, p1, p2, p3, p4⟩ := hbx; exact ⟨blk, vs, ty, p1, p2, p3, fun j hj => (p4 j hj).sub hsub⟩
    | nl => exact hbx
    | row e' z' ver' es' => obtain ⟨sv, xs, p1, p2, p3, p4, p5⟩ := hbx; exact ⟨sv, xs, p1, p2, p3, p4, fun i hi j hj => (p5 i hi j hj).sub hsub⟩
    | ob o => exact hbx
end

section
variable {P : Program} {n : Nat} {T T' : TT} {H H' : HH} {nx nx' : Nat} {Q : Exit → TT → HH → Nat → Prop}
theorem tr_frz {c : Code} (b ver e z : Nat) (es : List AV) (hb : hk H b = some (.row e z ver es)) (h : Tr P n c (frzT b ver es T) (dropH b H) nx Q) : Tr P n c T H nx Q := fun C g a w hP hn hr => by
  obtain ⟨g', hr'⟩ := wk_frz (T := T) hb C g a w (by
    rcases Nat.lt_or_ge nx C.m with h | h
    · have := hr.old.gm nx h
      omega
    · exact h) hr
  exact h C g' a w hP hn hr'
theorem tr_frz0 {c : Code} (b : Nat) (hb : hk H b = some .nl) (h : Tr P n c (frzT b 0 [] T) (dropH b H) nx Q) : Tr P n c T H nx Q := fun C g a w hP hn hr => by
  obtain ⟨g', hr'⟩ := wk_frz0 (T := T) hb C g a w (by
    rcases Nat.lt_or_ge nx C.m with h | h
    · have := hr.old.gm nx h
      omega
    · exact h) hr
  exact h C g' a w hP hn hr'

/-- a body, from its task. -/
theorem pcall_of_tr {P : Program} {f : Nat} {fn : Func} {c : Code} {vl : List AV} {r : AV} {n : Nat} {rs : Array ResultVar} (hm : P.follows .mixedOrders = true) (hf : P.funcs[f]? = some fn) (hb : fn.body = some c) (he : entB P f = true) (hnt : fn.ntmps = n) (hrs : fn.results = rs)
    (hn : vl.length.ble n = true) (hlt : ∀ v ∈ vl, Lt 0 v) (hltr : Lt 0 r) (h : Tr P n c (argT vl 0) [] 0 (retQ P rs.toList r)) : PCall P f vl r := by
  subst hnt; subst hrs
  have hn := Nat.le_of_ble_eq_true hn
  refine ⟨he, fun w O g vs hO hvs => ?_⟩
  obtain ⟨hsz, hrep⟩ := hvs
  refine calls_of_wp hf hb ?_
  let C : Cx := ⟨P, fn.ntmps, w, fun _ => False, O, 0, fun _ => [], fun _ => False, []⟩
  have hrel : Rel C (lk (argT vl 0)) (hk []) (fun c => c < 0) (fun _ => []) { tmps := vs ++ Array.replicate (fn.ntmps - vs.size) undef, defers := [] } w := by
    refine ⟨rfl, ?_, fun t => ?_, (fun b x hx => by cases hx), fun _ _ => rfl, (fun b x hx => by cases hx), (fun b b' x x' k hx => by cases hx), (fun b x k hx => by cases hx), fun k hk => hO k hk, Kept.refl w _, ⟨fun b hb => absurd hb (Nat.not_lt_zero b), fun b hb => absurd hb (Nat.not_lt_zero b), fun b hb => hb.elim, fun b x hx => by cases hx⟩⟩
    · simp [C]; omega
    · rw [lk_argT, if_pos (Nat.zero_le t), Nat.sub_zero]
      by_cases ht : t < vl.length
      · have h1 := hrep t ht
        have e1 : (vs ++ Array.replicate (fn.ntmps - vs.size) undef).getD t undef = vs.getD t undef := by
          rw [Array.getD_eq_getD_getElem?, Array.getElem?_append_left (by omega), Array.getD_eq_getD_getElem?]
        rw [e1]
        refine (h1.reset (fun b hb => by omega) (hlt _ (getD_mem ht))).sub ?_
        rintro k (hk' | ⟨b, x, hx, _⟩)
        · exact hk'
        · cases hx
      · rw [List.getD_eq_getElem?_getD, List.getElem?_eq_none (by omega)]; exact .und _
  refine wp_mono (h C _ _ w rfl rfl hrel) ?_
  rintro e a' w' ⟨T', H', nx', g', hq, hr'⟩
  have fin : (∃ v, resA P (lk T') (hk H') fn.results.toList = some v ∧ cvT (hk H') v = r) → a'.defers = [] ∧ ∃ v, (results fn a'.tmps).run P w' = .ok v w' ∧
      ∃ v_1, Ending.returned v = .returned v_1 ∧ Rep w' O g r v_1 ∧ Kept w (fun _ => False) w' := by
    rintro ⟨v, hv, rfl⟩
    obtain ⟨val, h1, h2⟩ := rep_resA (C := C) hr' hv
    exact ⟨hr'.df, val, h1, val, rfl, (rep_cvT (C := C) hr' h2).reset (fun b hb => by omega) hltr, hr'.kept⟩
  cases e with
  | normal => exact fin hq
  | ret => exact fin hq
  | _ => exact hq.elim
end

section
variable {C : Cx} {P : Program} {ρ : Ren}
/-- the first operation of a region is told; the others are walked. -/
theorem tr_first {id n : Nat} {o : Oper} {os : List Oper} {T : TT} {H : HH} {nx : Nat} {Q : Exit → TT → HH → Nat → Prop} (r : Res) (h1 : ∀ C : Cx, C.P = P → OpS C o (lk T) (hk H) nx r) (hg : o.guard = none)
    (h : arun P n (List.map (·.dst) (o :: os)) os (setT n T o.dst r.v) (hputs H r.wb) (nx + r.nw) [r.fp] (KReg false (o :: os) Q)) : Tr P n (.region id (List.toArray (o :: os)) false) T H nx Q := fun C g a w hP hn hr => by
  subst hP; subst hn
  obtain ⟨rs, hl, hc, hK⟩ := arun_chain _ _ _ _ _ h
  refine wp_region ?_
  have hops : (List.toArray (o :: os)).toList = o :: os := rfl
  have hch : Chain C ((List.toArray (o :: os)).toList.map (·.dst)) (o :: os) (r :: rs) T H nx := by
    refine ⟨fun T' H' D g a w hr hT _ hH hn ops _ K' Q hK => ?_, hc⟩
    rw [if_pos (by simp [Region.wanted, hg])]
    exact h1 C rfl T' H' D g a w hr hT hH hn K' Q hK
  have := chain_seq (Q := fun e a' w' => ∃ T' H' nx' g', Q e T' H' nx' ∧ Rel C (lk T') (hk H') (fun c => c < nx') g' a' w') (o :: os) (r :: rs) T H nx 0 g a w hch (by simp) hr (fun g' a' w' hr' => ⟨_, _, _, g', hK.2, hr'⟩)
  have hsz : (List.toArray (o :: os)).size = (o :: os).length := by simp
  rw [← List.range_eq_range', ← hsz] at this
  exact this

/-- the first operation is walked, the second is told, the others are walked. -/
def KSec (P : Program) (n : Nat) (ds : List (Option Nat)) (d d2 : Option Nat) (o2 : Oper) (os : List Oper) (r : Res) (T : TT) (H : HH) (nx : Nat) (K : TT → HH → Nat → List FP → Prop) (r1 : Res) : Prop :=
  (∀ C : Cx, C.P = P → OpS C o2 (lk (setT n T d r1.v)) (hk (hputs H r1.wb)) (nx + r1.nw) r) ∧ arun P n ds os (setT n (setT n T d r1.v) d2 r.v) (hputs (hputs H r1.wb) r.wb) (nx + r1.nw + r.nw) [r1.fp, r.fp] K
theorem ksec_mk {P : Program} {n : Nat} {ds : List (Option Nat)} {d d2 : Option Nat} {o2 : Oper} {os : List Oper} {r : Res} {T : TT} {H : HH} {nx : Nat} {K : TT → HH → Nat → List FP → Prop} {v : AV}
    (h1 : ∀ C : Cx, C.P = P → OpS C o2 (lk (setT n T d v)) (hk H) nx r) (h2 : arun P n ds os (setT n (setT n T d v) d2 r.v) (hputs H r.wb) (nx + r.nw) [([], []), r.fp] K) : KSec P n ds d d2 o2 os r T H nx K ⟨v, [], 0, []⟩ := ⟨h1, h2⟩
theorem tr_second {id n : Nat} {o o2 : Oper} {os : List Oper} {T : TT} {H : HH} {nx : Nat} {Q : Exit → TT → HH → Nat → Prop} (r : Res) (hg : o2.guard = none)
    (h : agd P (List.map (·.dst) (o :: o2 :: os)) o (lk T) (hk H) nx (KSec P n (List.map (·.dst) (o :: o2 :: os)) o.dst o2.dst o2 os r T H nx (KReg false (o :: o2 :: os) Q))) : Tr P n (.region id (List.toArray (o :: o2 :: os)) false) T H nx Q := fun C g a w hP hn hr => by
  subst hP; subst hn
  obtain ⟨r1, ⟨hk2, hk3⟩, hs1⟩ := agd_sound h
  obtain ⟨rs, hl, hc, hK⟩ := arun_chain _ _ _ _ _ hk3
  refine wp_region ?_
  have hops : (List.toArray (o :: o2 :: os)).toList = o :: o2 :: os := rfl
  have hch : Chain C ((List.toArray (o :: o2 :: os)).toList.map (·.dst)) (o :: o2 :: os) (r1 :: r :: rs) T H nx := by
    refine ⟨hs1, fun T' H' D g a w hr hT _ hH hn ops _ K' Q hK => ?_, hc⟩
    rw [if_pos (by simp [Region.wanted, hg])]
    exact hk2 C rfl T' H' D g a w hr hT hH hn K' Q hK
  have := chain_seq (Q := fun e a' w' => ∃ T' H' nx' g', Q e T' H' nx' ∧ Rel C (lk T') (hk H') (fun c => c < nx') g' a' w') (o :: o2 :: os) (r1 :: r :: rs) T H nx 0 g a w hch (by simp) hr (fun g' a' w' hr' => ⟨_, _, _, g', hK.2, hr'⟩)
  have hsz : (List.toArray (o :: o2 :: os)).size = (o :: o2 :: os).length := by simp
  rw [← List.range_eq_range', ← hsz] at this
  exact this

/-- slices.Grow of nil: a row of one's own, without elements. -/
theorem opS_grow (L : Lays8.n4 P ρ) (hP : C.P = P) {f t e z by_ : Nat} {ag : Bool} {zs : List Value} {m : Nat} {x : Operand} {ats : Array Nat} {o : Oper} {T : Nat → AV} {H : Nat → Option ABox} {nx : Nat} (hf : ρ.f 4 = f) (ht : ρ.t 22 = t) (hel : ρ.t 25 = e) (hent : entB P f = true)
    (h : o.op = .call { callee := .value (.func f), args := #[.const (.slice none 0 0), x], argTypes := ats }) (hc : (evO T x).cond = true) (hx : ev T x = .i m) (he : elI P t = some (e, z, by_, ag)) (hz : zI P e = some zs) (hzl : zs.length = z) (hm : m ≤ 1000000) (hby : by_ ≤ 1000) :
    OpS C o T H nx ⟨.ow nx 0, [(nx, .row e z 0 [])], 1, []⟩ := by
  subst hP
  intro T' H' D g a w hr hT hH hn K Q hK
  have hn0 : ¬ D nx := hn 0 (Nat.lt_succ_self 0)
  have r2 := one_rep hr (hT x (by simp [h, Op.operands, Call.operands])) hc
  rw [hx] at r2
  have v2 := r2.sc_inv
  obtain ⟨inf, k1, k2, k3, k4, k5, k6, k7⟩ := elI_some he
  obtain ⟨inf', z0, j1, j2, j3⟩ := zI_some hz
  rw [k2] at j1; injection j1 with j1; subst j1
  have hzp : 0 < z := by omega
  have hzs : z0.cells.size = z := by rw [← hzl, ← j3]; simp
  obtain ⟨cvs, hfv, hcl, hcr⟩ := (hr.evO (.func f)).clo_inv
  have hcv : cvs = #[] := Array.eq_empty_of_size_eq_zero (by simpa using hcl)
  subst hcv
  have hfin : ∀ (sv : Value) (w' : World) (c : Nat), sv = .slice none 0 0 ∧ c = 0 ∧ w' = w ∨ (sv = .slice (some ⟨w.heap.size, 0, none⟩) 0 c ∧ ∃ cur : Array Value, w' = w.drew.alloc (.cells cur e) ∧ cur.size = c * z ∧ 0 < c ∧ c ≤ maxLen) → K (a.put o.dst sv) w' := by
    intro sv w' c hsv
    have hcase : ∃ a2 c2, sv = .slice a2 0 c2 := by rcases hsv with ⟨rfl, _⟩ | ⟨rfl, _⟩ <;> exact ⟨_, _, rfl⟩
    obtain ⟨a2, c2, rfl⟩ := hcase
    have hkept : Kept w (fun _ => False) w' := by
      rcases hsv with ⟨_, _, rfl⟩ | ⟨_, cur, rfl, _⟩
      · exact Kept.refl _ _
      · exact ⟨rfl, rfl, rfl, by rw [show (w.drew.alloc (.cells cur e)).heap = w.heap.push (.cells cur e) from rfl, Array.size_push]; omega, fun k hk _ => Below.heap_alloc w.drew _ k hk, Nat.le_succ _⟩
    have hrel := hr.newown (x0 := .row e z 0 []) (gl := [.slice a2 0 c2]) (w' := w') hn0 hkept (fun k hk => by
      have hk' : rowBlk (.slice a2 0 c2) = some k := by simpa [ownBlk, updF] using hk
      rcases hsv with ⟨e1, _⟩ | ⟨e1, cur, rfl, _⟩
      · injection e1 with e1 e2 e3; subst e1; subst e3; cases hk'
      · injection e1 with e1 e2 e3; subst e1; subst e3
        cases c2 with
        | zero => cases hk'
        | succ c2 =>
          simp only [rowBlk, Option.some.injEq] at hk'
          subst hk'
          exact ⟨Nat.le_refl _, by rw [show (w.drew.alloc (.cells cur e)).heap = w.heap.push (.cells cur e) from rfl, Array.size_push]; omega⟩) (fun hl hxt => ⟨.slice a2 0 c2, [], by simp [updF], by simp [updF], by
        refine ⟨by simp, ?_⟩
        rcases hsv with ⟨e1, _⟩ | ⟨e1, cur, rfl, h2, h3, h4⟩
        · injection e1 with e1 e2 e3; subst e1; subst e3; exact .inl ⟨rfl, _, rfl⟩
        · injection e1 with e1 e2 e3; subst e1; subst e3
          obtain ⟨c, rfl⟩ : ∃ q, c2 = q + 1 := ⟨c2 - 1, by omega⟩
          exact .inr ⟨w.heap.size, c, cur, rfl, heap_alloc_new w.drew _, Nat.zero_le _, h4, h2, by simp⟩, fun v hv => by simp at hv, fun i hi j hj => by simp at hi⟩)
    refine hK _ w' _ (hrel.dmono fun b hb => ?_) (.ow nx 0 a2 _ c2 (by simp [updF]))
    rcases hb with hb | rfl
    · exact .inl hb
    · exact .inr ⟨Nat.le_refl _, Nat.lt_succ_self _⟩
  unfold Oper.wp execOp
  simp only [h, resolve, Sem.run_bind, Sem.run_pure, Result.andThen_ok, hfv, Deferred.ofValue, invoke, Array.empty_append, Array.append_empty, run_callFunc hent, List.map_toArray, List.map_cons, List.map_nil, v2]
  have hev : a.eval (.const (.slice none 0 0)) = .slice none 0 0 := rfl
  rw [hev]
  rcases Nat.eq_zero_or_pos m with h0 | h0
  · subst h0
    have hcl := Any8.slices_Grow_room L none 0 0 0 w (Nat.le_refl _) (by omega) (by omega) (by omega)
    rw [hf] at hcl
    refine Calls.mono hcl ?_
    rintro e' w' ⟨rfl, rfl⟩
    exact hfin _ _ 0 (.inl ⟨rfl, rfl, rfl⟩)
  · have hcl := Any8.slices_Grow_grow L inf z0 (by rw [hel]; exact k2) j2 (by omega) none 0 0 m [] w (Nat.le_refl _) (by omega) (by
        have : m * inf.bytes ≤ 1000000 * 1000 := Nat.mul_le_mul hm (by omega)
        simpa using (by omega : m * inf.bytes ≤ 140737488355328)) (by omega) (by simp) (fun _ => rfl) (fun a h => by cases h)
    rw [hf, hel] at hcl
    refine Calls.mono hcl ?_
    rintro e' w' ⟨rfl, rfl⟩
    have hg1 := grownCap_ge w (0 + m) 0 e
    have hg2 := grownCap_le_maxLen w (0 + m) 0 e (by unfold maxLen; omega)
    refine hfin _ _ _ (.inr ⟨rfl, _, rfl, ?_, by omega, hg2⟩)
    have hzc : ∀ q, (Builtin.zeroCells z0.cells q).size = q * z := fun q => by simp [Builtin.zeroCells, hzs]
    simp only [Array.size_append, hzc, List.size_toArray, List.length_nil]
    rw [Nat.zero_add, Nat.sub_zero, Nat.zero_add] at *
    rw [← Nat.add_mul]; congr 1; omega
end
end Go.AL
