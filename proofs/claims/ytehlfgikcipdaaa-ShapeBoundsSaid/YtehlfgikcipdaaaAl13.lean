/-
  The abstract logic: a function's contract out of its body. Conditions: the program follows the mixed orders.
-/
import Derived.Test.YtehlfgikcipdaaaAl12
set_option linter.all false
namespace Go.AL
open Go.RowKit

/-- one's own slices, told as content. -/
def cvC (H : Nat → Option ABox) : AV → AV
  | .e0 => .sl []
  | .ow b ver => match H b with
    | some .nl => if ver = 0 then .sl [] else .und
    | some (.row _ _ ver' es) => if ver = ver' then .sl es else .und
    | _ => .und
  | v => v
def cvA (H : Nat → Option ABox) : AV → AV
  | .agg cs => .agg (cs.map (cvC H))
  | v => cvC H v
def cvT (H : Nat → Option ABox) : AV → AV
  | .tup cs => .tup (cs.map (cvA H))
  | v => cvA H v

section
variable {C : Cx} {T : Nat → AV} {H : Nat → Option ABox} {D : Nat → Prop} {g : Nat → List Value} {a : Act} {w : World}
theorem rep_cvC {v : AV} {val : Value} (hr : Rel C T H D g a w) (h : Rep w (Own C.O g H) g v val) : Rep w C.O g (cvC H v) val := by
  have hsub : Rep w C.O g v val := h.sub (fun k hk => .inl hk)
  cases v with
  | e0 =>
    obtain ⟨a0, rfl⟩ := h.e0_inv
    exact .sl0 _ _
  | ow b ver =>
    obtain ⟨a0, n, c, rfl, hg⟩ := h.ow_inv
    simp only [cvC]
    split
    · rename_i hb
      split
      · rename_i h0; subst h0
        have hg' : g b = [.slice none 0 0] := hr.bx b .nl hb
        rw [hg'] at hg
        simp only [List.getElem?_cons_zero, Option.some.injEq, Value.slice.injEq] at hg
        obtain ⟨rfl, rfl, rfl⟩ := hg
        exact .sl0 none 0
      · exact .und _
    · rename_i e z ver' es hb
      split
      · rename_i h0; subst h0
        obtain ⟨sv, xs, h1, h2, h3, h4, h5⟩ := hr.bx b _ hb
        rw [hg] at h1
        injection h1 with h1
        subst h1
        obtain ⟨hl, h3'⟩ := h3
        rcases h3' with ⟨hn, a1, hv⟩ | ⟨gg, cap, cur, hv, hh, hcap, _, hsz, htk⟩
        · injection hv with e1 e2 e3
          subst e1; subst e2; subst e3
          have : es = [] := List.eq_nil_of_length_eq_zero hn
          subst this
          exact .sl0 _ 0
        · injection hv with e1 e2 e3
          subst e1; subst e2; subst e3
          have hown := hr.own b _ gg hb (by simp [ownBlk, hg, rowBlk])
          refine .sl1 z es gg 0 (cap + 1) (fun i => xs.getD i undef) hcap h4 hown.1 hown.2.2 (fun i hi => ?_) (fun i hi j hj => (h5 i hi j hj).sub (fun k hk => .inl hk))
          rw [Nat.zero_add, cell_of_row w gg i cur e (0, 0) hh]
          have hlt : i < xs.length := by omega
          have hx : xs[i]? = cur[i]? := by rw [← htk, List.getElem?_take, if_pos hi, Array.getElem?_toList]
          rw [← hx, List.getD_eq_getElem?_getD, List.getElem?_eq_getElem hlt]
          rfl
      · exact .und _
    · exact .und _
  | _ => exact hsub
theorem rep_cvA {v : AV} {val : Value} (hr : Rel C T H D g a w) (h : Rep w (Own C.O g H) g v val) : Rep w C.O g (cvA H v) val := by
  cases v with
  | agg cs =>
    obtain ⟨vs, rfl, h1, h2⟩ := h.agg_inv
    refine .agg _ vs (by simp [h1]) fun j hj => ?_
    have hj' : j < cs.length := by simpa using hj
    have := rep_cvC hr (h2 j hj')
    rw [List.getD_eq_getElem?_getD, List.getElem?_map, List.getElem?_eq_getElem hj']
    rwa [List.getD_eq_getElem?_getD, List.getElem?_eq_getElem hj'] at this
  | _ => exact rep_cvC hr h
theorem rep_cvT {v : AV} {val : Value} (hr : Rel C T H D g a w) (h : Rep w (Own C.O g H) g v val) : Rep w C.O g (cvT H v) val := by
  cases v with
  | tup cs =>
    obtain ⟨vs, rfl, h1, h2⟩ := h.tup_inv
    refine .tup _ vs (by simp [h1]) fun j hj => ?_
    have hj' : j < cs.length := by simpa using hj
    have := rep_cvA hr (h2 j hj')
    rw [List.getD_eq_getElem?_getD, List.getElem?_map, List.getElem?_eq_getElem hj']
    rwa [List.getD_eq_getElem?_getD, List.getElem?_eq_getElem hj'] at this
  | _ => exact rep_cvA hr h
end

/-- what a result holds. -/
def resV (P : Program) (T : Nat → AV) (H : Nat → Option ABox) : ResultVar → Option AV
  | .tmp t => some (T t)
  | .cell t ty => match T t, tyI P ty with
    | .pt b off, some (n, ag) => match H b with
      | some (.var v) => if (ag = false → n = 1) ∧ off + n ≤ v.cells.length then some (v.subv off n ag) else none
      | _ => none
    | _, _ => none
def resL (P : Program) (T : Nat → AV) (H : Nat → Option ABox) : List ResultVar → Option (List AV)
  | [] => some []
  | r :: rs => match resV P T H r, resL P T H rs with
    | some v, some vs => some (v :: vs)
    | _, _ => none
def resA (P : Program) (T : Nat → AV) (H : Nat → Option ABox) (rs : List ResultVar) : Option AV := match resL P T H rs with
  | some [v] => some v
  | some vs => some (.tup vs)
  | none => none

section
variable {C : Cx} {T : Nat → AV} {H : Nat → Option ABox} {D : Nat → Prop} {g : Nat → List Value} {a : Act} {w : World}
def resSem (tmps : Array Value) : ResultVar → Sem Value
  | .tmp t => pure (tmps.getD t undef)
  | .cell a t => do loadVar t (← asAddr (tmps.getD a undef))
theorem rep_resV (hr : Rel C T H D g a w) {r : ResultVar} {v : AV} (h : resV C.P T H r = some v) : ∃ val, (resSem a.tmps r).run C.P w = .ok val w ∧ Rep w (Own C.O g H) g v val := by
  cases r with
  | tmp t =>
    simp only [resV, Option.some.injEq] at h
    subst h
    exact ⟨_, rfl, hr.tm t⟩
  | cell t ty =>
    simp only [resV] at h
    split at h
    · rename_i b off n ag hT hty
      split at h
      · rename_i v0 hb
        split at h
        · rename_i hcond
          obtain ⟨hn, hfit⟩ := hcond
          simp only [Option.some.injEq] at h
          subst h
          have ht := hr.tm t
          rw [hT] at ht
          obtain ⟨blk, hv, hg⟩ := ht.pt_inv
          obtain ⟨blk', vs, ty', h1, h2, h3, h4⟩ := hr.bx b _ hb
          have : blk' = blk := by rw [hg] at h1; simpa using h1.symm
          subst this
          refine ⟨if ag then .agg ((List.range n).map fun j => vs.getD (off + j) undef).toArray else vs.getD (off + 0) undef, ?_, ?_⟩
          · simp only [resSem, hv, asAddr, Sem.run_bind, Sem.run_pure, Result.andThen_ok]
            rw [run_loadVar_cells (f := fun j => vs.getD (off + j) undef) hty hn (fun j hj => by
              rw [cell_of_row w blk' (off + j) vs ty' (0, 0) h2]
              have : off + j < vs.size := by omega
              simp [Array.getD, this])]
          · unfold AV.subv
            cases ag with
            | true =>
              simp only [if_true]
              refine .agg _ _ (by simp; omega) fun j hj => ?_
              have hj' : j < n := by simp at hj; omega
              rw [getD_drop_take _ _ _ _ _ hj' hfit]
              have : ((List.range n).map fun j => vs.getD (off + j) undef).toArray.getD j undef = vs.getD (off + j) undef := by simp [Array.getD, hj']
              rw [this]
              exact h4 _ (by omega)
            | false =>
              have := hn rfl
              simp only [Bool.false_eq_true, if_false]
              exact h4 off (by omega)
        · cases h
      · cases h
    · cases h
theorem rep_resL (hr : Rel C T H D g a w) : ∀ (rs : List ResultVar) (vs : List AV), resL C.P T H rs = some vs → ∃ us : List Value, us.length = vs.length ∧ (rs.mapM (resSem a.tmps)).run C.P w = .ok us w ∧
    ∀ j, j < vs.length → Rep w (Own C.O g H) g (vs.getD j .und) (us.getD j undef)
  | [], vs, h => by
    simp only [resL, Option.some.injEq] at h; subst h
    exact ⟨[], rfl, by simp, fun j hj => by simp at hj⟩
  | r :: rs, vs, h => by
    simp only [resL] at h
    split at h
    · rename_i v vs' hv hvs
      simp only [Option.some.injEq] at h
      subst h
      obtain ⟨val, h1, h2⟩ := rep_resV hr hv
      obtain ⟨us, h3, h4, h5⟩ := rep_resL hr rs vs' hvs
      refine ⟨val :: us, by simp [h3], ?_, fun j hj => ?_⟩
      · rw [List.mapM_cons]
        simp only [Sem.run_bind, h1, Result.andThen_ok, h4, Sem.run_pure]
      · cases j with
        | zero => exact h2
        | succ j => exact h5 j (by simpa using hj)
    · cases h
theorem rep_resA (hr : Rel C T H D g a w) {fn : Func} {v : AV} (h : resA C.P T H fn.results.toList = some v) : ∃ val, (results fn a.tmps).run C.P w = .ok val w ∧ Rep w (Own C.O g H) g v val := by
  have hgen : ∀ vs, resL C.P T H fn.results.toList = some vs → ∃ us : List Value, us.length = vs.length ∧ (results fn a.tmps).run C.P w = .ok (if h : us.toArray.size = 1 then us.toArray[0] else .tuple us.toArray) w ∧
      ∀ j, j < vs.length → Rep w (Own C.O g H) g (vs.getD j .und) (us.getD j undef) := by
    intro vs hvs
    obtain ⟨us, h1, h2, h3⟩ := rep_resL hr _ _ hvs
    refine ⟨us, h1, ?_, h3⟩
    have e : results fn a.tmps = (do let vs ← fn.results.mapM (resSem a.tmps); pure (if h : vs.size = 1 then vs[0] else .tuple vs)) := by
      unfold results
      congr 1
    rw [e]
    have em : (fn.results.mapM (resSem a.tmps)).run C.P w = .ok us.toArray w := by
      rw [Array.mapM_eq_mapM_toList]
      have hb : ∀ {α β : Type} (x : Sem α) (f : α → Sem β), x.bind f = x >>= f := fun _ _ => rfl
      simp only [Functor.map, hb, Sem.run_bind, h2, Result.andThen_ok, Function.comp]
      rfl
    simp only [Sem.run_bind, em, Result.andThen_ok, Sem.run_pure]
  unfold resA at h
  split at h
  · rename_i v' hvs
    simp only [Option.some.injEq] at h; subst h
    obtain ⟨us, h1, h2, h3⟩ := hgen _ hvs
    match us, h1 with
    | [u], _ => exact ⟨u, by simpa using h2, h3 0 (by simp)⟩
  · rename_i vs hne hvs
    simp only [Option.some.injEq] at h; subst h
    obtain ⟨us, h1, h2, h3⟩ := hgen _ hvs
    have hne1 : ¬ us.toArray.size = 1 := by
      intro h
      have : vs.length = 1 := by simp at h; omega
      match vs, this with
      | [v], _ => exact hne v rfl
    rw [dif_neg hne1] at h2
    refine ⟨_, h2, .tup _ _ (by simp [h1]) fun j hj => ?_⟩
    have := h3 j hj
    have e : us.toArray.getD j undef = us.getD j undef := by rw [Array.getD_eq_getD_getElem?, List.getD_eq_getElem?_getD]; simp
    rw [e]; exact this
  · cases h
end

def argT : List AV → Nat → TT
  | [], _ => []
  | v :: r, i => (i, v) :: argT r (i + 1)
theorem lk_argT : ∀ (as : List AV) (i t : Nat), lk (argT as i) t = if i ≤ t then as.getD (t - i) .und else .und
  | [], i, t => by simp [argT, lk]
  | v :: r, i, t => by
    simp only [argT, lk, lk_argT r (i + 1) t]
    by_cases h : t = i
    · subst h; simp
    · by_cases h' : i ≤ t
      · have : t - i = (t - (i + 1)) + 1 := by omega
        simp only [h, if_false, h', if_true, this, List.getD_cons_succ]
        rw [if_pos (by omega)]
      · simp only [h, if_false, h', if_false]; rw [if_neg (by omega)]

/-- the post of a body: it returns r. -/
def retQ (P : Program) (rs : List ResultVar) (r : AV) : Exit → TT → HH → Nat → Prop
  | .normal, T, H, _ | .ret, T, H, _ => ∃ v, resA P (lk T) (hk H) rs = some v ∧ cvT (hk H) v = r
  | _, _, _, _ => False

theorem pcall_of {P : Program} {f : Nat} {fn : Func} {c : Code} {as : List AV} {r : AV} (hm : P.follows .mixedOrders = true) (hf : P.funcs[f]? = some fn) (hb : fn.body = some c) (he : entB P f = true)
    (hn : as.length ≤ fn.ntmps) (hlt : ∀ v ∈ as, Lt 0 v) (hltr : Lt 0 r) (h : acode P fn.ntmps c (argT as 0) [] 0 (retQ P fn.results.toList r)) : PCall P f as r := by
  refine ⟨he, fun w O g vs hO hvs => ?_⟩
  obtain ⟨hsz, hrep⟩ := hvs
  refine calls_of_wp hf hb ?_
  let C : Cx := ⟨P, fn.ntmps, w, fun _ => False, O, 0, fun _ => [], fun _ => False⟩
  have hrel : Rel C (lk (argT as 0)) (hk []) (fun c => c < 0) (fun _ => []) { tmps := vs ++ Array.replicate (fn.ntmps - vs.size) undef, defers := [] } w := by
    refine ⟨rfl, ?_, fun t => ?_, (fun b x hx => by cases hx), fun _ _ => rfl, (fun b x hx => by cases hx), (fun b b' x x' k hx => by cases hx), (fun b x k hx => by cases hx), fun k hk => hO k hk, Kept.refl w _, ⟨fun b hb => absurd hb (Nat.not_lt_zero b), fun b hb => absurd hb (Nat.not_lt_zero b), fun b hb => hb.elim, fun b x hx => by cases hx⟩⟩
    · simp [C]; omega
    · rw [lk_argT, if_pos (Nat.zero_le t), Nat.sub_zero]
      by_cases ht : t < as.length
      · have h1 := hrep t ht
        have e1 : (vs ++ Array.replicate (fn.ntmps - vs.size) undef).getD t undef = vs.getD t undef := by
          rw [Array.getD_eq_getD_getElem?, Array.getElem?_append_left (by omega), Array.getD_eq_getD_getElem?]
        rw [e1]
        refine (h1.reset (fun b hb => by omega) (hlt _ (getD_mem ht))).sub ?_
        rintro k (hk' | ⟨b, x, hx, _⟩)
        · exact hk'
        · cases hx
      · rw [List.getD_eq_getElem?_getD, List.getElem?_eq_none (by omega)]; exact .und _
  refine wp_mono (acode_sound hm c _ _ _ _ h C _ _ w rfl rfl hrel) ?_
  rintro e a' w' ⟨T', H', nx', g', hq, hr'⟩
  have fin : (∃ v, resA P (lk T') (hk H') fn.results.toList = some v ∧ cvT (hk H') v = r) → a'.defers = [] ∧ ∃ v, (results fn a'.tmps).run P w' = .ok v w' ∧
      ∃ v_1, Ending.returned v = .returned v_1 ∧ Rep w' O g r v_1 ∧ Kept w (fun _ => False) w' := by
    rintro ⟨v, hv, rfl⟩
    obtain ⟨val, h1, h2⟩ := rep_resA (C := C) hr' hv
    exact ⟨hr'.df, val, h1, val, rfl, (rep_cvT (C := C) hr' h2).reset (fun b hb => by omega) hltr, hr'.kept⟩
  cases e with
  | normal => exact fin hq
  | ret => exact fin hq
  | _ => exact hq.elim
end Go.AL
