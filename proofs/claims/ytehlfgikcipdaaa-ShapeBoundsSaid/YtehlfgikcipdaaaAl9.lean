/-
  The abstract logic: contracts of calls, guards, and a region in the order of its text. Conditions: none.
-/
import Derived.Test.YtehlfgikcipdaaaAl8
set_option linter.all false
namespace Go.AL
open Go.RowKit

def Reps (w : World) (O : Nat → Prop) (g : Nat → List Value) (as : List AV) (vs : Array Value) : Prop :=
  vs.size = as.length ∧ ∀ j, j < as.length → Rep w O g (as.getD j .und) (vs.getD j undef)

/-- function f is one that is entered. -/
def entB (P : Program) (f : Nat) : Bool := match P.funcs[f]? with
  | some fn => !(fn.name == "runtime.NumGoroutine") && fn.body.isSome
  | none => false
theorem run_callFunc {P : Program} {f : Nat} (h : entB P f = true) (args : Array Value) (w : World) : (callFunc f args).run P w = .ok (.enter f args) w := by
  unfold entB at h
  split at h
  · rename_i fn hf
    simp only [Bool.and_eq_true, Bool.not_eq_true'] at h
    have hb : fn.body.isNone = false := by cases hfb : fn.body <;> simp_all
    unfold callFunc
    simp only [program, Sem.run_bind, Sem.run, Result.andThen_ok, hf, h.1, hb, Bool.false_eq_true, if_false, Sem.run_pure]
  · cases h

/-- THE CONTRACT of a function that is handed values and hands a value back: nothing that was there has turned. -/
def PCall (P : Program) (f : Nat) (as : List AV) (r : AV) : Prop := entB P f = true ∧
  ∀ (w : World) (O : Nat → Prop) (g : Nat → List Value) (vs : Array Value), (∀ k, O k → k < w.heap.size) → Reps w O g as vs →
    Calls P f vs w fun e w' => ∃ v, e = .returned v ∧ Rep w' O g r v ∧ Kept w (fun _ => False) w'

/-- what a call does within a frame. -/
def CallS (P : Program) (H : Nat → Option ABox) (nx : Nat) (f : Nat) (as : List AV) (r : Res) : Prop := entB P f = true ∧
  ∀ (C : Cx) T' H' D g a w, C.P = P → Rel C T' H' D g a w → (∀ b ∈ r.rb, H' b = H b) → (∀ i, i < r.nw → ¬ D (nx + i)) → ∀ vs, Reps w (Own C.O g H') g as vs →
    Calls P f vs w fun e w' => ∃ v g', e = .returned v ∧ Rel C T' (updL H' r.wb) (fun c => D c ∨ (nx ≤ c ∧ c < nx + r.nw)) g' a w' ∧ Rep w' (Own C.O g' (updL H' r.wb)) g' r.v v

theorem CallS.of_pure {P : Program} {H : Nat → Option ABox} {nx f : Nat} {as : List AV} {r : AV} (h : PCall P f as r) : CallS P H nx f as ⟨r, [], 0, []⟩ := by
  refine ⟨h.1, fun C T' H' D g a w hP hr _ _ vs hvs => ?_⟩
  have hlt : ∀ k, Own C.O g H' k → k < w.heap.size := by
    rintro k (hk | ⟨c, x, hx, hk⟩)
    · exact Nat.lt_of_lt_of_le (hr.oo k hk) hr.kept.size
    · exact (hr.own c x k hx hk).2.2
  refine (h.2 w _ g vs hlt hvs).mono ?_
  rintro e w' ⟨v, rfl, hv, hk⟩
  exact ⟨v, g, rfl, (hr.grow hk).dmono fun b hb => .inl hb, hv⟩

/-- a call of the function value f. -/
def cst (P : Program) (H : Nat → Option ABox) (nx : Nat) (f : AV) (as : List AV) (K : Res → Prop) : Prop :=
  match f with
  | .clo fid cap => ∃ r, CallS P H nx fid (as ++ cap) r ∧ K r
  | _ => False
theorem cst_pure {P : Program} {H : Nat → Option ABox} {nx fid : Nat} {as : List AV} {r : AV} {K : Res → Prop} (h : PCall P fid as r) (hk : K ⟨r, [], 0, []⟩) : cst P H nx (.clo fid []) as K :=
  ⟨_, .of_pure (by rw [List.append_nil]; exact h), hk⟩
theorem cst_pure_cap {P : Program} {H : Nat → Option ABox} {nx fid : Nat} {as cap : List AV} {r : AV} {K : Res → Prop} (h : PCall P fid (as ++ cap) r) (hk : K ⟨r, [], 0, []⟩) : cst P H nx (.clo fid cap) as K :=
  ⟨_, .of_pure h, hk⟩
theorem cst_congr {P : Program} {H : Nat → Option ABox} {nx : Nat} {f f' : AV} {as as' : List AV} {K : Res → Prop} (h : f = f') (h' : as = as') : cst P H nx f as K = cst P H nx f' as' K := by subst h; subst h'; rfl

/-- a result under its condition. -/
def ares (x : Option (Prop × Res)) (K : Res → Prop) : Prop := match x with
  | some (p, r) => p ∧ K r
  | none => False
theorem ares_some (p : Prop) (v : AV) (wb : List (Nat × ABox)) (nw : Nat) (rb : List Nat) (K : Res → Prop) : ares (some (p, ⟨v, wb, nw, rb⟩)) K = (p ∧ K ⟨v, wb, nw, rb⟩) := rfl
theorem ares_none (K : Res → Prop) : ares none K = False := rfl
/-- an operation that the rules do not know: told by hand. -/
def aext (P : Program) (op : Op) (T : Nat → AV) (H : Nat → Option ABox) (nx : Nat) (K : Res → Prop) : Prop := ∃ r, K r ∧ ∀ (C : Cx) (o : Oper), C.P = P → o.op = op → OpS C o T H nx r
def aresX (P : Program) (op : Op) (T : Nat → AV) (H : Nat → Option ABox) (nx : Nat) (x : Option (Prop × Res)) (K : Res → Prop) : Prop := match x with
  | some (p, r) => p ∧ K r
  | none => aext P op T H nx K
theorem aresX_some (P : Program) (op : Op) (T : Nat → AV) (H : Nat → Option ABox) (nx : Nat) (p : Prop) (v : AV) (wb : List (Nat × ABox)) (nw : Nat) (rb : List Nat) (K : Res → Prop) : aresX P op T H nx (some (p, ⟨v, wb, nw, rb⟩)) K = (p ∧ K ⟨v, wb, nw, rb⟩) := rfl
theorem aresX_none (P : Program) (op : Op) (T : Nat → AV) (H : Nat → Option ABox) (nx : Nat) (K : Res → Prop) : aresX P op T H nx none K = aext P op T H nx K := rfl
theorem ares_congr {x x' : Option (Prop × Res)} {K : Res → Prop} (h : x = x') : ares x K = ares x' K := by subst h; rfl

def ast (P : Program) (op : Op) (T : Nat → AV) (H : Nat → Option ABox) (nx : Nat) (K : Res → Prop) : Prop :=
  match op with
  | .call c => match c.callee with
    | .value f => (∀ x ∈ c.args.toList, (evO T x).cond = true) ∧ (evO T f).cond = true ∧ cst P H nx (ev T f) (c.args.toList.map (ev T)) K
    | .builtin b => aresX P (.call c) T H nx (abi P b c.args.toList c.argTypes.toList T H nx) K
    | _ => False
  | op => aresX P op T H nx (aop P op T H nx) K
theorem ares_spec {x : Option (Prop × Res)} {K : Res → Prop} (h : ares x K) : ∃ p r, x = some (p, r) ∧ p ∧ K r := by
  unfold ares at h
  split at h
  · exact ⟨_, _, rfl, h⟩
  · exact h.elim

theorem aresX_spec {P : Program} {op : Op} {T : Nat → AV} {H : Nat → Option ABox} {nx : Nat} {x : Option (Prop × Res)} {K : Res → Prop} (h : aresX P op T H nx x K) :
    (∃ p r, x = some (p, r) ∧ p ∧ K r) ∨ aext P op T H nx K := by
  unfold aresX at h
  split at h
  · exact .inl ⟨_, _, rfl, h⟩
  · exact .inr h

theorem ast_sound {C : Cx} {o : Oper} {T : Nat → AV} {H : Nat → Option ABox} {nx : Nat} {K : Res → Prop} (h : ast C.P o.op T H nx K) : ∃ r, K r ∧ OpS C o T H nx r := by
  have hgen : aresX C.P o.op T H nx (aop C.P o.op T H nx) K → ∃ r, K r ∧ OpS C o T H nx r := by
    intro h
    rcases aresX_spec h with ⟨p, r, h1, h2, h3⟩ | ⟨r, h1, h2⟩
    · exact ⟨r, h3, aop_sound h1 h2⟩
    · exact ⟨r, h1, h2 C o rfl rfl⟩
  generalize hop : o.op = op at h hgen
  unfold ast at h
  split at h
  · rename_i c
    split at h
    · rename_i f hf
      obtain ⟨h1, h2, h3⟩ := h
      unfold cst at h3
      split at h3
      · rename_i fid cap hev
        obtain ⟨r, hcs, hk⟩ := h3
        refine ⟨r, hk, fun T' H' D g a w hr hT hH hn K' Q hK => ?_⟩
        have hops : o.op.operands = #[f] ++ c.args := by rw [hop]; simp [Op.operands, Call.operands, hf]
        have rf := one_rep hr (hT f (by rw [hops]; simp)) h2
        rw [hev] at rf
        obtain ⟨cvs, hfv, hcl, hcr⟩ := rf.clo_inv
        have hargs : Reps w (Own C.O g H') g (c.args.toList.map (ev T) ++ cap) (c.args.map a.eval ++ cvs) := by
          refine ⟨by simp [hcl], fun j hj => ?_⟩
          by_cases hlt : j < c.args.size
          · have e1 : (c.args.toList.map (ev T) ++ cap).getD j .und = ev T c.args[j] := by
              rw [List.getD_eq_getElem?_getD, List.getElem?_append_left (by simpa using hlt), List.getElem?_map]; simp [hlt]
            have e2 : (c.args.map a.eval ++ cvs).getD j undef = a.eval c.args[j] := by
              rw [Array.getD_eq_getD_getElem?, Array.getElem?_append_left (by simpa using hlt)]; simp [hlt]
            rw [e1, e2]
            exact one_rep hr (hT _ (by rw [hops]; simp)) (h1 _ (by simp))
          · have e1 : (c.args.toList.map (ev T) ++ cap).getD j .und = cap.getD (j - c.args.size) .und := by
              rw [List.getD_eq_getElem?_getD, List.getElem?_append_right (by simpa using hlt), List.getD_eq_getElem?_getD]; simp
            have e2 : (c.args.map a.eval ++ cvs).getD j undef = cvs.getD (j - c.args.size) undef := by
              rw [Array.getD_eq_getD_getElem?, Array.getElem?_append_right (by simpa using hlt), Array.getD_eq_getD_getElem?]; simp
            rw [e1, e2]
            exact hcr _ (by simp at hj; omega)
        have hcalls := hcs.2 C T' H' D g a w rfl hr hH hn _ hargs
        unfold Oper.wp execOp
        simp only [hop, resolve, hf, Sem.run_bind, Sem.run_pure, Result.andThen_ok, hfv, Deferred.ofValue, invoke, Array.empty_append, run_callFunc hcs.1]
        refine hcalls.mono ?_
        rintro e w' ⟨v, g', rfl, hrel, hrep⟩
        exact hK v w' g' hrel hrep
      · exact h3.elim
    · rename_i b hb
      rcases aresX_spec h with ⟨p, r, h1, h2, h3⟩ | ⟨r, h1, h2⟩
      · exact ⟨r, h3, abi_sound hop hb h1 h2⟩
      · exact ⟨r, h1, h2 C o rfl hop⟩
    · exact h.elim
  · exact hgen h

/-- does a guarded operation run? -/
def gval (ds : List (Option Nat)) (T : Nat → AV) (j : Nat) (want : Bool) : Option Bool :=
  match ds[j]? with
  | some (some d) => match T d with
    | .sc (.bool x) => some (x == want)
    | .gd y (.sc (.bool x)) => some (y && (x == want))
    | _ => none
  | _ => none

def KEq (v : AV) (rb : List Nat) (r : Res) : Prop := r = ⟨v, [], 0, rb⟩
/-- a result under its condition, the operation guarded by c. -/
def aresG (c : Bool) (x : Option (Prop × Res)) (K : Res → Prop) : Prop := match x with
  | some (p, r) => if r.wb.isEmpty = true ∧ r.nw = 0 then (c = true → p) ∧ K ⟨.gd c r.v, [], 0, r.rb⟩ else c = true ∧ p ∧ K r
  | none => c = false ∧ K ⟨.gd c .und, [], 0, []⟩
/-- as aresG, an operation that the rules do not know told by hand. -/
def aresGX (c : Bool) (P : Program) (op : Op) (T : Nat → AV) (H : Nat → Option ABox) (nx : Nat) (x : Option (Prop × Res)) (K : Res → Prop) : Prop := match x with
  | some (p, r) => if r.wb.isEmpty = true ∧ r.nw = 0 then (c = true → p) ∧ K ⟨.gd c r.v, [], 0, r.rb⟩ else c = true ∧ p ∧ K r
  | none => (c = false ∧ K ⟨.gd c .und, [], 0, []⟩) ∨ (∃ v rb, (c = true → aext P op T H nx (KEq v rb)) ∧ K ⟨.gd c v, [], 0, rb⟩) ∨ (c = true ∧ aext P op T H nx K)
theorem aresGX_some (c : Bool) (P : Program) (op : Op) (T : Nat → AV) (H : Nat → Option ABox) (nx : Nat) (p : Prop) (v : AV) (rb : List Nat) (K : Res → Prop) : aresGX c P op T H nx (some (p, ⟨v, [], 0, rb⟩)) K = ((c = true → p) ∧ K ⟨.gd c v, [], 0, rb⟩) := by simp [aresGX]
theorem aresGX_eff (c : Bool) (P : Program) (op : Op) (T : Nat → AV) (H : Nat → Option ABox) (nx : Nat) (p : Prop) (v : AV) (x : Nat × ABox) (wb : List (Nat × ABox)) (nw : Nat) (rb : List Nat) (K : Res → Prop) : aresGX c P op T H nx (some (p, ⟨v, x :: wb, nw, rb⟩)) K = (c = true ∧ p ∧ K ⟨v, x :: wb, nw, rb⟩) := by simp [aresGX]
theorem aresGX_none (c : Bool) (P : Program) (op : Op) (T : Nat → AV) (H : Nat → Option ABox) (nx : Nat) (K : Res → Prop) : aresGX c P op T H nx none K = ((c = false ∧ K ⟨.gd c .und, [], 0, []⟩) ∨ (∃ v rb, (c = true → aext P op T H nx (KEq v rb)) ∧ K ⟨.gd c v, [], 0, rb⟩) ∨ (c = true ∧ aext P op T H nx K)) := rfl
theorem aresG_some (c : Bool) (p : Prop) (v : AV) (rb : List Nat) (K : Res → Prop) : aresG c (some (p, ⟨v, [], 0, rb⟩)) K = ((c = true → p) ∧ K ⟨.gd c v, [], 0, rb⟩) := by simp [aresG]
theorem aresG_eff (c : Bool) (p : Prop) (v : AV) (x : Nat × ABox) (wb : List (Nat × ABox)) (nw : Nat) (rb : List Nat) (K : Res → Prop) : aresG c (some (p, ⟨v, x :: wb, nw, rb⟩)) K = (c = true ∧ p ∧ K ⟨v, x :: wb, nw, rb⟩) := by simp [aresG]
theorem aresG_none (c : Bool) (K : Res → Prop) : aresG c none K = (c = false ∧ K ⟨.gd c .und, [], 0, []⟩) := rfl

/-- a call under the condition c. -/
def gcst (c : Bool) (P : Program) (H : Nat → Option ABox) (nx : Nat) (f : AV) (as : List AV) (K : Res → Prop) : Prop :=
  (c = true ∧ cst P H nx f as K) ∨ (c = false ∧ K ⟨.gd c .und, [], 0, []⟩) ∨ ∃ v rb, (c = true → cst P H nx f as (KEq v rb)) ∧ K ⟨.gd c v, [], 0, rb⟩
theorem gcst_true {P : Program} {H : Nat → Option ABox} {nx : Nat} {f : AV} {as : List AV} {K : Res → Prop} (h : cst P H nx f as K) : gcst true P H nx f as K := .inl ⟨rfl, h⟩
theorem gcst_false {P : Program} {H : Nat → Option ABox} {nx : Nat} {f : AV} {as : List AV} {K : Res → Prop} (h : K ⟨.gd false .und, [], 0, []⟩) : gcst false P H nx f as K := .inr (.inl ⟨rfl, h⟩)
theorem gcst_pure {c : Bool} {P : Program} {H : Nat → Option ABox} {nx fid : Nat} {as : List AV} {r : AV} {K : Res → Prop} (h : c = true → PCall P fid as r) (hk : K ⟨.gd c r, [], 0, []⟩) : gcst c P H nx (.clo fid []) as K :=
  .inr (.inr ⟨r, [], fun hc => cst_pure (h hc) rfl, hk⟩)

/-- an operation under the condition c. -/
def gst (c : Bool) (P : Program) (op : Op) (T : Nat → AV) (H : Nat → Option ABox) (nx : Nat) (K : Res → Prop) : Prop :=
  match op with
  | .call cl => match cl.callee with
    | .value f => (c = true → (∀ x ∈ cl.args.toList, (evO T x).cond = true) ∧ (evO T f).cond = true) ∧ gcst c P H nx (ev T f) (cl.args.toList.map (ev T)) K
    | .builtin b => aresGX c P (.call cl) T H nx (abi P b cl.args.toList cl.argTypes.toList T H nx) K
    | _ => False
  | op => aresGX c P op T H nx (aop P op T H nx) K

theorem gst_spec {c : Bool} {P : Program} {op : Op} {T : Nat → AV} {H : Nat → Option ABox} {nx : Nat} {K : Res → Prop} (h : gst c P op T H nx K) :
    (c = true ∧ ast P op T H nx K) ∨ (c = false ∧ K ⟨.gd c .und, [], 0, []⟩) ∨ ∃ v rb, (c = true → ast P op T H nx (KEq v rb)) ∧ K ⟨.gd c v, [], 0, rb⟩ := by
  have hres : ∀ (op : Op) (x : Option (Prop × Res)), aresGX c P op T H nx x K → (c = true ∧ aresX P op T H nx x K) ∨ (c = false ∧ K ⟨.gd c .und, [], 0, []⟩) ∨ ∃ v rb, (c = true → aresX P op T H nx x (KEq v rb)) ∧ K ⟨.gd c v, [], 0, rb⟩ := by
    intro op x h
    unfold aresGX at h
    split at h
    · rename_i p r
      split at h
      · rename_i hr
        obtain ⟨v, wb, nw, rb⟩ := r
        obtain ⟨h1, h2⟩ := hr
        simp only [List.isEmpty_iff] at h1 h2
        subst h1; subst h2
        exact .inr (.inr ⟨v, rb, fun hc => ⟨h.1 hc, rfl⟩, h.2⟩)
      · exact .inl ⟨h.1, h.2⟩
    · rcases h with h | ⟨v, rb, h1, h2⟩ | h
      · exact .inr (.inl h)
      · exact .inr (.inr ⟨v, rb, h1, h2⟩)
      · exact .inl h
  unfold gst at h
  unfold ast
  split at h
  · split at h
    · obtain ⟨h1, h2⟩ := h
      rcases h2 with ⟨hc, h2⟩ | h2 | ⟨v, rb, h2, h3⟩
      · exact .inl ⟨hc, (h1 hc).1, (h1 hc).2, h2⟩
      · exact .inr (.inl h2)
      · exact .inr (.inr ⟨v, rb, fun hc => ⟨(h1 hc).1, (h1 hc).2, h2 hc⟩, h3⟩)
    · exact hres _ _ h
    · exact h.elim
  · rename_i hne
    rcases hres _ _ h with h | h | ⟨v, rb, h1, h2⟩
    · exact .inl h
    · exact .inr (.inl h)
    · exact .inr (.inr ⟨v, rb, h1, h2⟩)

def agd (P : Program) (ds : List (Option Nat)) (o : Oper) (T : Nat → AV) (H : Nat → Option ABox) (nx : Nat) (K : Res → Prop) : Prop :=
  match o.guard with
  | none => ast P o.op T H nx K
  | some (j, want) => match gval ds T j want with
    | some c => gst c P o.op T H nx K
    | none => False


/-- as OpS, with the operation's guard. -/
def GOpS (C : Cx) (ds : List (Option Nat)) (o : Oper) (T : Nat → AV) (H : Nat → Option ABox) (nx : Nat) (r : Res) : Prop :=
  ∀ T' H' D g a w, Rel C T' H' D g a w → (∀ x ∈ o.op.operands, evO T' x = evO T x) → (∀ j want d, o.guard = some (j, want) → ds[j]? = some (some d) → T' d = T d) →
    (∀ b ∈ r.rb, H' b = H b) → (∀ i, i < r.nw → ¬ D (nx + i)) → ∀ (ops : Array Oper), ops.toList.map (·.dst) = ds →
  ∀ (K : Act → World → Prop) (Q : Exit → Act → World → Prop),
    (∀ v w' g', Rel C T' (updL H' r.wb) (fun c => D c ∨ (nx ≤ c ∧ c < nx + r.nw)) g' a w' → Rep w' (Own C.O g' (updL H' r.wb)) g' r.v v → K (a.put o.dst v) w') →
    if Region.wanted o (yielded ops a.tmps) = true then o.wp C.P a w K Q else K (a.put o.dst undef) w

theorem agd_sound {C : Cx} {ds : List (Option Nat)} {o : Oper} {T : Nat → AV} {H : Nat → Option ABox} {nx : Nat} {K : Res → Prop} (h : agd C.P ds o T H nx K) : ∃ r, K r ∧ GOpS C ds o T H nx r := by
  unfold agd at h
  split at h
  · rename_i hg
    obtain ⟨r, hk, hs⟩ := ast_sound h
    refine ⟨r, hk, fun T' H' D g a w hr hT _ hH hn ops _ K' Q hK => ?_⟩
    rw [if_pos (by simp [Region.wanted, hg])]
    exact hs T' H' D g a w hr hT hH hn K' Q hK
  · rename_i j want hg
    split at h
    · rename_i c hc
      -- what the guard reads
      have key : ∀ T' H' D g a w, Rel C T' H' D g a w → (∀ j want d, o.guard = some (j, want) → ds[j]? = some (some d) → T' d = T d) → ∀ ops : Array Oper, ops.toList.map (·.dst) = ds →
          Region.wanted o (yielded ops a.tmps) = c := by
        intro T' H' D g a w hr hT ops hds
        unfold gval at hc
        split at hc
        · rename_i d hd
          have hd' : (ops[j]?).bind (·.dst) = some d := by
            rw [← hds, List.getElem?_map] at hd
            cases hj : ops.toList[j]? with
            | none => rw [hj] at hd; simp at hd
            | some oj =>
              rw [hj] at hd
              simp only [Option.map_some, Option.some.injEq] at hd
              rw [← Array.getElem?_toList, hj]; exact hd
          have e := hT j want d hg (by assumption)
          have hrep := hr.tm d
          rw [e] at hrep
          have hy : ∀ b : Bool, a.tmps.getD d undef = .bool b → yielded ops a.tmps j = some b := by
            intro b hb
            unfold yielded
            rw [hd']
            simp only [Option.bind_some]
            rw [Array.getD_eq_getD_getElem?] at hb
            cases ht : a.tmps[d]? with
            | none => rw [ht] at hb; simp [undef] at hb
            | some u => rw [ht] at hb; simp only [Option.getD_some] at hb; rw [hb]
          split at hc
          · rename_i x hx
            rw [hx] at hrep
            have := hy x hrep.sc_inv
            simp only [Option.some.injEq] at hc
            subst hc
            simp only [Region.wanted, hg, this]
            cases x <;> cases want <;> rfl
          · rename_i y x hx
            rw [hx] at hrep
            simp only [Option.some.injEq] at hc
            subst hc
            cases hrep with
            | gd _ _ _ h1 h2 =>
              cases y with
              | true =>
                have := hy x (h1 rfl).sc_inv
                simp only [Region.wanted, hg, this, Bool.true_and]
                cases x <;> cases want <;> rfl
              | false =>
                have hu := h2 rfl
                have : yielded ops a.tmps j = none := by
                  unfold yielded
                  rw [hd']
                  simp only [Option.bind_some]
                  rw [Array.getD_eq_getD_getElem?] at hu
                  cases ht : a.tmps[d]? with
                  | none => rfl
                  | some u => rw [ht] at hu; simp only [Option.getD_some] at hu; rw [hu]; rfl
                simp only [Region.wanted, hg, this, Bool.false_and]
                rfl
          · cases hc
        · cases hc
      rcases gst_spec h with ⟨h0, h⟩ | ⟨h0, h⟩ | ⟨v, rb, h, hk⟩
      · obtain ⟨r, hk, hs⟩ := ast_sound h
        refine ⟨r, hk, fun T' H' D g a w hr hT hG hH hn ops hds K' Q hK => ?_⟩
        rw [if_pos ((key T' H' D g a w hr hG ops hds).trans h0)]
        exact hs T' H' D g a w hr hT hH hn K' Q hK
      · refine ⟨_, h, fun T' H' D g a w hr hT hG hH hn ops hds K' Q hK => ?_⟩
        rw [if_neg (by rw [key T' H' D g a w hr hG ops hds, h0]; simp)]
        exact hK undef w g (hr.dmono fun b hb => .inl hb) (.gd c _ _ (fun hf => by rw [h0] at hf; cases hf) (fun _ => rfl))
      · refine ⟨_, hk, fun T' H' D g a w hr hT hG hH hn ops hds K' Q hK => ?_⟩
        rw [key T' H' D g a w hr hG ops hds]
        by_cases hc1 : c = true
        · rw [if_pos hc1]
          obtain ⟨r, rfl, hs⟩ := ast_sound (h hc1)
          exact hs T' H' D g a w hr hT hH hn K' Q fun v' w' g' h1 h2 => hK v' w' g' h1 (.gd c v v' (fun _ => h2) (fun hf => by rw [hc1] at hf; cases hf))
        · rw [if_neg hc1]
          exact hK undef w g (hr.dmono fun b hb => .inl hb) (.gd c v undef (fun hf => absurd hf hc1) (fun _ => rfl))
    · exact h.elim
end Go.AL
