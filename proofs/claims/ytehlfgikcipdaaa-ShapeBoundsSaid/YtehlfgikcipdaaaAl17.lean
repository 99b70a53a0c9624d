/-
  The abstract logic: a row 'whatever the input: true; the input reads as it did' out of the law's contract. Conditions: the law reads no package variable.
-/
import Derived.Test.YtehlfgikcipdaaaAl16
set_option linter.all false
namespace Go.AL
open Go.ChangeShapes Go.WideShapes Go.ChangeAt Go.RowKit

/-- the shapes of a function's parameters. -/
def shA (P : Program) : List TypeId → Option (List (Bool × List Sh))
  | [] => some []
  | t :: ts => match shI P 20 t, shA P ts with
    | some s, some r => if (aggB P t = true ∨ s.length = 1) ∧ P.readableRec t = true ∧ t < P.types.size then some ((aggB P t, s) :: r) else none
    | _, _ => none

/-- arguments of these shapes. -/
def InA : List (Bool × List Sh) → List AV → Prop
  | [], as => as = []
  | p :: r, as => ∃ cs as', InL p.2 cs ∧ as = ofC p.1 cs :: as' ∧ InA r as'

theorem InA.lt {S : List (Bool × List Sh)} {as : List AV} (h : InA S as) (N : Nat) : ∀ a ∈ as, Lt N a := by
  induction S generalizing as with
  | nil => intro a ha; rw [show as = [] from h] at ha; cases ha
  | cons p r ih =>
    obtain ⟨cs, as', h1, rfl, h2⟩ := h
    intro a ha
    simp only [List.mem_cons] at ha
    rcases ha with rfl | ha
    · exact ofC_lt h1 N
    · exact ih h2 a ha

theorem inA_nil {as : List AV} : InA [] as ↔ as = [] := Iff.rfl
theorem inA_cons {ag : Bool} {s : List Sh} {r : List (Bool × List Sh)} {as : List AV} : InA ((ag, s) :: r) as ↔ ∃ cs as', InL s cs ∧ as = ofC ag cs :: as' ∧ InA r as' := Iff.rfl

theorem arg_in {H : Type} {enc : TypeId × Value → H} {P : Program} {w : World} {sp : Nat → Bool} {held : Bool} {g : Nat → List Value} {n : Nat} {t : TypeId} {S : List Sh} {v : Value} {d : DataW H} {p : List MemPlace}
    (hs : shI P n t = some S) (h1 : aggB P t = true ∨ S.length = 1) {b0 : Nat} (hv : Value.okWide P w .any b0 t v) (h : DataW.Trod enc P w 0 sp held t v d p) :
    ∃ cs, InL S cs ∧ Rep w (fun _ => False) g (ofC (aggB P t) cs) v := by
  obtain ⟨fuel, hf⟩ := h
  obtain ⟨as, ha, hr⟩ := trod_in (g := g) n t S fuel _ _ hs hf
  refine ⟨as, ha, ?_⟩
  by_cases hag : aggB P t = true
  · have : ∃ cs, v = .agg cs := by
      unfold aggB at hag
      unfold Value.okWide at hv
      split at hag
      · rename_i hu; rw [hu] at hv; obtain ⟨cs, hc, _⟩ := hv; exact ⟨cs, hc⟩
      · rename_i hu; rw [hu] at hv; obtain ⟨cs, hc, _⟩ := hv; exact ⟨cs, hc⟩
      · cases hag
    obtain ⟨cs, rfl⟩ := this
    rw [ofC, if_pos hag]
    refine .agg as cs (by simpa [Value.cells] using hr.1.symm) fun j hj => ?_
    have := hr.2 j hj
    simpa [Value.cells, List.getD_eq_getElem?_getD, Array.getD_eq_getD_getElem?] using this
  · rw [ofC, if_neg hag]
    have hl : S.length = 1 := h1.resolve_left hag
    have hc : v.cells = #[v] := by
      have hu : ∀ cs, v ≠ .agg cs := by
        rintro cs rfl
        unfold aggB at hag
        unfold Value.okWide at hv
        cases n with
        | zero => cases hs
        | succ n =>
          unfold shI at hs
          split at hs
          · rename_i hu; simp [hu, Cell.okWide, Cell.ok] at hv
          · rename_i hu; simp [hu, Cell.okWide, Cell.ok] at hv
          · rename_i hu; simp [hu, Cell.okWide, Cell.ok] at hv
          · rename_i hu; simp [hu, Cell.okWide, Cell.ok] at hv
          · rename_i hu; simp [hu] at hag
          · rename_i hu; simp [hu] at hag
          · cases hs
      unfold Value.cells
      split
      · rename_i cs; exact absurd rfl (hu cs)
      · rfl
    rw [hc] at hr
    have := hr.2 0 (by rw [ha.1, hl]; exact Nat.one_pos)
    simpa using this

theorem args_in {H : Type} {enc : TypeId × Value → H} {P : Program} {w : World} {sp : Nat → Bool} {held : Bool} {g : Nat → List Value} {b0 : Nat} :
    ∀ {ts : List TypeId} {vs : List Value} {ds : List (DataW H)} {ps : List MemPlace} {S : List (Bool × List Sh)}, shA P ts = some S →
      (∀ (j : Nat) t v, ts[j]? = some t → vs[j]? = some v → Value.okWide P w .any b0 t v) → DataW.TrodAll enc P w 0 sp held ts vs ds ps →
      ∃ as, InA S as ∧ RepL w (fun _ => False) g as vs
  | [], vs, ds, ps, S, hs, _, h => by
    obtain ⟨rfl, rfl, rfl⟩ := trodAll_nil h
    cases hs
    exact ⟨[], rfl, rfl, fun j hj => by cases hj⟩
  | t :: ts, vs, ds, ps, S, hs, hv, h => by
    obtain ⟨v, vs1, d, ds1, a, b, rfl, rfl, rfl, h1, h2⟩ := trodAll_cons h
    unfold shA at hs
    split at hs
    · rename_i s r hs1 hs2
      split at hs
      · rename_i hc
        cases hs
        obtain ⟨cs, h3, h4⟩ := arg_in (g := g) hs1 hc.1 (hv 0 t v rfl rfl) h1
        obtain ⟨as, h5, h6⟩ := args_in (g := g) hs2 (fun j t v hj hj' => hv (j + 1) t v (by simpa using hj) (by simpa using hj')) h2
        refine ⟨ofC (aggB P t) cs :: as, ⟨cs, as, h3, rfl, h5⟩, by simp [h6.1], fun j hj => ?_⟩
        cases j with
        | zero => exact h4
        | succ j => exact h6.2 j (by simpa using hj)
      · cases hs
    · cases hs

theorem args_keep {H : Type} {enc : TypeId × Value → H} {P : Program} {W W' : World} (hl : laidOutB P = true) (hb : Below W.heap.size W W') {sp : Nat → Bool} :
    ∀ {ts : List TypeId} {vs : List Value} {ds : List (DataW H)} {ps : List MemPlace} {S : List (Bool × List Sh)}, shA P ts = some S →
      DataW.TrodAll enc P W 0 (fun _ => true) true ts vs ds ps → (∀ p ∈ ps, p.block < W.heap.size) → (∀ p ∈ ps, sp p.block = true) → DataW.TrodAll enc P W' 0 sp true ts vs ds ps
  | [], vs, ds, ps, S, _, h, _, _ => by
    obtain ⟨rfl, rfl, rfl⟩ := trodAll_nil h
    exact trodAll_mk0
  | t :: ts, vs, ds, ps, S, hs, h, hlt, hsp => by
    obtain ⟨v, vs1, d, ds1, a, b, rfl, rfl, rfl, h1, h2⟩ := trodAll_cons h
    unfold shA at hs
    split at hs
    · rename_i s r hs1 hs2
      split at hs
      · rename_i hc
        refine ⟨a, b, WideElems.Trod_stays hl hc.2.1 hc.2.2 h1 (fun x hx => hb.same (hlt x (by simp [hx]))) (fun x hx => hsp x (by simp [hx])), ?_, rfl⟩
        exact args_keep hl hb hs2 h2 (fun p hp => hlt p (by simp [hp])) (fun p hp => hsp p (by simp [hp]))
      · cases hs
    · cases hs

/-- the row's answer, whatever is handed in: true; the input as it was. -/
def Yes (s : ChangeSpec) (n : Nat) : Prop := s.vars = [] ∧ ∀ (H : Type) (ds : List (DataW H)), ds.length = n → (s.fn H ds).results = [.lit (.bool true)] ∧ (s.fn H ds).args = ds ∧ (s.fn H ds).vars = []

theorem trodAll_length {H : Type} {enc : TypeId × Value → H} {P : Program} {w : World} {base : Nat} {sp : Nat → Bool} {held : Bool} :
    ∀ {ts : List TypeId} {vs : List Value} {ds : List (DataW H)} {ps : List MemPlace}, DataW.TrodAll enc P w base sp held ts vs ds ps → ds.length = ts.length
  | [], vs, ds, ps, h => by obtain ⟨rfl, rfl, rfl⟩ := trodAll_nil h; rfl
  | t :: ts, vs, ds, ps, h => by
    obtain ⟨v, vs1, d, ds1, a, b, rfl, rfl, rfl, h1, h2⟩ := trodAll_cons h
    simp [trodAll_length h2]

theorem row_lifted {C : Checked} {os : Os} {f : FuncId} {fn : Func} {s : ChangeSpec} {conds : List PathCond} {tb : TypeId} {S : List (Bool × List Sh)} (own : ownKnob C.prog.godebug = none) (started : os.Started)
    (hl : laidOutB C.prog = true) (noInit : C.prog.inits.idxOf? f = none) (hfn : C.prog.funcs[f]? = some fn) (hrt : fn.resultTypes = #[tb]) (htb : C.prog.underlying tb = some .bool)
    (hS : shA C.prog fn.params.toList = some S) (hs : Yes s fn.params.toList.length) {H : Type} {enc : TypeId × Value → H} {apart fresh handsOn again : Bool}
    (witness : ∃ (w : World) (tape : Tape) (i : Input), w.os = os ∧ (w.forCall tape i).Shaped C.prog ∧ i.vars = [] ∧ Input.okWide C.prog (w.forCall tape i) .any w.heap.size f i ∧
      s.pre6 enc C.prog fn conds apart (w.forCall tape i).memory i.args ∧ ({} : Assume).holds C.prog (lone (Frame.enter C.prog f i.args .normal) [] (w.forCall tape i)))
    (hp : ∀ as, InA S as → PCall C.prog f as (.b true)) :
    ReturnsInHanded {} C os f .any (s.pre6 enc C.prog fn conds apart) (s.post enc C.prog fn apart fresh handsOn again) := by
  refine returnsInHanded_of_change own started noInit hfn witness ?_
  intro W base args ds gs before hval hW _ _
  have hW' := hW
  obtain ⟨p, q, hA, hV, rfl, hfz, hnd⟩ := hW
  rw [hs.1] at hV
  obtain ⟨rfl, rfl⟩ := trodVars_none hV
  obtain ⟨as, h1, h2⟩ := args_in (g := fun _ => []) hS (fun j t v hj hj' => hval j t v (by simpa using hj) (by simpa using hj')) hA
  have hlen : (ds ++ ([] : List (DataW H))).length = fn.params.toList.length := by simpa using trodAll_length hA
  have hr := hs.2 H _ hlen
  refine ((hp as h1).2 W (fun _ => False) (fun _ => []) args (fun k hk => hk.elim) ⟨by simpa using h2.1.symm, fun j hj => by
    have := h2.2 j hj
    simpa [List.getD_eq_getElem?_getD, Array.getD_eq_getD_getElem?] using this⟩).mono fun e W' => ?_
  rintro ⟨v, rfl, hv, hk⟩
  obtain rfl := hv.sc_inv
  have hb : Below W.heap.size W W' := hk.below
  refine ⟨_, rfl, ?_⟩
  have hlt : ∀ p' ∈ p ++ [], p'.block < W.heap.size := fun p' hp' => hW'.lt p' hp'
  have hkeep : ∀ sp : Nat → Bool, (∀ p' ∈ p ++ [], sp p'.block = true) → DataW.TrodAll enc C.prog W' 0 sp true fn.params.toList args.toList (s.fn H (ds ++ [])).args p := by
    intro sp hsp
    rw [hr.2.1, List.append_nil]
    exact args_keep hl hb hS hA (fun p' hp' => hlt p' (by simp [hp'])) (fun p' hp' => hsp p' (by simp [hp']))
  have hvars : ∀ sp : Nat → Bool, DataW.TrodVars enc C.prog W' sp s.vars (s.fn H (ds ++ [])).vars [] := by
    intro sp
    rw [hs.1, hr.2.2]
    rfl
  have hres : ∀ (b : Nat) (sp : Nat → Bool) (hd : Bool), DataW.TrodAll enc C.prog W' b sp hd fn.resultTypes.toList ((Value.bool true).resultList fn.resultTypes.size) (s.fn H (ds ++ [])).results [] := by
    intro b sp hd
    rw [hrt, hr.1]
    exact trodAll_mk1 ⟨1, by simp [DataW.trod, htb, Value.cells]⟩
  have hold : ∀ p' ∈ p ++ [], (fun b => decide (b < W.heap.size)) p'.block = true := fun p' hp' => by simpa using hlt p' hp'
  refine ⟨ds, [], p ++ [], [], p, [], hW', hres _ _ _, hkeep _ hold, hvars _, World.keptBut_mono (fun p' hp' => ⟨hp', ?_⟩) (hb.frame (· ∈ p ++ [])), fun _ => ?_⟩
  · rw [List.mem_append] at hp'
    exact Or.inr hp'
  · refine ⟨?_, _, _, ([] ++ p) ++ [], ⟨[] ++ p, [], trodAll_append (hkeep _ (fun _ _ => rfl)) (hres _ _ _), hvars _, rfl, ?_, ?_⟩, ?_⟩
    · intro j t r hj hr'
      rw [hrt] at hj hr'
      match j, hj, hr' with
      | 0, hj, hr' =>
        simp [Value.resultList] at hj hr'
        subst hj; subst hr'
        exact okWide_bool_mk htb true
    · intro b off hp'
      have hin : MemPlace.cell b off ∈ p ++ [] := by simpa using hp'
      rw [hb.frozen (hlt _ hin)]
      exact hfz b off hin
    · intro ha
      simpa using hnd ha
    · intro p' hp' _
      simpa using hp'

end Go.AL
