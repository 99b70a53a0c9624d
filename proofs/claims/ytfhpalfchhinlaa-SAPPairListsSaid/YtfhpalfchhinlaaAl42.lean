/-
  The abstract logic: the function that yields, walked in its place; the statement that ranges over it; a function that holds such a statement. Conditions: the program follows the mixed orders.
-/
import Derived.Test.YtfhpalfchhinlaaAl41
set_option linter.all false
namespace Go.AL
open Go.RowKit

/-- as Tr, in frames of which Y holds. -/
def TrY (P : Program) (n : Nat) (Y : Cx → Prop) (c : Code) (T : TT) (H : HH) (nx : Nat) (Q : Exit → TT → HH → Nat → Prop) : Prop :=
  ∀ (C : Cx) (g : Nat → List Value) (a : Act) (w : World), C.P = P → C.n = n → Y C → Rel C (lk T) (hk H) (fun c => c < nx) g a w →
    c.wp P (fun e a' w' => ∃ T' H' nx' g', Q e T' H' nx' ∧ Rel C (lk T') (hk H') (fun c => c < nx') g' a' w') a w
def KTrY (P : Program) (n : Nat) (Y : Cx → Prop) (c : Code) (Q : Exit → TT → HH → Nat → Prop) (T : TT) (H : HH) (nx : Nat) : Prop := TrY P n Y c T H nx Q
section
variable {P : Program} {n : Nat} {Y : Cx → Prop} {T : TT} {H : HH} {nx : Nat} {Q : Exit → TT → HH → Nat → Prop}
theorem try_ac (hm : P.follows .mixedOrders = true) {c : Code} (h : acode P n c T H nx Q) : TrY P n Y c T H nx Q := fun C g a w hP hn _ hr => acode_sound hm c _ _ _ _ h C g a w hP hn hr
theorem ktry_go {c : Code} (h : TrY P n Y c T H nx Q) : KTrY P n Y c Q T H nx := h
theorem try_seqt {x y : Code} (h : TrY P n Y x T H nx (nextQ (KTrY P n Y y Q) Q)) : TrY P n Y (.seq x y) T H nx Q := by
  intro C g a w hP hn hY hr
  refine wp_seq (wp_mono (h C g a w hP hn hY hr) ?_)
  rintro e a' w' ⟨T', H', nx', g', hq, hr'⟩
  cases e with
  | normal => exact hq C g' a' w' hP hn hY hr'
  | _ => exact ⟨T', H', nx', g', hq, hr'⟩
theorem try_seqc (hm : P.follows .mixedOrders = true) {x y : Code} (h : acode P n x T H nx (nextQ (KTrY P n Y y Q) Q)) : TrY P n Y (.seq x y) T H nx Q := try_seqt (try_ac hm h)
theorem try_block {id : Nat} {c : Code} (h : TrY P n Y c T H nx (QBlk id Q)) : TrY P n Y (.block id c) T H nx Q := by
  intro C g a w hP hn hY hr
  refine wp_block (wp_mono (h C g a w hP hn hY hr) ?_)
  rintro e a' w' ⟨T', H', nx', g', hq, hr'⟩
  unfold QBlk at hq
  cases e with
  | exit id' =>
    simp only [inB] at hq
    unfold Exit.inBlock
    by_cases hid : id' = id
    · rw [if_pos hid] at hq; simp only [hid, if_true]; exact ⟨T', H', nx', g', hq, hr'⟩
    · rw [if_neg hid] at hq; simp only [hid, if_false]; exact ⟨T', H', nx', g', hq, hr'⟩
  | _ => exact ⟨T', H', nx', g', hq, hr'⟩
theorem try_loop {X : Type} (ST : X → TT) (SH : X → HH) (N : Nat) (μ : X → Nat) (x0 : X) {body : Code}
    (hstart : Wk T H nx (ST x0) (SH x0) N) (round : ∀ x, TrY P n Y body (ST x) (SH x) N (nextQ (fun T' H' nx' => ∃ x', μ x' < μ x ∧ Wk T' H' nx' (ST x') (SH x') N) Q)) (hN : nx ≤ N) : TrY P n Y (.loop body) T H nx Q := by
  intro C g a w hP hn hY hr
  have hmN : C.m ≤ N := by
    rcases Nat.lt_or_ge N C.m with h | h
    · have := hr.old.gm N h
      omega
    · exact h
  obtain ⟨g0, hr0⟩ := hstart C g a w hmN hr
  have key : ∀ (m : Nat) (x : X) (g : Nat → List Value) (a : Act) (w : World), μ x = m → Rel C (lk (ST x)) (hk (SH x)) (fun c => c < N) g a w →
      ∀ (b : Frame) (k : List Item) (cs : List Frame), ∃ e a' w', (∃ T' H' nx' g', Q e T' H' nx' ∧ Rel C (lk T') (hk H') (fun c => c < nx') g' a' w') ∧
        Arrives P (lone (b.at a (.code body :: .inLoop body :: k)) cs w) b k cs e a' w' := by
    intro m
    induction m using Nat.strongRecOn with
    | _ m ih =>
      intro x g a w hx hr b k cs
      obtain ⟨e, a₁, w₁, ⟨T', H', nx', g', hq, hr'⟩, harr⟩ := round x C g a w hP hn hY hr b (.inLoop body :: k) cs
      cases e with
      | normal =>
        obtain ⟨x', hlt, hwk⟩ := hq
        obtain ⟨g'', hr''⟩ := hwk C g' a₁ w₁ hmN hr'
        obtain ⟨e₂, a₂, w₂, hq₂, harr₂⟩ := ih (μ x') (hx ▸ hlt) x' g'' a₁ w₁ rfl hr'' b k cs
        exact ⟨e₂, a₂, w₂, hq₂, .of_steps (Steps.trans harr (.one step_inLoop)) harr₂⟩
      | exit id => exact ⟨_, a₁, w₁, ⟨T', H', nx', g', hq, hr'⟩, .pass (x := .inLoop body) rfl (fun _ _ => .inl (by simp)) harr⟩
      | goto l => exact ⟨_, a₁, w₁, ⟨T', H', nx', g', hq, hr'⟩, .pass (x := .inLoop body) rfl (fun _ _ => .inl (by simp)) harr⟩
      | ret => exact ⟨_, a₁, w₁, ⟨T', H', nx', g', hq, hr'⟩, .pass (x := .inLoop body) rfl (fun _ _ => .inl (by simp)) harr⟩
      | panic ch => exact ⟨_, a₁, w₁, ⟨T', H', nx', g', hq, hr'⟩, .pass (x := .inLoop body) rfl (fun _ _ => .inl (by simp)) harr⟩
      | outgrown => exact ⟨_, a₁, w₁, ⟨T', H', nx', g', hq, hr'⟩, .pass (x := .inLoop body) rfl (fun _ _ => .inl (by simp)) harr⟩
  intro b k cs
  obtain ⟨e, a', w', hq, harr⟩ := key (μ x0) x0 g0 a w rfl hr0 b k cs
  exact ⟨e, a', w', hq, .of_steps (.one step_loop) harr⟩
theorem try_lp {X : Type} (ks bs : List Nat) (ch : X → TT) (chH : X → HH) (μ : X → Nat) (x0 : X) {body : Code}
    (h0 : TWk T nx (ch x0 ++ selT T ks)) (h1 : HWk H nx (chH x0 ++ selH H bs))
    (round : ∀ x, TrY P n Y body (ch x ++ selT T ks) (chH x ++ selH H bs) nx (nextQ (fun T' H' nx' => ∃ x', μ x' < μ x ∧ Wk T' H' nx' (ch x' ++ selT T ks) (chH x' ++ selH H bs) nx) Q)) : TrY P n Y (.loop body) T H nx Q :=
  try_loop (fun x => ch x ++ selT T ks) (fun x => chH x ++ selH H bs) nx μ x0 (wk_go (Nat.le_refl _) h0 h1) round (Nat.le_refl _)

/-- at the call of yield: what it is handed, what the round comes to, and what follows in the region. -/
def KYl (P : Program) (n L p0 p1 ms : Nat) (asn bdy : Code) (T1 : TT) (ds : List (Option Nat)) (f x y : Operand) (d : Option Nat) (post : List Oper) (Q : Exit → TT → HH → Nat → Prop) (T : TT) (H : HH) (nx : Nat) (_ : List FP) : Prop :=
  ∃ (wb : HH) (e : Nat), evO (lk T) f = .sc (.func (.yield L) #[] #[]) ∧ (evO (lk T) x).cond = true ∧ (evO (lk T) y).cond = true ∧ nx ≤ e ∧ Lt nx (ev (lk T) x) ∧ Lt nx (ev (lk T) y) ∧ HBs nx H ∧ HBs e wb ∧ keysOk wb = true ∧ keepB H wb = true ∧
    acode P ms (.seq asn bdy) ((p1, ev (lk T) y) :: (p0, ev (lk T) x) :: T1) H nx (endQ nx (e - nx) wb) ∧
    arun P n ds post (setT n T d (.sc (.bool true))) (hputs H wb) e [] fun T' H' nx' _ => Q .normal T' H' nx'
theorem keepB_spec {Hl wb : HH} (h : keepB Hl wb = true) : ∀ p ∈ Hl, p.1 ∈ wb.map (·.1) := by
  intro p hp
  have := List.all_eq_true.1 h p hp
  simpa using this
theorem try_y {L dk fn p0 p1 : Nat} {asn bdy : Code} {tm : Array Value} {T1 : TT} {id : Nat} {ops : Array Oper} (k : Nat) {oy : Oper} {f x y : Operand} {ats : Array TypeId} (hk0 : ops.toList[k]? = some oy) (hoy : oy.op = .call { callee := .value f, args := #[x, y], argTypes := ats }) (hgy : oy.guard = none)
    (hok : okR asn = true) (hob : okR bdy = true) (hp0 : p0 < tm.size) (hp1 : p1 < tm.size) (hnd : ops.toList.all nodef = true)
    (h : arun P n (ops.toList.map (·.dst)) (ops.toList.take k) T H nx [] (KYl P n L p0 p1 tm.size asn bdy T1 (ops.toList.map (·.dst)) f x y oy.dst (ops.toList.drop (k + 1)) Q)) :
    TrY P n (fun C => YC C L dk fn p0 p1 asn bdy tm T1) (.region id ops false) T H nx Q := by
  intro C g a w hP hn hY hr
  subst hP; subst hn
  obtain ⟨rs, hl, hc, wb, e, hf, hx, hy, hne, hlx, hly, hbH, hbW, hko, hkp, hw, hK⟩ := arun_chain _ _ _ _ _ h
  obtain ⟨rs2, hl2, hc2, hK2⟩ := arun_chain _ _ _ _ _ hK
  have hklt : k < ops.size := by
    have := (List.getElem?_eq_some_iff.1 hk0).1
    simpa using this
  have hlen : (ops.toList.take k).length = k := by rw [List.length_take]; simp; omega
  refine (wpIn_wide (n := 0)).1 (wpIn_region ?_)
  have hsplit : List.range ops.size = List.range' 0 (ops.toList.take k).length ++ (k :: List.range' (k + 1) (ops.toList.drop (k + 1)).length) := by
    rw [hlen, List.length_drop, Array.length_toList, List.range_eq_range']
    have h1 : k :: List.range' (k + 1) (ops.size - (k + 1)) = List.range' (0 + k) (ops.size - k) := by
      rw [show ops.size - k = (ops.size - (k + 1)) + 1 by omega, List.range'_succ, Nat.zero_add]
    rw [h1]
    have h2 := List.range'_append (s := 0) (m := k) (n := ops.size - k) (step := 1)
    rw [Nat.one_mul] at h2
    rw [h2]; congr 1; omega
  rw [hsplit]
  have hall : ∀ o ∈ ops.toList, nodef o = true := List.all_eq_true.1 hnd
  refine chain_in (ro := none) _ rs T H nx 0 g a w hc (fun j o hj => ?_) hr fun g1 a1 w1 hr1 => ?_
  · have hj' : ops.toList[j]? = some o := by
      rw [List.getElem?_take] at hj
      split at hj
      · exact hj
      · cases hj
    rw [Nat.zero_add, ← Array.getElem?_toList]
    exact ⟨hj', hall o (List.mem_of_getElem? hj')⟩
  · -- the call of yield
    have hT := hr1.evO
    have rf := hT f
    rw [hf] at rf
    have hfv := rf.sc_inv
    have r0 := hr1.ev x hx
    have r1 := hr1.ev y hy
    have hm : C.m ≤ endN rs nx := by
      rcases Nat.lt_or_ge (endN rs nx) C.m with h | h
      · have := hr1.old.gm _ h; omega
      · exact h
    obtain ⟨hy1, hy2⟩ := yield_round hY hr1 (nw := e - endN rs nx) (wb := wb) r0 r1 hbH.all (fun _ _ h => h) hlx hly hm (fun i _ hd => by omega) (by rw [show endN rs nx + (e - endN rs nx) = e by omega]; exact hbW.all) hko (keepB_spec hkp) hok hob hp0 hp1 hw
    have hok0 : ops[k]? = some oy := by rw [← Array.getElem?_toList]; exact hk0
    simp only [wpOpsIn, hok0]
    rw [if_pos (by simp [Region.wanted, hgy])]
    refine ⟨fun _ _ => trivial, ?_⟩
    have hrun : (oy.semAt (fen none).round a1.eval).run C.P w1 = .ok (.round L fn ((tm.setIfInBounds p0 (a1.eval x)).setIfInBounds p1 (a1.eval y)) asn bdy) w1 := by
      show (execOp a1.eval oy).run C.P w1 = _
      unfold execOp
      simp only [hoy, resolve, Sem.run_bind, Sem.run_pure, Result.andThen_ok, hfv, Deferred.ofValue, invoke]
      simpa using hy1
    rw [hrun]
    refine ⟨fun hd => (by cases hd), hy2.mono ?_⟩
    rintro e3 w3 ⟨rfl, g3, hr3⟩
    have hr4 := (hr3.dmono (D' := fun c => c < e) (fun b hb => by omega)).put oy.dst (v := .sc (.bool true)) (.sc _)
    rw [← lk_setT, ← hk_hputs] at hr4
    have := chain_in (ro := none) (n := 0) (Q := fun e a' w' => ∃ T' H' nx' g', Q e T' H' nx' ∧ Rel C (lk T') (hk H') (fun c => c < nx') g' a' w') (rest := []) (ops.toList.drop (k + 1)) rs2 _ _ e (k + 1) g3 _ w3 hc2 (fun j o hj => by
      rw [List.getElem?_drop] at hj
      rw [← Array.getElem?_toList]
      exact ⟨hj, hall o (List.mem_of_getElem? hj)⟩) hr4 (fun g5 a5 w5 hr5 => ⟨_, _, _, g5, hK2, hr5⟩)
    rw [List.append_nil] at this
    exact this
end
end Go.AL
