/-
  The abstract logic: code, loops, and a function's contract out of its body. Conditions: the program follows the mixed orders.
-/
import Derived.Test.YtehlfgikcipdaaaAl11
import Derived.Scope
set_option linter.all false
namespace Go.AL
open Go.RowKit

abbrev TT := List (Nat × AV)
abbrev HH := List (Nat × ABox)

/-- c, begun in a frame that is told by T and H, comes out where Q holds. -/
def Tr (P : Program) (n : Nat) (c : Code) (T : TT) (H : HH) (nx : Nat) (Q : Exit → TT → HH → Nat → Prop) : Prop :=
  ∀ (C : Cx) (g : Nat → List Value) (a : Act) (w : World), C.P = P → C.n = n → Rel C (lk T) (hk H) (fun c => c < nx) g a w →
    c.wp P (fun e a' w' => ∃ T' H' nx' g', Q e T' H' nx' ∧ Rel C (lk T') (hk H') (fun c => c < nx') g' a' w') a w

def acond (x : Bool) (A B : Unit → Prop) : Prop := (x = true → A ()) ∧ (x = false → B ())
theorem acond_true {A B : Unit → Prop} (h : A ()) : acond true A B := ⟨fun _ => h, fun h => by cases h⟩
theorem acond_false {A B : Unit → Prop} (h : B ()) : acond false A B := ⟨(fun h => by cases h), fun _ => h⟩
theorem acond_split {x : Bool} {A B : Unit → Prop} (h : x = true → A ()) (h' : x = false → B ()) : acond x A B := ⟨h, h'⟩

/-- a branch on a bool of which only this is known: where k, it is v. -/
def anb (k v : Bool) (A B : Unit → Prop) : Prop := ((k = true → v = true) → A ()) ∧ ((k = true → v = false) → B ())

def inB (id : Nat) : Exit → Exit
  | .exit id' => if id' = id then .normal else .exit id'
  | e => e

def nextQ (K : TT → HH → Nat → Prop) (Q : Exit → TT → HH → Nat → Prop) : Exit → TT → HH → Nat → Prop
  | .normal, T, H, nx => K T H nx
  | e, T, H, nx => Q e T H nx

def dchk (draw : Bool) (ops : List Oper) (fps : List FP) : Prop := match draw with
  | true => regOk ops fps = true
  | false => True
/-- out of a scope: no jump. -/
def QSc (Q : Exit → TT → HH → Nat → Prop) : Exit → TT → HH → Nat → Prop
  | .goto _, _, _, _ => False
  | e, T, H, nx => Q e T H nx
def acode (P : Program) (n : Nat) : Code → TT → HH → Nat → (Exit → TT → HH → Nat → Prop) → Prop
  | .skip, T, H, nx, Q => Q .normal T H nx
  | .region _ ops draw, T, H, nx, Q => arun P n (ops.toList.map (·.dst)) ops.toList T H nx [] fun T' H' nx' fps => dchk draw ops.toList fps ∧ Q .normal T' H' nx'
  | .seq a b, T, H, nx, Q => acode P n a T H nx (nextQ (fun T' H' nx' => acode P n b T' H' nx' Q) Q)
  | .cond c a b, T, H, nx, Q => match evO (lk T) c with
    | .sc (.bool x) => acond x (fun _ => acode P n a T H nx Q) (fun _ => acode P n b T H nx Q)
    | .nb k v => anb k v (fun _ => acode P n a T H nx Q) (fun _ => acode P n b T H nx Q)
    | _ => False
  | .block id c, T, H, nx, Q => acode P n c T H nx fun e => Q (inB id e)
  | .loop c, T, H, nx, Q => Tr P n (.loop c) T H nx Q
  | .scope c, T, H, nx, Q => acode P n c T H nx (QSc Q)
  | .exit id, T, H, nx, Q => Q (.exit id) T H nx
  | .label _, T, H, nx, Q => Q .normal T H nx
  | .ret, T, H, nx, Q => Q .ret T H nx
  | _, _, _, _, _ => False

def KReg (draw : Bool) (ops : List Oper) (Q : Exit → TT → HH → Nat → Prop) (T : TT) (H : HH) (nx : Nat) (fps : List FP) : Prop := dchk draw ops fps ∧ Q .normal T H nx
def KCode (P : Program) (n : Nat) (c : Code) (Q : Exit → TT → HH → Nat → Prop) (T : TT) (H : HH) (nx : Nat) : Prop := acode P n c T H nx Q
def KBr (P : Program) (n : Nat) (c : Code) (T : TT) (H : HH) (nx : Nat) (Q : Exit → TT → HH → Nat → Prop) (_ : Unit) : Prop := acode P n c T H nx Q
def QBlk (id : Nat) (Q : Exit → TT → HH → Nat → Prop) (e : Exit) (T : TT) (H : HH) (nx : Nat) : Prop := Q (inB id e) T H nx
section
variable (P : Program) (n : Nat) (T : TT) (H : HH) (nx : Nat) (Q : Exit → TT → HH → Nat → Prop)
theorem acode_skip : acode P n .skip T H nx Q = Q .normal T H nx := rfl
theorem acode_region (id : Nat) (ops : List Oper) (draw : Bool) : acode P n (.region id (List.toArray ops) draw) T H nx Q = arun P n (ops.map (·.dst)) ops T H nx [] (KReg draw ops Q) := rfl
theorem acode_seq (a b : Code) : acode P n (.seq a b) T H nx Q = acode P n a T H nx (nextQ (KCode P n b Q) Q) := rfl
theorem acode_block (id : Nat) (c : Code) : acode P n (.block id c) T H nx Q = acode P n c T H nx (QBlk id Q) := rfl
theorem acode_loop (c : Code) : acode P n (.loop c) T H nx Q = Tr P n (.loop c) T H nx Q := rfl
theorem acode_scope (c : Code) : acode P n (.scope c) T H nx Q = acode P n c T H nx (QSc Q) := rfl
theorem qsc_normal : QSc Q .normal T H nx = Q .normal T H nx := rfl
theorem qsc_ret : QSc Q .ret T H nx = Q .ret T H nx := rfl
theorem qsc_exit (id : Nat) : QSc Q (.exit id) T H nx = Q (.exit id) T H nx := rfl
theorem acode_exit (id : Nat) : acode P n (.exit id) T H nx Q = Q (.exit id) T H nx := rfl
theorem acode_label (l : Nat) : acode P n (.label l) T H nx Q = Q .normal T H nx := rfl
theorem acode_ret : acode P n .ret T H nx Q = Q .ret T H nx := rfl
/-- a branch on what stands in a temporary. -/
def abr (v : AV) (A B : Unit → Prop) : Prop := match v with
  | .sc (.bool x) => acond x A B
  | .nb k v => anb k v A B
  | _ => False
theorem abr_nb (k v : Bool) (A B : Unit → Prop) : abr (.nb k v) A B = anb k v A B := rfl
theorem abr_bool (x : Bool) (A B : Unit → Prop) : abr (.sc (.bool x)) A B = acond x A B := rfl
theorem acode_cond (c : Operand) (a b : Code) : acode P n (.cond c a b) T H nx Q = abr (evO (lk T) c) (KBr P n a T H nx Q) (KBr P n b T H nx Q) := rfl
theorem kcode_ (c : Code) : KCode P n c Q T H nx = acode P n c T H nx Q := rfl
theorem kbr_ (c : Code) : KBr P n c T H nx Q () = acode P n c T H nx Q := rfl
theorem kreg_ (draw : Bool) (ops : List Oper) (fps : List FP) : KReg draw ops Q T H nx fps = (dchk draw ops fps ∧ Q .normal T H nx) := rfl
theorem dchk_false (ops : List Oper) (fps : List FP) : dchk false ops fps = True := rfl
theorem dchk_true (ops : List Oper) (fps : List FP) : dchk true ops fps = (regOk ops fps = true) := rfl
variable (K : TT → HH → Nat → Prop)
theorem nextQ_normal : nextQ K Q .normal T H nx = K T H nx := rfl
theorem nextQ_exit (id : Nat) : nextQ K Q (.exit id) T H nx = Q (.exit id) T H nx := rfl
theorem nextQ_ret : nextQ K Q .ret T H nx = Q .ret T H nx := rfl
theorem qblk_normal (id : Nat) : QBlk id Q .normal T H nx = Q .normal T H nx := rfl
theorem qblk_ret (id : Nat) : QBlk id Q .ret T H nx = Q .ret T H nx := rfl
theorem qblk_exit (id id' : Nat) : QBlk id Q (.exit id') T H nx = if id' = id then Q .normal T H nx else Q (.exit id') T H nx := by
  unfold QBlk; simp only [inB]; by_cases h : id' = id <;> simp [h]
end

theorem acode_sound {P : Program} {n : Nat} (hm : P.follows .mixedOrders = true) : ∀ (c : Code) (T : TT) (H : HH) (nx : Nat) (Q : Exit → TT → HH → Nat → Prop), acode P n c T H nx Q → Tr P n c T H nx Q
  | .skip, T, H, nx, Q, h => fun C g a w _ _ hr => wp_skip ⟨T, H, nx, g, h, hr⟩
  | .region id ops draw, T, H, nx, Q, h => fun C g a w hP hn hr => by
    cases draw with
    | false => exact region_seq hP hn h hr (fun T' H' nx' fps g' a' w' hK hr' => ⟨T', H', nx', g', hK.2, hr'⟩)
    | true => exact region_any hP hn hm h hr (fun T' H' nx' fps hK => hK.1) (fun T' H' nx' fps g' a' w' hK hr' => ⟨T', H', nx', g', hK.2, hr'⟩)
  | .seq x y, T, H, nx, Q, h => fun C g a w hP hn hr => by
    refine wp_seq (wp_mono (acode_sound hm x T H nx _ h C g a w hP hn hr) ?_)
    rintro e a' w' ⟨T', H', nx', g', hq, hr'⟩
    cases e with
    | normal => exact acode_sound hm y T' H' nx' Q hq C g' a' w' hP hn hr'
    | _ => exact ⟨T', H', nx', g', hq, hr'⟩
  | .cond c x y, T, H, nx, Q, h => fun C g a w hP hn hr => by
    simp only [acode] at h
    split at h
    · rename_i b hb
      have hc := hr.evO c
      rw [hb] at hc
      exact wp_cond_split hc.sc_inv (fun ht => acode_sound hm x T H nx Q (h.1 ht) C g a w hP hn hr) (fun hf => acode_sound hm y T H nx Q (h.2 hf) C g a w hP hn hr)
    · rename_i k v hb
      have hc := hr.evO c
      rw [hb] at hc
      obtain ⟨b, hv, hk⟩ := hc.nb_inv
      exact wp_cond_split hv (fun ht => acode_sound hm x T H nx Q (h.1 fun h => (hk h).symm.trans ht) C g a w hP hn hr) (fun hf => acode_sound hm y T H nx Q (h.2 fun h => (hk h).symm.trans hf) C g a w hP hn hr)
    · exact h.elim
  | .block id c, T, H, nx, Q, h => fun C g a w hP hn hr => by
    refine wp_block (wp_mono (acode_sound hm c T H nx _ h C g a w hP hn hr) ?_)
    rintro e a' w' ⟨T', H', nx', g', hq, hr'⟩
    cases e with
    | exit id' =>
      simp only [inB] at hq
      unfold Exit.inBlock
      by_cases hid : id' = id
      · rw [if_pos hid] at hq; simp only [hid, if_true]; exact ⟨T', H', nx', g', hq, hr'⟩
      · rw [if_neg hid] at hq; simp only [hid, if_false]; exact ⟨T', H', nx', g', hq, hr'⟩
    | _ => exact ⟨T', H', nx', g', hq, hr'⟩
  | .loop c, T, H, nx, Q, h => h
  | .exit id, T, H, nx, Q, h => fun C g a w _ _ hr => wp_exit ⟨T, H, nx, g, h, hr⟩
  | .label l, T, H, nx, Q, h => fun C g a w _ _ hr => wp_label ⟨T, H, nx, g, h, hr⟩
  | .ret, T, H, nx, Q, h => fun C g a w _ _ hr => wp_ret ⟨T, H, nx, g, h, hr⟩
  | .rangeFunc _ _ _ _, _, _, _, _, h => h.elim
  | .scope c, T, H, nx, Q, h => fun C g a w hP hn hr => by
    refine wp_scope_straight (wp_mono (acode_sound hm c T H nx _ h C g a w hP hn hr) ?_)
    rintro e a' w' ⟨T', H', nx', g', hq, hr'⟩
    cases e with
    | goto l => exact hq.elim
    | _ => exact ⟨T', H', nx', g', hq, hr'⟩
  | .goto _, _, _, _, _, h => h.elim
  | .refuse _, _, _, _, _, h => h.elim

/-- what is told by (T, H) may be told by (T', H'), which say less. -/
def Wk (T : TT) (H : HH) (nx : Nat) (T' : TT) (H' : HH) (nx' : Nat) : Prop :=
  ∀ (C : Cx) (g : Nat → List Value) (a : Act) (w : World), C.m ≤ nx' → Rel C (lk T) (hk H) (fun c => c < nx) g a w → ∃ g', Rel C (lk T') (hk H') (fun c => c < nx') g' a w

/-- A LOOP: S tells the frame at the head of each round; every round lowers μ. -/
theorem tr_loop {P : Program} {n : Nat} (hm : P.follows .mixedOrders = true) {X : Type} (ST : X → TT) (SH : X → HH) (N : Nat) (μ : X → Nat) (x0 : X) {body : Code} {T : TT} {H : HH} {nx : Nat} {Q : Exit → TT → HH → Nat → Prop}
    (hstart : Wk T H nx (ST x0) (SH x0) N)
    (round : ∀ x, acode P n body (ST x) (SH x) N (nextQ (fun T' H' nx' => ∃ x', μ x' < μ x ∧ Wk T' H' nx' (ST x') (SH x') N) Q)) (hN : nx ≤ N := by decide) : Tr P n (.loop body) T H nx Q := by
  intro C g a w hP hn hr
  have hmN : C.m ≤ N := by
    rcases Nat.lt_or_ge N C.m with h | h
    · have := hr.old.gm N h
      omega
    · exact h
  obtain ⟨g0, hr0⟩ := hstart C g a w hmN hr
  have key : ∀ (m : Nat) (x : X) (g : Nat → List Value) (a : Act) (w : World), μ x = m → Rel C (lk (ST x)) (hk (SH x)) (fun c => c < N) g a w →
      ∀ (b : Frame) (k : List Item) (cs : List Frame), ∃ e a' w', (∃ T' H' nx' g', Q e T' H' nx' ∧ Rel C (lk T') (hk H') (fun c => c < nx') g' a' w') ∧
        Arrives P (lone (b.at a (.code body :: .inLoop body :: k)) cs w) b k cs e a' w' := by
    intro m
    induction m using Nat.strongRecOn with
    | _ m ih =>
      intro x g a w hx hr b k cs
      obtain ⟨e, a₁, w₁, ⟨T', H', nx', g', hq, hr'⟩, harr⟩ := acode_sound hm body _ _ _ _ (round x) C g a w hP hn hr b (.inLoop body :: k) cs
      cases e with
      | normal =>
        obtain ⟨x', hlt, hwk⟩ := hq
        obtain ⟨g'', hr''⟩ := hwk C g' a₁ w₁ hmN hr'
        obtain ⟨e₂, a₂, w₂, hq₂, harr₂⟩ := ih (μ x') (hx ▸ hlt) x' g'' a₁ w₁ rfl hr'' b k cs
        exact ⟨e₂, a₂, w₂, hq₂, .of_steps (Steps.trans harr (.one step_inLoop)) harr₂⟩
      | exit id => exact ⟨_, a₁, w₁, ⟨T', H', nx', g', hq, hr'⟩, .pass (x := .inLoop body) rfl (fun _ _ => .inl (by simp)) harr⟩
      | goto l => exact ⟨_, a₁, w₁, ⟨T', H', nx', g', hq, hr'⟩, .pass (x := .inLoop body) rfl (fun _ _ => .inl (by simp)) harr⟩
      | ret => exact ⟨_, a₁, w₁, ⟨T', H', nx', g', hq, hr'⟩, .pass (x := .inLoop body) rfl (fun _ _ => .inl (by simp)) harr⟩
      | panic ch => exact ⟨_, a₁, w₁, ⟨T', H', nx', g', hq, hr'⟩, .pass (x := .inLoop body) rfl (fun _ _ => .inl (by simp)) harr⟩
      | outgrown => exact ⟨_, a₁, w₁, ⟨T', H', nx', g', hq, hr'⟩, .pass (x := .inLoop body) rfl (fun _ _ => .inl (by simp)) harr⟩
  intro b k cs
  obtain ⟨e, a', w', hq, harr⟩ := key (μ x0) x0 g0 a w rfl hr0 b k cs
  exact ⟨e, a', w', hq, .of_steps (.one step_loop) harr⟩

/-- a box that may be told by another: a nil slice is an empty row. -/
def bwk (x y : ABox) : Prop := x = y ∨ (x = .nl ∧ ∃ e z, y = .row e z 0 [])

theorem wk_of {T : TT} {H : HH} {nx : Nat} {T' : TT} {H' : HH} {nx' : Nat} (hn : nx' ≤ nx)
    (hT : ∀ p ∈ T', p.2 = .und ∨ lk T p.1 = p.2) (hTl : ∀ p ∈ T', Lt nx' p.2)
    (hH : ∀ p ∈ H', p.1 < nx' ∧ ∃ x, hk H p.1 = some x ∧ bwk x p.2)
    (hHl : ∀ p ∈ H', match p.2 with | .var v => Lt nx' v | .nl => True | .row _ _ _ es => ∀ e ∈ es, Lt nx' e | .ob _ => True) : Wk T H nx T' H' nx' := by
  intro C g a w hmn hr
  refine ⟨fun b => if b < nx' then g b else [], ?_⟩
  have hg : ∀ b, b < nx' → (if b < nx' then g b else []) = g b := fun b hb => if_pos hb
  have hmem : ∀ (H' : HH) b x, hk H' b = some x → (b, x) ∈ H' := by
    intro H'
    induction H' with
    | nil => intro b x h; cases h
    | cons kv r ih =>
      intro b x h
      obtain ⟨k, v⟩ := kv
      simp only [hk] at h
      split at h
      · rename_i e; injection h with h; subst h; subst e; exact List.mem_cons_self ..
      · exact List.mem_cons_of_mem _ (ih b x h)
  have hmemT : ∀ (T' : TT) t, lk T' t = .und ∨ (t, lk T' t) ∈ T' := by
    intro T'
    induction T' with
    | nil => intro t; exact .inl rfl
    | cons kv r ih =>
      intro t
      obtain ⟨k, v⟩ := kv
      simp only [lk]
      split
      · rename_i e; subst e; exact .inr (List.mem_cons_self ..)
      · rcases ih t with h | h
        · exact .inl h
        · exact .inr (List.mem_cons_of_mem _ h)
  have hbox : ∀ b x, hk H' b = some x → b < nx' ∧ ∃ x0, hk H b = some x0 ∧ bwk x0 x := fun b x hx => hH _ (hmem H' b x hx)
  have hobk : ∀ b x x0, b < nx' → bwk x0 x → BoxRep w (Own C.O g (hk H)) g b x0 → ownBlk (fun b => if b < nx' then g b else []) b x = ownBlk g b x0 := by
    intro b x x0 hb hw hbr
    rw [ownBlk_congr x (hg b hb)]
    rcases hw with rfl | ⟨rfl, e, z, rfl⟩
    · rfl
    · have : g b = [.slice none 0 0] := hbr
      simp [ownBlk, this, rowBlk]
  have hOwn : ∀ k, Own C.O (fun b => if b < nx' then g b else []) (hk H') k → Own C.O g (hk H) k := by
    rintro k (hk' | ⟨b, x, hx, hk'⟩)
    · exact .inl hk'
    · obtain ⟨hb, x0, hx0, hw⟩ := hbox b x hx
      rw [hobk b x x0 hb hw (hr.bx b x0 hx0)] at hk'
      exact .inr ⟨b, x0, hx0, hk'⟩
  have conv : ∀ v val, Lt nx' v → Rep w (Own C.O g (hk H)) g v val → Rep w (Own C.O (fun b => if b < nx' then g b else []) (hk H')) (fun b => if b < nx' then g b else []) v val :=
    fun v val hl h => (h.reset hg hl).sub hOwn
  refine ⟨hr.df, hr.sz, fun t => ?_, fun b x hx => ?_, fun b hb => ?_, fun b x hx => (hbox b x hx).1, fun b b' x x' k hx hx' hk1 hk2 => ?_, fun b x k hx hk1 => ?_, hr.oo, hr.kept, ?_⟩
  · rcases hmemT T' t with h | h
    · rw [h]; exact .und _
    · rcases hT _ h with h' | h'
      · simp only at h'; rw [h']; exact .und _
      · simp only at h'
        have := hr.tm t
        rw [h'] at this
        exact conv _ _ (hTl _ h) this
  · obtain ⟨hb, x0, hx0, hw⟩ := hbox b x hx
    have hlx := hHl _ (hmem H' b x hx)
    have hbr := hr.bx b x0 hx0
    have hgb : (if b < nx' then g b else []) = g b := hg b hb
    rcases hw with rfl | ⟨rfl, e, z, rfl⟩
    · cases x0 with
      | var v =>
        obtain ⟨blk, vs, ty, h1, h2, h3, h4⟩ := hbr
        refine ⟨blk, vs, ty, by simp only [hgb]; exact h1, h2, h3, fun j hj => conv _ _ ?_ (h4 j hj)⟩
        exact Lt.cells hlx (getD_mem hj)
      | nl => exact hgb.trans hbr
      | ob o =>
        obtain ⟨blk, h1, h2⟩ := hbr
        exact ⟨blk, by simp only [hgb]; exact h1, h2⟩
      | row e z ver es =>
        obtain ⟨sv, xs, h1, h2, h3, h4, h5⟩ := hbr
        refine ⟨sv, xs, by simp only [hgb]; exact h1, by simp only [hgb]; exact h2, h3, h4, fun i hi j hj => conv _ _ ?_ (h5 i hi j hj)⟩
        exact Lt.cells (hlx _ (getD_mem hi)) (getD_mem (by rw [h4 _ (getD_mem hi)]; exact hj))
    · have hbr' : g b = [.slice none 0 0] := hbr
      refine ⟨.slice none 0 0, [], by simp only [hb, if_true, hbr']; rfl, by simp only [hb, if_true, hbr']; rfl, .empty w e z none, fun a ha => by simp at ha, fun i hi => by simp at hi⟩
  · have : ¬ b < nx' := hb
    simp only [this, if_false]
  · obtain ⟨hb, x0, hx0, hw⟩ := hbox b x hx
    obtain ⟨hb', x0', hx0', hw'⟩ := hbox b' x' hx'
    rw [hobk b x x0 hb hw (hr.bx b x0 hx0)] at hk1
    rw [hobk b' x' x0' hb' hw' (hr.bx b' x0' hx0')] at hk2
    exact hr.sep b b' x0 x0' k hx0 hx0' hk1 hk2
  · obtain ⟨hb, x0, hx0, hw⟩ := hbox b x hx
    rw [hobk b x x0 hb hw (hr.bx b x0 hx0)] at hk1
    exact hr.own b x0 k hx0 hk1
  · refine ⟨fun b hb ver v hv => ?_, fun b hb => Nat.lt_of_lt_of_le hb hmn, fun b hb => ?_, fun b x hx => ?_⟩
    · have hb' : b < nx' := by omega
      simp only [hb', if_true]; exact hr.old.ge b hb ver v hv
    · obtain ⟨h1, h2⟩ := hr.old.gx b hb
      have hb' : b < nx' := by omega
      simp only [hb', if_true]; exact ⟨h1, h2⟩
    · obtain ⟨_, x0, hx0, _⟩ := hbox b x hx
      exact hr.old.gh b x0 hx0
end Go.AL
