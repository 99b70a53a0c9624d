/-
  The abstract logic: zero values, composite values, lengths, least and greatest, equality of structs. Conditions: none.
-/
import Derived.Test.YtehlfgikcipdaaaAl6
set_option linter.all false
namespace Go.AL
open Go.RowKit

/-- the zero value's cells: a nil slice is a slice of one's own. -/
def zav : List Value → Nat → List AV
  | [], _ => []
  | .slice none 0 0 :: r, n => .ow n 0 :: zav r (n + 1)
  | v :: r, n => .sc v :: zav r n
def zbx : List Value → Nat → List (Nat × ABox)
  | [], _ => []
  | .slice none 0 0 :: r, n => (n, .nl) :: zbx r (n + 1)
  | _ :: r, n => zbx r n
def zcn : List Value → Nat
  | [] => 0
  | .slice none 0 0 :: r => zcn r + 1
  | _ :: r => zcn r

theorem updL_append (H : Nat → Option ABox) (a b : List (Nat × ABox)) : updL H (a ++ b) = updL (updL H a) b := by
  induction a generalizing H with
  | nil => rfl
  | cons x a ih => obtain ⟨k, v⟩ := x; exact ih _

theorem zav_length (zs : List Value) : ∀ n, (zav zs n).length = zs.length := by
  induction zs with
  | nil => intro n; rfl
  | cons v r ih =>
    intro n
    unfold zav
    split
    · exact absurd ‹_› (by simp)
    · rename_i h; injection h with h1 h2; subst h2; simp [ih]
    · rename_i h; injection h with h1 h2; subst h2; simp [ih]

section
variable {C : Cx} {T : Nat → AV} {a : Act} {w : World}
theorem newnls (zs : List Value) : ∀ (n : Nat) {H : Nat → Option ABox} {D : Nat → Prop} {g : Nat → List Value}, Rel C T H D g a w → (∀ i, i < zcn zs → ¬ D (n + i)) →
    ∃ g', Ext g g' ∧ Rel C T (updL H (zbx zs n)) (fun c => D c ∨ (n ≤ c ∧ c < n + zcn zs)) g' a w ∧
      ∀ j, j < zs.length → Rep w (Own C.O g' (updL H (zbx zs n))) g' ((zav zs n).getD j .und) (zs.getD j undef) := by
  induction zs with
  | nil => exact fun n H D g h _ => ⟨g, Ext.refl g, h.dmono fun b hb => .inl hb, fun j hj => by simp at hj⟩
  | cons v r ih =>
    intro n H D g h hD
    by_cases hv : v = .slice none 0 0
    · subst hv
      have e1 : zcn (Value.slice none 0 0 :: r) = zcn r + 1 := rfl
      have e2 : zbx (Value.slice none 0 0 :: r) n = (n, .nl) :: zbx r (n + 1) := rfl
      have e3 : zav (Value.slice none 0 0 :: r) n = .ow n 0 :: zav r (n + 1) := rfl
      rw [e1] at hD ⊢
      rw [e2, e3]
      have hn : ¬ D n := hD 0 (Nat.succ_pos _)
      obtain ⟨g', hx, hr, hrep⟩ := ih (n + 1) (h.newnl hn) (fun i hi hd => by
        rcases hd with hd | hd
        · exact hD (i + 1) (by omega) (by rw [show n + (i + 1) = n + 1 + i by omega]; exact hd)
        · omega)
      refine ⟨g', (Ext.new (h.fresh n hn)).trans hx, hr.dmono fun b hb => ?_, fun j hj => ?_⟩
      · rcases hb with (hb | hb) | hb
        · exact .inl hb
        · exact .inr (by omega)
        · exact .inr (by omega)
      · cases j with
        | zero => exact .ow n 0 none 0 0 (hx n 0 _ (by simp [updF]))
        | succ j => exact hrep j (by simpa using hj)
    · have e1 : zcn (v :: r) = zcn r := by cases v <;> first | rfl | (rename_i x y z; cases x <;> first | rfl | (cases y <;> first | rfl | (cases z <;> first | rfl | exact absurd rfl hv)))
      have e2 : zbx (v :: r) n = zbx r n := by cases v <;> first | rfl | (rename_i x y z; cases x <;> first | rfl | (cases y <;> first | rfl | (cases z <;> first | rfl | exact absurd rfl hv)))
      have e3 : zav (v :: r) n = .sc v :: zav r n := by cases v <;> first | rfl | (rename_i x y z; cases x <;> first | rfl | (cases y <;> first | rfl | (cases z <;> first | rfl | exact absurd rfl hv)))
      rw [e1] at hD ⊢
      rw [e2, e3]
      obtain ⟨g', hx, hr, hrep⟩ := ih n h hD
      refine ⟨g', hx, hr, fun j hj => ?_⟩
      cases j with
      | zero => exact .sc v
      | succ j => exact hrep j (by simpa using hj)
end

theorem zI_some {P : Program} {t : TypeId} {zs : List Value} (h : zI P t = some zs) : ∃ i z, P.info? t = some i ∧ i.zero = some z ∧ z.cells.toList = zs := by
  unfold zI at h
  cases hi : P.info? t with
  | none => simp [hi] at h
  | some i =>
    simp only [hi, Option.bind_some] at h
    cases hz : i.zero with
    | none => simp [hz] at h
    | some z => simp only [hz, Option.map_some, Option.some.injEq] at h; exact ⟨i, z, rfl, hz, h⟩
theorem run_zeroValue {P : Program} {t : TypeId} {i : TypeInfo} {z : Value} (hi : P.info? t = some i) (hz : i.zero = some z) (w : World) : (zeroValue t).run P w = .ok z w := by
  unfold zeroValue; simp only [Sem.run_bind, run_typeInfo w hi, Result.andThen_ok, hz, Sem.run_pure]

section
variable {C : Cx} {o : Oper} {T : Nat → AV} {H : Nat → Option ABox} {nx : Nat}

theorem opS_alloc {t : Nat} {zs : List Value} (h : o.op = .alloc t) (hz : zI C.P t = some zs) :
    OpS C o T H nx ⟨.pt (nx + zcn zs) 0, zbx zs nx ++ [(nx + zcn zs, .var (.agg (zav zs nx)))], zcn zs + 1, []⟩ := by
  intro T' H' D g a w hr hT _ hn K Q hK
  obtain ⟨i, z, hi, hz0, hzs⟩ := zI_some hz
  obtain ⟨g', hx, hr', hrep⟩ := newnls zs nx hr (fun i hi => hn i (by simp only; omega))
  have hn0 : ¬ (D (nx + zcn zs) ∨ (nx ≤ nx + zcn zs ∧ nx + zcn zs < nx + zcn zs)) := by
    rintro (hd | hd)
    · exact hn _ (Nat.lt_succ_self _) hd
    · omega
  have hsz : z.cells.size = (AV.agg (zav zs nx)).cells.length := by rw [cells_agg, zav_length, ← hzs]; simp
  have hrel := hr'.newvar (v := .agg (zav zs nx)) (vs := z.cells) hn0 t hsz (fun j hj => by
    rw [cells_agg, zav_length] at hj
    have := hrep j hj
    rw [← hzs] at this
    rw [cells_agg]
    have e : z.cells.toList.getD j undef = z.cells.getD j undef := by rw [List.getD_eq_getElem?_getD, Array.getD_eq_getD_getElem?, Array.getElem?_toList]
    rw [e] at this
    rw [hzs] at this
    exact this)
  have hrun : (execOp a.eval o).run C.P w = .ok (.value (.pointer (some ⟨w.heap.size, 0, none⟩))) (w.alloc (.cells z.cells t)) := by
    unfold execOp
    simp only [h, Instr.alloc, Sem.run_bind, run_zeroValue hi hz0, Result.andThen_ok, newVar, newRow, newObj]
    rfl
  refine wp_of_value hrun (hK _ _ (updF g' (nx + zcn zs) [.pointer (some ⟨w.heap.size, 0, none⟩)]) ?_ ?_)
  · simp only [updL_append]
    refine hrel.dmono fun b hb => ?_
    rcases hb with (hb | hb) | rfl
    · exact .inl hb
    · exact .inr (by omega)
    · exact .inr (by omega)
  · exact .pt _ 0 w.heap.size (by simp [updF])

/-- a composite type: its parts' places and sizes, and its zero value's cells. -/
def plI (P : Program) (t : TypeId) : Option (List (Nat × Nat) × List Value) := match P.info? t, P.underlying t with
  | some it, some (.struct fields) => match it.zero, fields.toList.mapM (fun f => (P.info? f.type).map fun i => (f.offset, i.size)) with
    | some z, some places => some (places, z.cells.toList)
    | _, _ => none
  | some it, some (.array m e) => match it.zero, P.info? e with
    | some z, some ie => some ((List.range m).map fun i => (i * ie.size, ie.size), z.cells.toList)
    | _, _ => none
  | _, _ => none

theorem fill_congr {f f' : Nat → Option (Nat × Nat)} : ∀ (parts : List (Nat × Value)) (cs : Array Value), (∀ p ∈ parts, f p.1 = f' p.1) → Instr.fill f cs parts = Instr.fill f' cs parts
  | [], _, _ => rfl
  | (i, v) :: r, cs, h => by
    have h0 := h (i, v) (List.mem_cons_self ..)
    simp only at h0
    simp only [Instr.fill, h0]
    split
    · rfl
    · split
      · rfl
      · exact fill_congr r _ (fun p hp => h p (List.mem_cons_of_mem _ hp))

theorem built_of {P : Program} {t : TypeId} {pl : List (Nat × Nat)} {zs : List Value} (h : plI P t = some (pl, zs)) (parts : List (Nat × Value)) (hp : ∀ p ∈ parts, p.1 < pl.length) :
    P.built t parts = Instr.fill (pl[·]?) zs.toArray parts := by
  unfold plI at h
  unfold Program.built
  split at h
  · rename_i it fields hi hu
    simp only [hi, hu]
    split at h
    · rename_i z places hz hm
      simp only [Option.some.injEq, Prod.mk.injEq] at h
      obtain ⟨rfl, rfl⟩ := h
      simp only [hz, hm]
      simp
    · cases h
  · rename_i it m e hi hu
    simp only [hi, hu]
    split at h
    · rename_i z ie hz he
      simp only [Option.some.injEq, Prod.mk.injEq] at h
      obtain ⟨rfl, rfl⟩ := h
      simp only [hz, he]
      rw [Array.toArray_toList]
      refine fill_congr _ _ fun p hpp => ?_
      have := hp p hpp
      simp only [List.length_map, List.length_range] at this
      simp [this]
    · cases h
  · cases h

theorem foldset : ∀ (l : List Value) (k off : Nat) (cs : Array Value), ((l.zipIdx k).foldl (fun (cs : Array Value) (x : Value × Nat) => cs.setIfInBounds (off + x.2) x.1) cs).size = cs.size ∧
    ∀ m, m < cs.size → ((l.zipIdx k).foldl (fun (cs : Array Value) (x : Value × Nat) => cs.setIfInBounds (off + x.2) x.1) cs).getD m undef =
      if off + k ≤ m ∧ m < off + k + l.length then l.getD (m - (off + k)) undef else cs.getD m undef
  | [], k, off, cs => ⟨rfl, fun m _ => by
      rw [if_neg (by simp only [List.length_nil]; omega)]; rfl⟩
  | v :: l, k, off, cs => by
    obtain ⟨h1, h2⟩ := foldset l (k + 1) off (cs.setIfInBounds (off + k) v)
    simp only [List.zipIdx_cons, List.foldl_cons]
    refine ⟨by rw [h1]; simp, fun m hm => ?_⟩
    rw [h2 m (by simpa using hm)]
    have hset : (cs.setIfInBounds (off + k) v).getD m undef = if m = off + k then v else cs.getD m undef := by
      rw [Array.getD_eq_getD_getElem?, Array.getElem?_setIfInBounds, Array.getD_eq_getD_getElem?]
      by_cases e : off + k = m
      · subst e; simp [hm]
      · have : ¬ m = off + k := fun h => e h.symm
        simp [e, this]
    simp only [List.length_cons]
    by_cases c1 : off + (k + 1) ≤ m ∧ m < off + (k + 1) + l.length
    · rw [if_pos c1, if_pos (by omega), show m - (off + k) = (m - (off + (k + 1))) + 1 by omega, List.getD_cons_succ]
    · rw [if_neg c1, hset]
      by_cases c2 : m = off + k
      · subst c2; simp
      · rw [if_neg c2, if_neg (by omega)]

def afNext (pl : List (Nat × Nat)) (cs : List AV) (i : Nat) (v : AV) : List AV := match pl[i]? with
  | some (off, _) => cs.take off ++ v.cells ++ cs.drop (off + v.cells.length)
  | none => cs
def afV (pl : List (Nat × Nat)) : List AV → List (Nat × AV) → List AV
  | cs, [] => cs
  | cs, (i, v) :: r => afV pl (afNext pl cs i v) r
def afP (pl : List (Nat × Nat)) : List AV → List (Nat × AV) → Prop
  | _, [] => True
  | cs, (i, v) :: r => (match pl[i]? with
    | some (off, sz) => v.ok = true ∧ v.cells.length = sz ∧ off + sz ≤ cs.length
    | none => False) ∧ afP pl (afNext pl cs i v) r

theorem rep_fill {w : World} {O : Nat → Prop} {g : Nat → List Value} {pl : List (Nat × Nat)} : ∀ (parts : List (Nat × AV)) (us : List (Nat × Value)) (cs : List AV) (vs : Array Value), us.map (·.1) = parts.map (·.1) →
    (∀ j, j < parts.length → Rep w O g (parts.getD j (0, .und)).2 (us.getD j (0, undef)).2) → vs.size = cs.length → (∀ j, j < cs.length → Rep w O g (cs.getD j .und) (vs.getD j undef)) → afP pl cs parts →
    ∃ vs', Instr.fill (pl[·]?) vs us = some vs' ∧ vs'.size = (afV pl cs parts).length ∧ ∀ j, j < (afV pl cs parts).length → Rep w O g ((afV pl cs parts).getD j .und) (vs'.getD j undef)
  | [], us, cs, vs, hm, _, hl, hr, _ => by
    have : us = [] := by cases us with | nil => rfl | cons _ _ => simp at hm
    subst this
    exact ⟨vs, rfl, hl, hr⟩
  | (i, v) :: parts, [], cs, vs, hm, _, _, _, _ => by simp at hm
  | (i, v) :: parts, (i', u) :: us, cs, vs, hm, hrep, hl, hr, hp => by
    simp only [List.map_cons, List.cons.injEq] at hm
    obtain ⟨rfl, hm⟩ := hm
    obtain ⟨hp0, hp⟩ := hp
    have h0 : Rep w O g v u := hrep 0 (by simp)
    split at hp0
    · rename_i off sz hpl
      obtain ⟨hok, hsz, hfit⟩ := hp0
      obtain ⟨s1, s2⟩ := h0.cells hok
      have hfill : Instr.fill (pl[·]?) vs ((i', u) :: us) = Instr.fill (pl[·]?) ((u.cells.toList.zipIdx).foldl (fun (cs : Array Value) (x : Value × Nat) => cs.setIfInBounds (off + x.2) x.1) vs) us := by
        simp only [Instr.fill, hpl]
        rw [if_neg (by simp; omega)]
        congr 1
        rw [← Array.foldl_toList, Array.toList_zipIdx]
      obtain ⟨f1, f2⟩ := foldset u.cells.toList 0 off vs
      have hnl : (afNext pl cs i' v).length = cs.length := by
        simp only [afNext, hpl, List.length_append, List.length_take, List.length_drop]; omega
      rw [hfill]
      refine rep_fill parts us _ _ hm (fun j hj => hrep (j + 1) (by simpa using hj)) (by rw [f1, hnl, hl]) (fun j hj => ?_) hp
      rw [hnl] at hj
      rw [f2 j (by omega)]
      have hav : (afNext pl cs i' v).getD j .und = if off ≤ j ∧ j < off + sz then v.cells.getD (j - off) .und else cs.getD j .und := by
        simp only [afNext, hpl]
        rw [List.getD_eq_getElem?_getD]
        by_cases c1 : j < off
        · rw [if_neg (by omega), List.append_assoc, List.getElem?_append_left (by simp; omega), List.getElem?_take, if_pos c1, List.getD_eq_getElem?_getD]
        · by_cases c2 : j < off + sz
          · rw [if_pos (by omega), List.append_assoc, List.getElem?_append_right (by simp; omega), List.getElem?_append_left (by simp; omega)]
            have hmm : min off cs.length = off := by omega
            simp only [List.length_take, hmm, List.getD_eq_getElem?_getD]
          · rw [if_neg (by omega), List.getElem?_append_right (by simp; omega)]
            have hmm : min off cs.length = off := by omega
            simp only [List.length_append, List.length_take, hmm, List.getElem?_drop, List.getD_eq_getElem?_getD]
            have e : off + v.cells.length + (j - (off + v.cells.length)) = j := by omega
            rw [e]
      rw [hav]
      have hul : u.cells.toList.length = sz := by simp; omega
      simp only [Nat.add_zero, hul]
      split
      · rename_i hc
        have := s2 (j - off) (by omega)
        rwa [Array.getD_eq_getD_getElem?, ← Array.getElem?_toList, ← List.getD_eq_getElem?_getD] at this
      · exact hr j hj
    · exact hp0.elim

/-- what len gives. -/
def alen (H : Nat → Option ABox) : AV → Option (Int × List Nat)
  | .sl es => some (es.length, [])
  | .e0 => some (0, [])
  | .ow b ver => match H b with
    | some .nl => if ver = 0 then some (0, [b]) else none
    | some (.row _ _ ver' es) => if ver = ver' then some (es.length, [b]) else none
    | _ => none
  | _ => none

theorem opS_build {t : Nat} {ps : Array (Nat × Operand)} {pl : List (Nat × Nat)} {zs : List Value} (h : o.op = .build t ps) (hpl : plI C.P t = some (pl, zs)) (hc : ∀ p ∈ ps.toList, (evO T p.2).cond = true)
    (hi : ∀ p ∈ ps.toList, p.1 < pl.length) (hp : afP pl (zav zs nx) (ps.toList.map fun p => (p.1, ev T p.2))) :
    OpS C o T H nx ⟨.agg (afV pl (zav zs nx) (ps.toList.map fun p => (p.1, ev T p.2))), zbx zs nx, zcn zs, []⟩ := by
  intro T' H' D g a w hr hT _ hn K Q hK
  obtain ⟨g', hx, hr', hrep⟩ := newnls zs nx hr hn
  have hev : ∀ p ∈ ps.toList, Rep w (Own C.O g' (updL H' (zbx zs nx))) g' (ev T p.2) (a.eval p.2) := fun p hpp => one_rep hr' (hT p.2 (by simp only [h, Op.operands]; simp; exact ⟨p.1, by simpa using hpp⟩)) (hc p hpp)
  obtain ⟨vs', hf, hs, hv⟩ := rep_fill (w := w) (O := Own C.O g' (updL H' (zbx zs nx))) (g := g') (pl := pl) (ps.toList.map fun p => (p.1, ev T p.2)) (ps.toList.map fun p => (p.1, a.eval p.2)) (zav zs nx) zs.toArray (by simp) (fun j hj => by
      have hj' : j < ps.size := by simpa using hj
      have e1 : (ps.toList.map fun p => (p.1, ev T p.2)).getD j (0, .und) = (ps[j].1, ev T ps[j].2) := by rw [List.getD_eq_getElem?_getD, List.getElem?_map]; simp [hj']
      have e2 : (ps.toList.map fun p => (p.1, a.eval p.2)).getD j (0, undef) = (ps[j].1, a.eval ps[j].2) := by rw [List.getD_eq_getElem?_getD, List.getElem?_map]; simp [hj']
      rw [e1, e2]; exact hev ps[j] (by simp)) (by simp [zav_length]) (fun j hj => by
      rw [zav_length] at hj
      have := hrep j hj
      have e : zs.toArray.getD j undef = zs.getD j undef := by rw [Array.getD_eq_getD_getElem?, List.getD_eq_getElem?_getD]; simp
      rw [e]; exact this) hp
  have hb : C.P.built t (ps.map fun p => (p.1, a.eval p.2)).toList = some vs' := by
    rw [built_of hpl _ (fun p hpp => by simp at hpp; obtain ⟨x, y, hxy, rfl⟩ := hpp; exact hi (x, y) (by simpa using hxy))]
    rw [← hf]; simp
  refine wp_of_value (v := .agg vs') ?_ (hK _ w g' hr' (.agg _ _ hs hv))
  unfold execOp
  simp only [h, Sem.run_bind, run_build w t _ vs' hb, Result.andThen_ok, Sem.run_pure]

theorem rep_alen {C : Cx} {T' : Nat → AV} {H' : Nat → Option ABox} {D : Nat → Prop} {g : Nat → List Value} {a : Act} {w : World} {v : AV} {val : Value} {n : Int} {rb : List Nat}
    (hr : Rel C T' H' D g a w) (hH : ∀ b ∈ rb, H' b = H b) (hv : Rep w (Own C.O g H') g v val) (h : alen H v = some (n, rb)) : ∃ a0 m c, val = .slice a0 m c ∧ (m : Int) = n := by
  unfold alen at h
  split at h
  · simp only [Option.some.injEq, Prod.mk.injEq] at h
    obtain ⟨a0, cap, hv, _⟩ := hv.sl_inv
    exact ⟨_, _, _, hv, h.1⟩
  · simp only [Option.some.injEq, Prod.mk.injEq] at h
    obtain ⟨a0, hv⟩ := hv.e0_inv
    exact ⟨_, _, _, hv, h.1⟩
  · rename_i b ver
    obtain ⟨a0, m, c, hv', hg⟩ := hv.ow_inv
    split at h
    · rename_i hb
      split at h
      · simp only [Option.some.injEq, Prod.mk.injEq] at h
        obtain ⟨rfl, rfl⟩ := h
        have := hr.bx b .nl ((hH b (by simp)).trans hb)
        rename_i h0; subst h0
        have hg' : g b = [.slice none 0 0] := this
        rw [hg'] at hg
        simp only [List.getElem?_cons_zero, Option.some.injEq, Value.slice.injEq] at hg
        exact ⟨_, _, _, hv', by omega⟩
      · cases h
    · rename_i e z ver' es hb
      split at h
      · simp only [Option.some.injEq, Prod.mk.injEq] at h
        obtain ⟨rfl, rfl⟩ := h
        rename_i h0; subst h0
        obtain ⟨sv, xs, h1, h2, h3, _⟩ := hr.bx b _ ((hH b (by simp)).trans hb)
        rw [hg] at h1
        injection h1 with h1
        subst h1
        obtain ⟨_, _, h4, _⟩ := h3.slice
        injection h4 with _ h4 _
        exact ⟨_, _, _, hv', by omega⟩
      · cases h
    · cases h
  · cases h

theorem slice_elem {P : Program} {t e : TypeId} (h : P.underlying t = some (.slice e)) : P.underlying t = some (.slice (P.elem t)) := by
  rw [h]; simp [Program.elem, h]

theorem opS_len {t e n by_ : Nat} {ag : Bool} {x : Operand} {m : Int} {rb : List Nat} (h : o.op = .call { callee := .builtin .len, args := #[x], argTypes := #[t] }) (hc : (evO T x).cond = true)
    (hl : alen H (ev T x) = some (m, rb)) (he : elI C.P t = some (e, n, by_, ag)) : OpS C o T H nx ⟨.sc (.int .i64 m), [], 0, rb⟩ := by
  refine opS_pure fun T' H' D g a w hr hT hH => ?_
  have r1 := one_rep hr (hT x (by simp [h, Op.operands, Call.operands])) hc
  obtain ⟨a0, k, c, hv, hk⟩ := rep_alen hr hH r1 hl
  obtain ⟨inf, k1, _⟩ := elI_some he
  refine ⟨.int .i64 m, ?_, .sc _⟩
  unfold execOp
  simp only [h, resolve, invoke, builtin, Sem.run_bind, Sem.run_pure, Result.andThen_ok, List.map_toArray, List.map_cons, List.map_nil, hv, run_len_slice w t o.type a0 k c (slice_elem k1), goInt, hk]

theorem opS_min {t1 t2 : Nat} {x y : Operand} {k k' : IntKind} {m n : Int} (h : o.op = .call { callee := .builtin .min, args := #[x, y], argTypes := #[t1, t2] }) (hc : (evO T x).cond = true) (hc' : (evO T y).cond = true)
    (hx : ev T x = .sc (.int k m)) (hy : ev T y = .sc (.int k' n)) : OpS C o T H nx ⟨.sc (.int k (if n < m then n else m)), [], 0, []⟩ := by
  refine opS_pure fun T' H' D g a w hr hT hH => ?_
  have r1 := one_rep hr (hT x (by simp [h, Op.operands, Call.operands])) hc
  have r2 := one_rep hr (hT y (by simp [h, Op.operands, Call.operands])) hc'
  rw [hx] at r1; rw [hy] at r2
  refine ⟨_, ?_, .sc _⟩
  unfold execOp
  simp only [h, resolve, invoke, builtin, Sem.run_bind, Sem.run_pure, Result.andThen_ok, List.map_toArray, List.map_cons, List.map_nil, r1.sc_inv, r2.sc_inv, run_min_int2]

theorem opS_max {t1 t2 : Nat} {x y : Operand} {k k' : IntKind} {m n : Int} (h : o.op = .call { callee := .builtin .max, args := #[x, y], argTypes := #[t1, t2] }) (hc : (evO T x).cond = true) (hc' : (evO T y).cond = true)
    (hx : ev T x = .sc (.int k m)) (hy : ev T y = .sc (.int k' n)) : OpS C o T H nx ⟨.sc (.int k (if m < n then n else m)), [], 0, []⟩ := by
  refine opS_pure fun T' H' D g a w hr hT hH => ?_
  have r1 := one_rep hr (hT x (by simp [h, Op.operands, Call.operands])) hc
  have r2 := one_rep hr (hT y (by simp [h, Op.operands, Call.operands])) hc'
  rw [hx] at r1; rw [hy] at r2
  refine ⟨_, ?_, .sc _⟩
  unfold execOp
  simp only [h, resolve, invoke, builtin, Sem.run_bind, Sem.run_pure, Result.andThen_ok, List.map_toArray, List.map_cons, List.map_nil, r1.sc_inv, r2.sc_inv, run_max_int2, gt_iff_lt]

theorem kinds_rep {w : World} {O : Nat → Prop} {g : Nat → List Value} {cs : List AV} {vs : Array Value} (hl : vs.size = cs.length) (h : ∀ j, j < cs.length → Rep w O g (cs.getD j .und) (vs.getD j undef))
    {ks : List (Option IntKind)} (hk : cs.map akind = ks.map some) : vs.toList.map kindOf = ks.map some ∧ cs = vs.toList.map .sc := by
  have hcs : cs = vs.toList.map .sc := by
    refine List.ext_getElem (by simp [hl]) fun j h1 h2 => ?_
    have hr := h j h1
    have e1 : cs.getD j .und = cs[j] := by simp [List.getD_eq_getElem?_getD, h1]
    have e2 : vs.getD j undef = vs[j]'(by omega) := by simp [Array.getD, show j < vs.size by omega]
    rw [e1, e2] at hr
    have hkj : akind cs[j] ≠ none := by
      have : (cs.map akind)[j]? = (ks.map some)[j]? := by rw [hk]
      rw [List.getElem?_map, List.getElem?_eq_getElem h1] at this
      simp only [Option.map_some] at this
      intro hc
      rw [hc, List.getElem?_map] at this
      cases hkk : ks[j]? <;> simp [hkk] at this
    cases hcj : cs[j] with
    | sc v => rw [hcj] at hr; simp only [List.getElem_map, Array.getElem_toList]; rw [hr.sc_inv]
    | _ => rw [hcj] at hkj; exact absurd rfl hkj
  refine ⟨?_, hcs⟩
  rw [← hk, hcs, List.map_map]
  rfl

theorem aeqs_sc : ∀ (xs ys : List Value), aeqs (xs.map .sc) (ys.map .sc) = veqs xs ys
  | [], ys => by cases ys <;> rfl
  | x :: xs, [] => rfl
  | x :: xs, y :: ys => by simp only [List.map_cons, aeqs, veqs, aeq, aeqs_sc xs ys]

theorem opS_eqs {op : BinOp} {t t' : Nat} {x y : Operand} {xs ys : List AV} {ks : List (Option IntKind)} (h : o.op = .binOp op t x y t') (hop : op = .eql ∨ op = .neq) (hc : (evO T x).cond = true) (hc' : (evO T y).cond = true)
    (hx : ev T x = .agg xs) (hy : ev T y = .agg ys) (hq : EqT C.P t ks) (hkx : xs.map akind = ks.map some) (hky : ys.map akind = ks.map some) :
    OpS C o T H nx ⟨.sc (.bool (if op = .eql then aeqs xs ys else !aeqs xs ys)), [], 0, []⟩ := by
  refine opS_pure fun T' H' D g a w hr hT hH => ?_
  have r1 := one_rep hr (hT x (by simp [h, Op.operands])) hc
  have r2 := one_rep hr (hT y (by simp [h, Op.operands])) hc'
  rw [hx] at r1; rw [hy] at r2
  obtain ⟨us, hv1, hl1, h1⟩ := r1.agg_inv
  obtain ⟨vs, hv2, hl2, h2⟩ := r2.agg_inv
  obtain ⟨k1, e1⟩ := kinds_rep hl1 h1 hkx
  obtain ⟨k2, e2⟩ := kinds_rep hl2 h2 hky
  have he := hq.2 w us vs k1 k2
  refine ⟨_, ?_, .sc _⟩
  unfold execOp
  rw [e1, e2, aeqs_sc]
  rcases hop with rfl | rfl
  · simp only [h, hv1, hv2, Sem.run_bind, run_eqGuard_agg w .eql t x y us vs hq.1, Result.andThen_ok, run_eql_struct, he, if_true]
    rfl
  · simp only [h, hv1, hv2, Sem.run_bind, run_eqGuard_agg w .neq t x y us vs hq.1, Result.andThen_ok, run_neq_struct, he]
    rfl
end
end Go.AL
