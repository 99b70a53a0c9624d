/-
  The abstract logic: an own row that is no longer written to is told by its content; its box is let go. Conditions: none.
-/
import Derived.Test.YtplmagdbnbijlaaGreatAlC
import Derived.Test.YtplmagdbnbijlaaGreatAlD
set_option linter.all false
namespace Go.AL
open Go.RowKit
section
variable {C : Cx} {T : Nat → AV} {H : Nat → Option ABox} {D : Nat → Prop} {g : Nat → List Value} {a : Act} {w : World}
theorem own_del {b : Nat} (k : Nat) (h : Own C.O g (updF H b none) k) : Own C.O g H k := by
  rcases h with h | ⟨b', x, hx, hk⟩
  · exact .inl h
  · by_cases hb : b' = b
    · subst hb; rw [updF_same] at hx; cases hx
    · rw [updF_other hb] at hx; exact .inr ⟨b', x, hx, hk⟩
theorem rep_fz {b ver e z : Nat} {es : List AV} {val : Value} (hr : Rel C T H D g a w) (h : Rep w (Own C.O g H) g (.ow b ver) val) (hb : H b = some (.row e z ver es)) : Rep w (Own C.O g (updF H b none)) g (.sl es) val := by
  obtain ⟨a0, n, c, rfl, hg⟩ := h.ow_inv
  obtain ⟨sv, xs, h1, h2, h3, h4, h5⟩ := hr.bx b _ hb
  rw [hg] at h1
  injection h1 with h1
  subst h1
  obtain ⟨hl, h3'⟩ := h3
  rcases h3' with ⟨hn, a1, hv⟩ | ⟨gg, cap, cur, hv, hh, hcap, _, hsz, htk⟩
  · injection hv with e1 e2 e3
    subst e1; subst e2; subst e3
    have : es = [] := List.eq_nil_of_length_eq_zero hn
    subst this
    exact .sl0 _ 0
  · injection hv with e1 e2 e3
    subst e1; subst e2; subst e3
    have hob : ownBlk g b (.row e z ver es) = some gg := by simp [ownBlk, hg, rowBlk]
    have hown := hr.own b _ gg hb hob
    refine .sl1 z es gg 0 (cap + 1) (fun i => xs.getD i undef) hcap h4 ?_ hown.2.2 (fun i hi => ?_) (fun i hi j hj => (h5 i hi j hj).sub (fun k hk => own_del k hk))
    · rintro (ho | ⟨b', x, hx, hk⟩)
      · exact hown.1 ho
      · by_cases hbb : b' = b
        · subst hbb; rw [updF_same] at hx; cases hx
        · rw [updF_other hbb] at hx
          exact hbb (hr.sep _ _ _ _ gg hx hb hk hob)
    rw [Nat.zero_add, cell_of_row w gg i cur e (0, 0) hh]
    have hlt : i < xs.length := by omega
    have hx : xs[i]? = cur[i]? := by rw [← htk, List.getElem?_take, if_pos hi, Array.getElem?_toList]
    rw [← hx, List.getD_eq_getElem?_getD, List.getElem?_eq_getElem hlt]
    rfl
theorem Rel.fz {t b : Nat} {v : AV} (hr : Rel C T H D g a w) (h : Rep w (Own C.O g (updF H b none)) g v (a.tmps.getD t undef)) : Rel C (fun t' => if t' = t then v else T t') (updF H b none) D g a w := by
  have hin : ∀ c x, updF H b none c = some x → H c = some x := fun c x hx => by
    by_cases hc : c = b
    · subst hc; rw [updF_same] at hx; cases hx
    · rwa [updF_other hc] at hx
  refine ⟨hr.df, hr.sz, fun t' => ?_, fun c x hx => (hr.bx c x (hin c x hx)).sub (fun k hk => own_del k hk), hr.fresh, fun c x hx => hr.dom c x (hin c x hx), fun c c' x x' k hx hx' => hr.sep c c' x x' k (hin c x hx) (hin c' x' hx'), fun c x k hx => hr.own c x k (hin c x hx), hr.oo, hr.kept, hr.old.mono (fun c x hx => ⟨x, hin c x hx⟩) (fun _ h => h)⟩
  by_cases ht : t' = t
  · subst ht; rw [if_pos rfl]; exact h
  · rw [if_neg ht]; exact (hr.tm t').sub (fun k hk => own_del k hk)
end
def hdel (H : HH) (b : Nat) : HH := H.filter fun p => p.1 != b
theorem hk_hdel (H : HH) (b : Nat) : hk (hdel H b) = updF (hk H) b none := by
  funext c
  induction H with
  | nil => simp [hdel, hk, updF]
  | cons p r ih =>
    obtain ⟨k, v⟩ := p
    by_cases hkb : k = b
    · subst hkb
      have h1 : hdel ((k, v) :: r) k = hdel r k := by simp [hdel]
      rw [h1, ih]
      by_cases hc : c = k
      · subst hc; rw [updF_same, updF_same]
      · rw [updF_other hc, updF_other hc]; simp [hk, hc]
    · have h1 : hdel ((k, v) :: r) b = (k, v) :: hdel r b := by simp [hdel, hkb]
      rw [h1]
      by_cases hc : c = k
      · subst hc; rw [updF_other hkb]; simp [hk]
      · have h2 : hk ((k, v) :: hdel r b) c = hk (hdel r b) c := by simp [hk, hc]
        rw [h2, ih]
        by_cases hcb : c = b
        · subst hcb; rw [updF_same, updF_same]
        · rw [updF_other hcb, updF_other hcb]; simp [hk, hc]
theorem lk_consf (t : Nat) (v : AV) (T : TT) : lk ((t, v) :: T) = fun t' => if t' = t then v else lk T t' := by
  funext t'
  simp [lk]
variable {T : TT} {H : HH} {nx : Nat}
theorem tr_fz {P : Program} {n : Nat} {c : Code} {Q : Exit → TT → HH → Nat → Prop} (t b : Nat) {ver e z : Nat} {es : List AV} (H1 : HH) (ht : lk T t = .ow b ver) (hb : hk H b = some (.row e z ver es)) (hH : hdel H b = H1) (h : Tr P n c ((t, .sl es) :: T) H1 nx Q) : Tr P n c T H nx Q := by
  intro C g a w hP hn hr
  refine h C g a w hP hn ?_
  rw [← hH, hk_hdel, lk_consf]
  have h1 := hr.tm t
  rw [ht] at h1
  exact hr.fz (rep_fz hr h1 hb)
end Go.AL
/-
  The abstract logic: an element of an array behind a pointer to content. Conditions: none.
-/
namespace Go.AL
open Go.RowKit
end Go.AL
/-
  The abstract logic: copy within a row of one's own. Conditions: none.
-/
namespace Go.AL
open Go Go.RowKit
def cpRow (es : List AV) (i j : Nat) : List AV := es.take i ++ ((es.drop j).take (min (es.length - j) (es.length - i)) ++ es.drop (i + min (es.length - j) (es.length - i)))
theorem cpRow_len (es : List AV) (i j : Nat) (hi : i ≤ es.length) : (cpRow es i j).length = es.length := by
  unfold cpRow
  simp only [List.length_append, List.length_take, List.length_drop]
  omega
theorem cpRow_at (es : List AV) (i j : Nat) (hi : i ≤ es.length) {k : Nat} (hk : k < es.length) :
    (cpRow es i j).getD k .und = if k < i then es.getD k .und else if k < i + min (es.length - j) (es.length - i) then es.getD (j + (k - i)) .und else es.getD k .und := by
  unfold cpRow
  have h1 : (es.take i).length = i := by rw [List.length_take]; omega
  by_cases c1 : k < i
  · rw [if_pos c1, List.getD_eq_getElem?_getD, List.getElem?_append_left (by omega), List.getElem?_take, if_pos c1, List.getD_eq_getElem?_getD]
  · rw [if_neg c1, List.getD_eq_getElem?_getD, List.getElem?_append_right (by omega), h1]
    have h2 : ((es.drop j).take (min (es.length - j) (es.length - i))).length = min (es.length - j) (es.length - i) := by rw [List.length_take, List.length_drop]; omega
    by_cases c2 : k < i + min (es.length - j) (es.length - i)
    · rw [if_pos c2, List.getElem?_append_left (by omega), List.getElem?_take, if_pos (by omega), List.getElem?_drop, List.getD_eq_getElem?_getD]
    · rw [if_neg c2, List.getElem?_append_right (by omega), h2, List.getElem?_drop, List.getD_eq_getElem?_getD]
      congr 2; omega
section
variable {C : Cx} {o : Oper} {T : Nat → AV} {H : Nat → Option ABox} {nx : Nat}
theorem opS_copy {t t' e z by_ b ver i j : Nat} {ag : Bool} {x y : Operand} {es : List AV} (h : o.op = .call { callee := .builtin .copy, args := #[x, y], argTypes := #[t, t'] }) (hc : (evO T x).cond = true) (hx : ev T x = .rs b ver z i)
    (hc' : (evO T y).cond = true) (hy : ev T y = .rs b ver z j)
    (hb : H b = some (.row e z ver es)) (he : elI C.P t = some (e, z, by_, ag)) (hone : ∀ v ∈ es, ∀ c ∈ v.cells, c.one = true) (hi : i ≤ es.length) (hj : j ≤ es.length) (hpos : 0 < es.length) :
    OpS C o T H nx ⟨.i (min (es.length - j) (es.length - i) : Nat), [(b, .row e z ver (cpRow es i j))], 0, [b]⟩ := by
  intro T' H' D g a w hr hT hH _ K Q hK
  have r1 := one_rep hr (hT x (by simp [h, Op.operands, Call.operands])) hc
  have r2 := one_rep hr (hT y (by simp [h, Op.operands, Call.operands])) hc'
  rw [hx] at r1
  rw [hy] at r2
  obtain ⟨blk, n, c, o1, m1, hv, hg, ho1⟩ := r1.rs_inv
  obtain ⟨blk2, n2, c2, o2, m2, hv2, hg2, ho2⟩ := r2.rs_inv
  rw [hg] at hg2
  injection hg2 with hg2
  injection hg2 with q1 q2 q3
  injection q1 with q1
  injection q1 with q1
  subst q1; subst q2; subst q3
  have hb' : H' b = some (.row e z ver es) := (hH b (by simp)).trans hb
  obtain ⟨blk', cap, cur, g1, g2, h2, hcap, hc2, h5, hob, h6, h7⟩ := row_open (hr.bx b _ hb') hpos
  have hg0 := hg
  rw [hg] at g1
  injection g1 with g1
  injection g1 with e1 e2 e3
  injection e1 with e1
  injection e1 with e1
  subst e1; subst e2; subst e3
  obtain ⟨inf, k1, k2, k3, k4, k5, k6, k7⟩ := elI_some he
  have hlen := cpRow_len es i j hi
  have hzp : 0 < z := by omega
  generalize hn : min (es.length - j) (es.length - i) = n at *
  have hat := fun k (hk : k < es.length) => cpRow_at es i j hi hk
  rw [hn] at hat
  have hle : es.length * z ≤ (cap + 1) * z := Nat.mul_le_mul_right z hcap
  have key : ∀ (w' : World) (cur' : Array Value), w' = w.setRow blk cur' → cur'.size = cur.size →
      (∀ k q, k < es.length → q < z → cur'.getD (k * z + q) undef = cur.getD ((if k < i then k else if k < i + n then j + (k - i) else k) * z + q) undef) →
      (execOp a.eval o).run C.P w = .ok (.value (.int .i64 n)) w' → o.wp C.P a w K Q := by
    intro w' cur' hw' hsz hcells hrun
    subst hw'
    have hrel : Rel C T' (updF H' b (some (ABox.row e z ver (cpRow es i j)))) D g a (w.setRow blk cur') := by
      refine hr.setbox hb' hob (by simp only [ownBlk, hg0]; rfl) rfl rfl rfl (by simp) (Nat.le_refl _) (fun k hk => setRow_other w blk k _ hk) (fun hl => ?_)
      refine ⟨_, cur'.toList.take (es.length * z), hg0, g2, ⟨?_, .inr ⟨blk, cap, cur', by rw [hlen], setRow_heap w blk cur _ e (0, 0) h2, by omega, hc2, by omega, by rw [hlen]⟩⟩, fun v hv => ?_, fun k hk q hq => ?_⟩
      · have hq : cur'.toList.length = (cap + 1) * z := by rw [Array.length_toList, hsz, h5]
        rw [List.length_take, hlen, hq]
        omega
      · unfold cpRow at hv
        rcases List.mem_append.1 hv with hv | hv
        · exact h6 v (List.mem_of_mem_take hv)
        · rcases List.mem_append.1 hv with hv | hv
          · exact h6 v (List.mem_of_mem_drop (List.mem_of_mem_take hv))
          · exact h6 v (List.mem_of_mem_drop hv)
      · rw [hlen] at hk
        have hbd : k * z + q < es.length * z := by
          have := Nat.mul_le_mul_right z (show k + 1 ≤ es.length by omega)
          rw [Nat.succ_mul] at this; omega
        have e1 : (cur'.toList.take (es.length * z)).getD (k * z + q) undef = cur'.getD (k * z + q) undef := by
          rw [List.getD_eq_getElem?_getD, List.getElem?_take, if_pos hbd, Array.getElem?_toList, Array.getD_eq_getD_getElem?]
        rw [e1, hcells k q hk hq, hat k hk]
        by_cases c1 : k < i
        · rw [if_pos c1, if_pos c1]; exact (h7 k hk q hq).2.later hl (Ext.refl g)
        · rw [if_neg c1, if_neg c1]
          by_cases c2 : k < i + n
          · rw [if_pos c2, if_pos c2]; exact (h7 _ (by omega) q hq).2.later hl (Ext.refl g)
          · rw [if_neg c2, if_neg c2]; exact (h7 k hk q hq).2.later hl (Ext.refl g)
    exact wp_of_value hrun (hK _ _ g (hrel.dmono fun b hb => .inl hb) (.sc _))
  have hmin : Nat.min (es.length - j) (es.length - i) = n := hn
  by_cases hn0 : n = 0
  · refine key w cur (setRow_self w blk cur e (0, 0) h2).symm rfl (fun k q _ _ => ?_) ?_
    · congr 2
      split
      · rfl
      · rw [if_neg (by omega)]
    · have hld : ∀ a : Addr, (loadCells a 0).run C.P w = .ok #[] w := fun a => by
        have := run_loadCells (P := C.P) w a 0 (fun _ => undef) (fun k hk => by omega)
        simpa using this
      unfold execOp
      simp only [h, resolve, invoke, builtin, Sem.run_bind, Sem.run_pure, Result.andThen_ok, List.map_toArray, List.map_cons, List.map_nil, hv, hv2]
      subst hn0
      simp [Builtin.copy_, run_underlying k1, Builtin.lenOf, hmin, run_sizeOf' k2, k3, Builtin.firstCells, hld, storeCells, goInt]
  · have hi2 : i < es.length := by omega
    have hj2 : j < es.length := by omega
    have ho1 := ho1 (by omega)
    have ho2 := ho2 (by omega)
    subst ho1; subst ho2
    have hjn : (j + n) * z ≤ es.length * z := Nat.mul_le_mul_right z (by omega)
    have hin : (i + n) * z ≤ es.length * z := Nat.mul_le_mul_right z (by omega)
    rw [Nat.add_mul] at hjn hin
    let news : List Value := (List.range (n * z)).map fun k => cur.getD (j * z + k) undef
    have hnl : news.length = n * z := by simp [news]
    have hld : (loadCells ⟨blk, j * z, none⟩ (n * z)).run C.P w = .ok news.toArray w := by
      have := run_loadCells (P := C.P) w ⟨blk, j * z, none⟩ (n * z) (fun k => cur.getD (j * z + k) undef) (fun k hk => by
        rw [add_addr]
        have hlt : j * z + k < cur.size := by omega
        simp [World.cell?, h2, hlt, Array.getD])
      rw [this]
    have h1 : ∀ u ∈ news, u.oneCell' = true := by
      intro u hu
      obtain ⟨k, hk, rfl⟩ := List.mem_map.1 hu
      have hk := List.mem_range.1 hk
      have hdm := Nat.div_add_mod k z
      have hm := Nat.mod_lt k hzp
      have hd : k / z < n := Nat.div_lt_of_lt_mul (by rw [Nat.mul_comm]; exact hk)
      have e1 : j * z + k = (j + k / z) * z + k % z := by rw [Nat.add_mul, Nat.mul_comm (k / z)]; omega
      rw [e1]
      have hm2 : es.getD (j + k / z) .und ∈ es := getD_mem (by omega)
      refine (h7 (j + k / z) (by omega) (k % z) hm).2.oneCell (hone _ hm2 _ (getD_mem ?_))
      rw [h6 _ hm2]; exact hm
    have hst := run_storeCells_at (P := C.P) blk (i * z) e news 0 cur w h2 (by rw [hnl]; omega) h1
    rw [Nat.add_zero] at hst
    refine key _ ((cur.toList.take (i * z) ++ news ++ cur.toList.drop (i * z + news.length)).toArray) rfl ?_ ?_ ?_
    · simp only [List.size_toArray, List.length_append, List.length_take, List.length_drop, Array.length_toList, hnl]; omega
    · intro k q hk hq
      have hbd : k * z + q < es.length * z := by
        have := Nat.mul_le_mul_right z (show k + 1 ≤ es.length by omega)
        rw [Nat.succ_mul] at this; omega
      have htl : (cur.toList.take (i * z)).length = i * z := by rw [List.length_take, Array.length_toList]; omega
      rw [Array.getD_eq_getD_getElem?, Array.getD_eq_getD_getElem?]
      simp only [List.getElem?_toArray]
      rw [List.append_assoc]
      by_cases c1 : k < i
      · have : k * z + q < i * z := by
          have := Nat.mul_le_mul_right z (show k + 1 ≤ i by omega)
          rw [Nat.succ_mul] at this; omega
        rw [if_pos c1, List.getElem?_append_left (by omega), List.getElem?_take, if_pos this, Array.getElem?_toList]
      · have h3 : i * z ≤ k * z := Nat.mul_le_mul_right z (by omega)
        rw [if_neg c1, List.getElem?_append_right (by omega), htl]
        by_cases c2 : k < i + n
        · have h4 : k * z + q < i * z + n * z := by
            have := Nat.mul_le_mul_right z (show k + 1 ≤ i + n by omega)
            rw [Nat.succ_mul, Nat.add_mul] at this; omega
          rw [if_pos c2, List.getElem?_append_left (by omega)]
          have e1 : (j + (k - i)) * z + q = j * z + (k * z + q - i * z) := by
            rw [Nat.add_mul, Nat.sub_mul]; omega
          rw [e1]
          simp only [news, List.getElem?_map]
          rw [List.getElem?_range (by omega)]
          have hlt : j * z + (k * z + q - i * z) < cur.size := by omega
          simp [Array.getD, hlt]
        · have h4 : (i + n) * z ≤ k * z := Nat.mul_le_mul_right z (by omega)
          rw [Nat.add_mul] at h4
          rw [if_neg c2, List.getElem?_append_right (by omega), List.getElem?_drop, hnl, Array.getElem?_toList]
          congr 2; omega
    · obtain ⟨q, hq⟩ : ∃ q, n = q + 1 := ⟨n - 1, by omega⟩
      unfold execOp
      simp only [h, resolve, invoke, builtin, Sem.run_bind, Sem.run_pure, Result.andThen_ok, List.map_toArray, List.map_cons, List.map_nil, hv, hv2]
      simp [Builtin.copy_, run_underlying k1, Builtin.lenOf, hmin, run_sizeOf' k2, k3, Builtin.firstCells, hld, hst, goInt]
end
section
variable {P : Program} {T : Nat → AV} {H : Nat → Option ABox} {nx : Nat} {K : Res → Prop} {t t' e z by_ b ver : Nat} {ag : Bool}
theorem aext_copy {x y : Operand} {es : List AV} {i j : Nat} (he : elI P t = some (e, z, by_, ag)) (hc : (evO T x).cond = true) (hx : ev T x = .rs b ver z i) (hc' : (evO T y).cond = true) (hy : ev T y = .rs b ver z j) (hb : H b = some (.row e z ver es))
    (h0 : (∀ v ∈ es, ∀ c ∈ v.cells, c.one = true) ∧ i ≤ es.length ∧ j ≤ es.length ∧ 0 < es.length) (hK : K ⟨.i (min (es.length - j) (es.length - i) : Nat), [(b, .row e z ver (cpRow es i j))], 0, [b]⟩) : aext P (.call { callee := .builtin .copy, args := #[x, y], argTypes := #[t, t'] }) T H nx K :=
  ⟨_, hK, fun C o hP ho => by subst hP; exact opS_copy ho hc hx hc' hy hb he h0.1 h0.2.1 h0.2.2.1 h0.2.2.2⟩
end
end Go.AL
/-
  The abstract logic: a loop whose round is walked in parts; a block. Conditions: none.
-/
namespace Go.AL
open Go.RowKit
theorem tr_loopT {P : Program} {n : Nat} {X : Type} (ST : X → TT) (SH : X → HH) (N : Nat) (μ : X → Nat) (x0 : X) {body : Code} {T : TT} {H : HH} {nx : Nat} {Q : Exit → TT → HH → Nat → Prop}
    (hstart : Wk T H nx (ST x0) (SH x0) N)
    (round : ∀ x, Tr P n body (ST x) (SH x) N (nextQ (fun T' H' nx' => ∃ x', μ x' < μ x ∧ Wk T' H' nx' (ST x') (SH x') N) Q)) (hN : nx ≤ N) : Tr P n (.loop body) T H nx Q := by
  intro C g a w hP hn hr
  have hmN : C.m ≤ N := by
    rcases Nat.lt_or_ge N C.m with h | h
    · have := hr.old.gm N h
      omega
    · exact h
  obtain ⟨g0, hr0⟩ := hstart C g a w hmN hr
  have key : ∀ (m : Nat) (x : X) (g : Nat → List Value) (a : Act) (w : World), μ x = m → Rel C (lk (ST x)) (hk (SH x)) (fun c => c < N) g a w →
      ∀ (b : Frame) (k : List Item) (cs : List Frame), ∃ e a' w', (∃ T' H' nx' g', Q e T' H' nx' ∧ Rel C (lk T') (hk H') (fun c => c < nx') g' a' w') ∧
        Arrives P (lone (b.at a (.code body :: .inLoop body :: k)) cs w) b k cs e a' w' := by
    intro m
    induction m using Nat.strongRecOn with
    | _ m ih =>
      intro x g a w hx hr b k cs
      obtain ⟨e, a₁, w₁, ⟨T', H', nx', g', hq, hr'⟩, harr⟩ := round x C g a w hP hn hr b (.inLoop body :: k) cs
      cases e with
      | normal =>
        obtain ⟨x', hlt, hwk⟩ := hq
        obtain ⟨g'', hr''⟩ := hwk C g' a₁ w₁ hmN hr'
        obtain ⟨e₂, a₂, w₂, hq₂, harr₂⟩ := ih (μ x') (hx ▸ hlt) x' g'' a₁ w₁ rfl hr'' b k cs
        exact ⟨e₂, a₂, w₂, hq₂, .of_steps (Steps.trans harr (.one step_inLoop)) harr₂⟩
      | exit id => exact ⟨_, a₁, w₁, ⟨T', H', nx', g', hq, hr'⟩, .pass (x := .inLoop body) rfl (fun _ _ => .inl (by simp)) harr⟩
      | goto l => exact ⟨_, a₁, w₁, ⟨T', H', nx', g', hq, hr'⟩, .pass (x := .inLoop body) rfl (fun _ _ => .inl (by simp)) harr⟩
      | ret => exact ⟨_, a₁, w₁, ⟨T', H', nx', g', hq, hr'⟩, .pass (x := .inLoop body) rfl (fun _ _ => .inl (by simp)) harr⟩
      | panic ch => exact ⟨_, a₁, w₁, ⟨T', H', nx', g', hq, hr'⟩, .pass (x := .inLoop body) rfl (fun _ _ => .inl (by simp)) harr⟩
      | outgrown => exact ⟨_, a₁, w₁, ⟨T', H', nx', g', hq, hr'⟩, .pass (x := .inLoop body) rfl (fun _ _ => .inl (by simp)) harr⟩
  intro b k cs
  obtain ⟨e, a', w', hq, harr⟩ := key (μ x0) x0 g0 a w rfl hr0 b k cs
  exact ⟨e, a', w', hq, .of_steps (.one step_loop) harr⟩
theorem tr_lpT {P : Program} {n : Nat} {X : Type} (ks bs : List Nat) (ch : X → TT) (chH : X → HH) (μ : X → Nat) (x0 : X) {body : Code} {T : TT} {H : HH} {nx : Nat} {Q : Exit → TT → HH → Nat → Prop}
    (h0 : TWk T nx (ch x0 ++ selT T ks)) (h1 : HWk H nx (chH x0 ++ selH H bs))
    (round : ∀ x, Tr P n body (ch x ++ selT T ks) (chH x ++ selH H bs) nx (nextQ (fun T' H' nx' => ∃ x', μ x' < μ x ∧ Wk T' H' nx' (ch x' ++ selT T ks) (chH x' ++ selH H bs) nx) Q)) : Tr P n (.loop body) T H nx Q :=
  tr_loopT (fun x => ch x ++ selT T ks) (fun x => chH x ++ selH H bs) nx μ x0 (wk_go (Nat.le_refl _) h0 h1) round (Nat.le_refl _)
theorem tr_block {P : Program} {n : Nat} {id : Nat} {c : Code} {T : TT} {H : HH} {nx : Nat} {Q : Exit → TT → HH → Nat → Prop} (h : Tr P n c T H nx (QBlk id Q)) : Tr P n (.block id c) T H nx Q := fun C g a w hP hn hr => by
  refine wp_block (wp_mono (h C g a w hP hn hr) ?_)
  rintro e a' w' ⟨T', H', nx', g', hq, hr'⟩
  unfold QBlk at hq
  cases e with
  | exit id' =>
    simp only [inB] at hq
    unfold Exit.inBlock
    by_cases hid : id' = id
    · rw [if_pos hid] at hq; simp only [hid, if_true]; exact ⟨T', H', nx', g', hq, hr'⟩
    · rw [if_neg hid] at hq; simp only [hid, if_false]; exact ⟨T', H', nx', g', hq, hr'⟩
  | _ => exact ⟨T', H', nx', g', hq, hr'⟩
end Go.AL
