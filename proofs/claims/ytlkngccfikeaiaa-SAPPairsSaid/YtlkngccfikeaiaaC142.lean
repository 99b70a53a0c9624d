/-
  Package bvh: the parts of attach. Conditions: none.
-/
import Derived.Test.YtlkngccfikeaiaaC141
import Derived.Outline
set_option linter.all false
namespace Go.Proofs.Ytlkngccfikeaiaa
open Go.RowKit Go.AL Go.Carom
theorem updL_self : ∀ (wb : HH) (M : Nat → Option ABox), (∀ p ∈ wb, M p.1 = some p.2) → updL M wb = M
  | [], _, _ => rfl
  | (b, x) :: r, M, h => by
    have h1 : updF M b (some x) = M := by
      funext c
      by_cases hc : c = b
      · subst hc; rw [updF_same]; exact (h (c, x) List.mem_cons_self).symm
      · exact updF_other hc
    show updL (updF M b (some x)) r = M
    rw [h1]
    exact updL_self r M fun p hp => h p (List.mem_cons_of_mem _ hp)
theorem calls_ro {P : Program} {M : Nat → Option ABox} {nx f n : Nat} {vs : List AV} {v : AV} {wb : HH} {rb : List Nat} (h : CallS P M nx f vs ⟨v, wb, n, rb⟩) (hw : ∀ p ∈ wb, p.1 ∈ rb ∧ M p.1 = some p.2) : CallS P M nx f vs ⟨v, [], n, rb⟩ := by
  refine ⟨h.1, fun C T' H' D g a w hP hr hH hn us hus => ?_⟩
  have e : updL H' wb = H' := updL_self wb H' fun p hp => (hH p.1 (hw p hp).1).trans (hw p hp).2
  have h1 := h.2 C T' H' D g a w hP hr hH hn us hus
  dsimp only at h1
  rw [e] at h1
  exact h1
theorem congr1 {P : Program} {M : Nat → Option ABox} {nx f n b : Nat} {x : ABox} {vs : List AV} {v : AV} (h : CallS P (hk [(b, x)]) nx f vs ⟨v, [(b, x)], n, [b]⟩) (hM : M b = some x) : CallS P M nx f vs ⟨v, [], n, [b]⟩ := by
  refine calls_ro (h.congr (by intro c hc; rw [List.mem_singleton.1 hc, hM, hk_self])) fun p hp => ?_
  rw [List.mem_singleton.1 hp]
  exact ⟨List.mem_cons_self, hM⟩
theorem cr_leaf {nx : Nat} {M : Nat → Option ABox} {s : NT} {pa : AV} (hM : M s.b = some (s.top pa)) (q : ∀ k ∈ s.nos, k < nx) (hpa : Lt nx pa) : CallS Try.prog M nx 28 [.pt s.b 0] ⟨.b (match s with | .lf _ _ => true | .nd _ _ _ _ _ => false), [], 0, [s.b]⟩ := by
  cases s with
  | lf b e => exact congr1 (@c_leafQ nx b e pa (.sc (.pointer none)) 1 e.id (q b List.mem_cons_self) hpa (Lt.sc _)) hM
  | nd b e h l r =>
    have hl : l.b < nx := q _ (List.mem_cons_of_mem _ (List.mem_append_left _ (nos_top l)))
    have hr : r.b < nx := q _ (List.mem_cons_of_mem _ (List.mem_append_right _ (nos_top r)))
    exact congr1 (@c_leafP nx b e pa (.pt r.b 0) l.b hl h e.id (q b List.mem_cons_self) hpa (Lt.pt _ _ hr)) hM
theorem kns_nos {s : NT} {n : Nat} (q : ∀ k ∈ s.nos, k < n) : ∀ k ∈ s.kns, k < n := fun k hk => q k (by rw [NT.nos_eq]; exact List.mem_cons_of_mem _ hk)
theorem cr_cost {nx : Nat} {M : Nat → Option ABox} {s : NT} {pa : AV} (f : En) (hM : M s.b = some (s.top pa)) (q : ∀ k ∈ s.nos, k < nx) (hpa : Lt nx pa) : CallS Try.prog M nx 29 [.pt s.b 0, .agg [.i f.x, .i f.y, .i f.u, .i f.w]] ⟨.i (costE s.e f), [], 0, [s.b]⟩ :=
  congr1 (@c_cost nx s.b s.e f pa s.lc s.rc s.h s.e.id (q _ (nos_top s)) (lc_lt (kns_nos q)) hpa (rc_lt (kns_nos q))) hM
theorem cls_l {M : Nat → Option ABox} {bt bm b : Nat} {e : En} {h : Int} {l r : NT} {z : List Fr} (hM : Cls M bt bm (.nd b e h l r) z) : Cls M bt bm l (⟨true, b, e, h, r⟩ :: z) := by
  obtain ⟨h1, h2⟩ := held_cons.1 (show Held M ((b, _) :: (l.hp (.pt b 0) ++ r.hp (.pt b 0))) from hM.fs)
  obtain ⟨h3, h4⟩ := held_app.1 h2
  exact ⟨hM.ft, h3, held_cons.2 ⟨h1, held_app.2 ⟨h4, hM.fz⟩⟩⟩
theorem zi_l {nx bt b : Nat} {e : En} {h : Int} {l r : NT} {z : List Fr} (I : ZI nx bt z (.nd b e h l r)) : ZI nx bt (⟨true, b, e, h, r⟩ :: z) l := by
  obtain ⟨i1, i2, i3, i4⟩ := I.hs
  have hp : (bt :: (l.nos ++ (b :: (r.nos ++ cns z)))).Perm (bt :: ((b :: (l.nos ++ r.nos)) ++ cns z)) := by
    refine List.Perm.cons bt (List.perm_middle.trans (List.Perm.cons b ?_))
    rw [← List.append_assoc]
    exact List.Perm.refl _
  refine ⟨hp.nodup_iff.2 I.nd, fun k hk => I.lt k (hp.mem_iff.1 hk), ?_, i3, fun f hf => ?_⟩
  · have h1 := hp.length_eq
    have h2 : ((b :: (l.nos ++ r.nos)) ++ cns z).length ≤ 200 := I.sz
    rw [List.length_cons, List.length_cons] at h1
    show (l.nos ++ (b :: (r.nos ++ cns z))).length ≤ 200
    omega
  · rcases List.mem_cons.1 hf with rfl | hf
    · exact ⟨i1, i4⟩
    · exact I.hz f hf
theorem cls_r {M : Nat → Option ABox} {bt bm b : Nat} {e : En} {h : Int} {l r : NT} {z : List Fr} (hM : Cls M bt bm (.nd b e h l r) z) : Cls M bt bm r (⟨false, b, e, h, l⟩ :: z) := by
  obtain ⟨h1, h2⟩ := held_cons.1 (show Held M ((b, _) :: (l.hp (.pt b 0) ++ r.hp (.pt b 0))) from hM.fs)
  obtain ⟨h3, h4⟩ := held_app.1 h2
  exact ⟨hM.ft, h4, held_cons.2 ⟨h1, held_app.2 ⟨h3, hM.fz⟩⟩⟩
theorem zi_r {nx bt b : Nat} {e : En} {h : Int} {l r : NT} {z : List Fr} (I : ZI nx bt z (.nd b e h l r)) : ZI nx bt (⟨false, b, e, h, l⟩ :: z) r := by
  obtain ⟨i1, i2, i3, i4⟩ := I.hs
  have hp : (bt :: (r.nos ++ (b :: (l.nos ++ cns z)))).Perm (bt :: ((b :: (l.nos ++ r.nos)) ++ cns z)) := by
    refine List.Perm.cons bt (List.perm_middle.trans (List.Perm.cons b ?_))
    rw [← List.append_assoc]
    exact List.Perm.append_right _ List.perm_append_comm
  refine ⟨hp.nodup_iff.2 I.nd, fun k hk => I.lt k (hp.mem_iff.1 hk), ?_, i4, fun f hf => ?_⟩
  · have h1 := hp.length_eq
    have h2 : ((b :: (l.nos ++ r.nos)) ++ cns z).length ≤ 200 := I.sz
    rw [List.length_cons, List.length_cons] at h1
    show (r.nos ++ (b :: (l.nos ++ cns z))).length ≤ 200
    omega
  · rcases List.mem_cons.1 hf with rfl | hf
    · exact ⟨i1, i3⟩
    · exact I.hz f hf
theorem rp_0 {nx bt bm b i : Nat} {e : En} {M : Nat → Option ABox} (q_bm : bm < nx) (q_i : i < nx) (hM : Cls M bt bm (.lf b e) []) (I : ZI nx bt [] (.lf b e)) (hi : M i = some (ndB ⟨0, 0, 0, 0, 0⟩ (.sc (.pointer none)) (.sc (.pointer none)) (.sc (.pointer none)) 0)) (hin : i ∉ bt :: ((NT.lf b e).nos ++ cns [])) :
    ∃ wb rb, CallS Try.prog M nx 30 [.pt bt 0, .pt b 0, .pt i 0] ⟨.tup [], wb, 0, rb⟩ ∧ updL M wb bt = some (.var (.agg [.pt (rtZ [] i) 0, .mp bm])) ∧ updL M wb b = some ((NT.lf b e).top (paZ [])) ∧ updL M wb i = some (ndB ⟨0, 0, 0, 0, 0⟩ (paZ []) (.sc (.pointer none)) (.sc (.pointer none)) 0) ∧ Held (updL M wb) (ctx [] i) ∧
      ∀ k, k ≠ i → k ∉ bt :: ((NT.lf b e).nos ++ cns []) → updL M wb k = M k := by
  have e0 : ([[bt], [b], [i]] : List (List Nat)).flatten.Perm (i :: bt :: ((NT.lf b e).nos ++ cns [])) := by
    refine List.Perm.trans (List.Perm.of_eq (by simp [cns] : _ = bt :: b :: i :: cns [])) ?_
    exact ((List.Perm.swap i b _).cons bt).trans (List.Perm.swap i bt _)
  have hnd : ([[bt], [b], [i]] : List (List Nat)).flatten.Nodup := e0.nodup_iff.2 (List.nodup_cons.2 ⟨hin, I.nd⟩)
  have D := List.pairwise_iff_getElem.1 (List.pairwise_flatten.1 hnd).2
  have L : ∀ k ∈ ([[bt], [b], [i]] : List (List Nat)).flatten, k < nx := fun k hk => by
    rcases List.mem_cons.1 (e0.mem_iff.1 hk) with rfl | h
    · exact q_i
    · exact I.lt k h
  clear hnd e0
  have q_bt : bt < nx := L _ (by simp)
  have q_b : b < nx := L _ (by simp)
  have z_bt_b : (bt = b) = False := eq_false (D 0 1 (Nat.le_of_ble_eq_true rfl) (Nat.le_of_ble_eq_true rfl) (by decide) _ (List.mem_singleton.2 rfl) _ (List.mem_singleton.2 rfl))
  have z_bt_i : (bt = i) = False := eq_false (D 0 2 (Nat.le_of_ble_eq_true rfl) (Nat.le_of_ble_eq_true rfl) (by decide) _ (List.mem_singleton.2 rfl) _ (List.mem_singleton.2 rfl))
  have z_b_bt : (b = bt) = False := eq_false (Ne.symm (D 0 1 (Nat.le_of_ble_eq_true rfl) (Nat.le_of_ble_eq_true rfl) (by decide) _ (List.mem_singleton.2 rfl) _ (List.mem_singleton.2 rfl)))
  have z_b_i : (b = i) = False := eq_false (D 1 2 (Nat.le_of_ble_eq_true rfl) (Nat.le_of_ble_eq_true rfl) (by decide) _ (List.mem_singleton.2 rfl) _ (List.mem_singleton.2 rfl))
  have z_i_bt : (i = bt) = False := eq_false (Ne.symm (D 0 2 (Nat.le_of_ble_eq_true rfl) (Nat.le_of_ble_eq_true rfl) (by decide) _ (List.mem_singleton.2 rfl) _ (List.mem_singleton.2 rfl)))
  have z_i_b : (i = b) = False := eq_false (Ne.symm (D 1 2 (Nat.le_of_ble_eq_true rfl) (Nat.le_of_ble_eq_true rfl) (by decide) _ (List.mem_singleton.2 rfl) _ (List.mem_singleton.2 rfl)))
  have mb := (held_hp.1 hM.fs).1
  have hC := @c_rep0 nx bt b i bm q_bm (.pt b 0) e ⟨0, 0, 0, 0, 0⟩ (.sc (.pointer none)) (.sc (.pointer none)) (.sc (.pointer none)) (.sc (.pointer none)) (.sc (.pointer none)) 1 e.id 0 0 q_bt q_b q_i (of_eq_false z_bt_b) (of_eq_false z_bt_i) (of_eq_false z_b_i) (Lt.sc _) (Lt.sc _) (Lt.sc _) (Lt.sc _) (Lt.sc _) (Lt.pt _ _ q_b)
  have hko : keysOk ([(bt, .var (.agg [.pt i 0, .mp bm])), (b, (NT.lf b e).top (.sc (.pointer none))), (i, ndB ⟨0, 0, 0, 0, 0⟩ (.sc (.pointer none)) (.sc (.pointer none)) (.sc (.pointer none)) 0)] : HH) = true := by simp [keysOk, z_bt_b, z_bt_i, z_b_i]
  refine ⟨[(bt, .var (.agg [.pt i 0, .mp bm])), (b, (NT.lf b e).top (.sc (.pointer none))), (i, ndB ⟨0, 0, 0, 0, 0⟩ (.sc (.pointer none)) (.sc (.pointer none)) (.sc (.pointer none)) 0)], [bt, b, i], hC.congr (fun k hk' => ?_), ?_, ?_, ?_, ?_, ?_⟩
  · simp only [List.mem_cons, List.not_mem_nil, or_false] at hk'
    rcases hk' with rfl | rfl | rfl
    · refine hM.ft.trans ?_
      simp only [hk_cons, z_bt_b, z_bt_i, if_true, if_false]
      try rfl
    · refine mb.trans ?_
      simp only [hk_cons, z_b_bt, z_b_i, if_true, if_false]
      try rfl
    · refine hi.trans ?_
      simp only [hk_cons, z_i_bt, z_i_b, if_true, if_false]
      try rfl
  · exact upd_at hko (by simp only [hk_cons, z_bt_b, z_bt_i, if_true, if_false]; try rfl)
  · exact upd_at hko (by simp only [hk_cons, z_b_bt, z_b_i, if_true, if_false]; try rfl)
  · exact upd_at hko (by simp only [hk_cons, z_i_bt, z_i_b, if_true, if_false]; try rfl)
  · exact held_nil
  · intro k hki hk'
    refine updL_other _ _ _ ?_
    simp only [List.map_cons, List.map_nil, List.mem_cons, List.not_mem_nil, or_false, not_or]
    simp only [NT.nos, cns, List.mem_cons, List.mem_append, List.not_mem_nil, or_false, not_or] at hk'
    simp [hk', hki]
theorem rp_L {nx bt bm b i : Nat} {e : En} {gb : Nat} {eg : En} {hg : Int} {s : NT} {z3 : List Fr} {M : Nat → Option ABox} (q_bm : bm < nx) (q_i : i < nx) (hM : Cls M bt bm (.lf b e) (⟨true, gb, eg, hg, s⟩ :: z3)) (I : ZI nx bt (⟨true, gb, eg, hg, s⟩ :: z3) (.lf b e)) (hi : M i = some (ndB ⟨0, 0, 0, 0, 0⟩ (.sc (.pointer none)) (.sc (.pointer none)) (.sc (.pointer none)) 0)) (hin : i ∉ bt :: ((NT.lf b e).nos ++ cns (⟨true, gb, eg, hg, s⟩ :: z3))) :
    ∃ wb rb, CallS Try.prog M nx 30 [.pt bt 0, .pt b 0, .pt i 0] ⟨.tup [], wb, 0, rb⟩ ∧ updL M wb bt = some (.var (.agg [.pt (rtZ (⟨true, gb, eg, hg, s⟩ :: z3) i) 0, .mp bm])) ∧ updL M wb b = some ((NT.lf b e).top (paZ (⟨true, gb, eg, hg, s⟩ :: z3))) ∧ updL M wb i = some (ndB ⟨0, 0, 0, 0, 0⟩ (paZ (⟨true, gb, eg, hg, s⟩ :: z3)) (.sc (.pointer none)) (.sc (.pointer none)) 0) ∧ Held (updL M wb) (ctx (⟨true, gb, eg, hg, s⟩ :: z3) i) ∧
      ∀ k, k ≠ i → k ∉ bt :: ((NT.lf b e).nos ++ cns (⟨true, gb, eg, hg, s⟩ :: z3)) → updL M wb k = M k := by
  have e0 : ([[bt], [b], [i], [gb], [s.b], s.kns, cns z3] : List (List Nat)).flatten.Perm (i :: bt :: ((NT.lf b e).nos ++ cns (⟨true, gb, eg, hg, s⟩ :: z3))) := by
    refine List.Perm.trans (List.Perm.of_eq (by simp [NT.nos_eq, cns] : _ = bt :: b :: i :: cns (⟨true, gb, eg, hg, s⟩ :: z3))) ?_
    exact ((List.Perm.swap i b _).cons bt).trans (List.Perm.swap i bt _)
  have hnd : ([[bt], [b], [i], [gb], [s.b], s.kns, cns z3] : List (List Nat)).flatten.Nodup := e0.nodup_iff.2 (List.nodup_cons.2 ⟨hin, I.nd⟩)
  have D := List.pairwise_iff_getElem.1 (List.pairwise_flatten.1 hnd).2
  have L : ∀ k ∈ ([[bt], [b], [i], [gb], [s.b], s.kns, cns z3] : List (List Nat)).flatten, k < nx := fun k hk => by
    rcases List.mem_cons.1 (e0.mem_iff.1 hk) with rfl | h
    · exact q_i
    · exact I.lt k h
  clear hnd e0
  have q_bt : bt < nx := L _ (by simp)
  have q_b : b < nx := L _ (by simp)
  have q_g : gb < nx := L _ (by simp)
  have q_s : s.b < nx := L _ (by simp)
  have Ks : ∀ k ∈ s.kns, k < nx := fun k hk => L k (by simp [hk])
  have Kz : ∀ k ∈ cns z3, k < nx := fun k hk => L k (by simp [hk])
  have z_b_i : (b = i) = False := eq_false (D 1 2 (Nat.le_of_ble_eq_true rfl) (Nat.le_of_ble_eq_true rfl) (by decide) _ (List.mem_singleton.2 rfl) _ (List.mem_singleton.2 rfl))
  have z_b_g : (b = gb) = False := eq_false (D 1 3 (Nat.le_of_ble_eq_true rfl) (Nat.le_of_ble_eq_true rfl) (by decide) _ (List.mem_singleton.2 rfl) _ (List.mem_singleton.2 rfl))
  have z_i_b : (i = b) = False := eq_false (Ne.symm (D 1 2 (Nat.le_of_ble_eq_true rfl) (Nat.le_of_ble_eq_true rfl) (by decide) _ (List.mem_singleton.2 rfl) _ (List.mem_singleton.2 rfl)))
  have z_i_g : (i = gb) = False := eq_false (D 2 3 (Nat.le_of_ble_eq_true rfl) (Nat.le_of_ble_eq_true rfl) (by decide) _ (List.mem_singleton.2 rfl) _ (List.mem_singleton.2 rfl))
  have z_g_b : (gb = b) = False := eq_false (Ne.symm (D 1 3 (Nat.le_of_ble_eq_true rfl) (Nat.le_of_ble_eq_true rfl) (by decide) _ (List.mem_singleton.2 rfl) _ (List.mem_singleton.2 rfl)))
  have z_g_i : (gb = i) = False := eq_false (Ne.symm (D 2 3 (Nat.le_of_ble_eq_true rfl) (Nat.le_of_ble_eq_true rfl) (by decide) _ (List.mem_singleton.2 rfl) _ (List.mem_singleton.2 rfl)))
  have mb := (held_hp.1 hM.fs).1
  obtain ⟨mg, mz⟩ := held_cons.1 (show Held M ((gb, _) :: (s.hp (.pt gb 0) ++ ctx z3 gb)) from hM.fz)
  obtain ⟨msh, mz3⟩ := held_app.1 mz
  have hC := @c_repL nx b i gb bt q_bt e ⟨0, 0, 0, 0, 0⟩ eg (.sc (.pointer none)) (.sc (.pointer none)) (.sc (.pointer none)) (.sc (.pointer none)) (.sc (.pointer none)) (paZ z3) (.pt s.b 0) 1 e.id 0 0 hg eg.id q_b q_i q_g (of_eq_false z_b_i) (of_eq_false z_b_g) (of_eq_false z_i_g) (Lt.sc _) (Lt.sc _) (Lt.sc _) (pa_lt' Kz) (Lt.sc _) (Lt.sc _) (Lt.pt _ _ q_s)
  have hko : keysOk ([(b, (NT.lf b e).top (.pt gb 0)), (i, ndB ⟨0, 0, 0, 0, 0⟩ (.pt gb 0) (.sc (.pointer none)) (.sc (.pointer none)) 0), (gb, ndB eg (paZ z3) (.pt i 0) (.pt s.b 0) hg)] : HH) = true := by simp [keysOk, z_b_i, z_b_g, z_i_g]
  refine ⟨[(b, (NT.lf b e).top (.pt gb 0)), (i, ndB ⟨0, 0, 0, 0, 0⟩ (.pt gb 0) (.sc (.pointer none)) (.sc (.pointer none)) 0), (gb, ndB eg (paZ z3) (.pt i 0) (.pt s.b 0) hg)], [b, i, gb], hC.congr (fun k hk' => ?_), ?_, ?_, ?_, ?_, ?_⟩
  · simp only [List.mem_cons, List.not_mem_nil, or_false] at hk'
    rcases hk' with rfl | rfl | rfl
    · refine mb.trans ?_
      simp only [hk_cons, z_b_i, z_b_g, if_true, if_false]
      try rfl
    · refine hi.trans ?_
      simp only [hk_cons, z_i_b, z_i_g, if_true, if_false]
      try rfl
    · refine mg.trans ?_
      simp only [hk_cons, z_g_b, z_g_i, if_true, if_false]
      try rfl
  · exact (updL_other _ _ _ (by simp only [List.map_cons, List.map_nil, List.mem_cons, List.not_mem_nil, or_false, not_or]; exact ⟨(D 0 1 (Nat.le_of_ble_eq_true rfl) (Nat.le_of_ble_eq_true rfl) (by decide) _ (List.mem_singleton.2 rfl) _ (List.mem_singleton.2 rfl)), (D 0 2 (Nat.le_of_ble_eq_true rfl) (Nat.le_of_ble_eq_true rfl) (by decide) _ (List.mem_singleton.2 rfl) _ (List.mem_singleton.2 rfl)), (D 0 3 (Nat.le_of_ble_eq_true rfl) (Nat.le_of_ble_eq_true rfl) (by decide) _ (List.mem_singleton.2 rfl) _ (List.mem_singleton.2 rfl))⟩)).trans hM.ft
  · exact upd_at hko (by simp only [hk_cons, z_b_i, z_b_g, if_true, if_false]; try rfl)
  · exact upd_at hko (by simp only [hk_cons, z_i_b, z_i_g, if_true, if_false]; try rfl)
  · have us := msh.upd (wb := [(b, (NT.lf b e).top (.pt gb 0)), (i, ndB ⟨0, 0, 0, 0, 0⟩ (.pt gb 0) (.sc (.pointer none)) (.sc (.pointer none)) 0), (gb, ndB eg (paZ z3) (.pt i 0) (.pt s.b 0) hg)]) (fun c hc' => by
      rw [NT.hp_nos, NT.nos_eq, List.mem_cons] at hc'
      simp only [List.map_cons, List.map_nil, List.mem_cons, List.not_mem_nil, or_false, not_or]
      rcases hc' with rfl | hc'
      · exact ⟨(Ne.symm (D 1 4 (Nat.le_of_ble_eq_true rfl) (Nat.le_of_ble_eq_true rfl) (by decide) _ (List.mem_singleton.2 rfl) _ (List.mem_singleton.2 rfl))), (Ne.symm (D 2 4 (Nat.le_of_ble_eq_true rfl) (Nat.le_of_ble_eq_true rfl) (by decide) _ (List.mem_singleton.2 rfl) _ (List.mem_singleton.2 rfl))), (Ne.symm (D 3 4 (Nat.le_of_ble_eq_true rfl) (Nat.le_of_ble_eq_true rfl) (by decide) _ (List.mem_singleton.2 rfl) _ (List.mem_singleton.2 rfl)))⟩
      · exact ⟨(Ne.symm (D 1 5 (Nat.le_of_ble_eq_true rfl) (Nat.le_of_ble_eq_true rfl) (by decide) _ (List.mem_singleton.2 rfl) _ hc')), (Ne.symm (D 2 5 (Nat.le_of_ble_eq_true rfl) (Nat.le_of_ble_eq_true rfl) (by decide) _ (List.mem_singleton.2 rfl) _ hc')), (Ne.symm (D 3 5 (Nat.le_of_ble_eq_true rfl) (Nat.le_of_ble_eq_true rfl) (by decide) _ (List.mem_singleton.2 rfl) _ hc'))⟩)
    exact held_cons.2 ⟨upd_at hko (by simp only [hk_cons, z_g_b, z_g_i, if_true, if_false]; try rfl), held_app.2 ⟨us, mz3.upd (fun c hc' => by
      rw [ctx_nos] at hc'
      simp only [List.map_cons, List.map_nil, List.mem_cons, List.not_mem_nil, or_false, not_or]
      exact ⟨(Ne.symm (D 1 6 (Nat.le_of_ble_eq_true rfl) (Nat.le_of_ble_eq_true rfl) (by decide) _ (List.mem_singleton.2 rfl) _ hc')), (Ne.symm (D 2 6 (Nat.le_of_ble_eq_true rfl) (Nat.le_of_ble_eq_true rfl) (by decide) _ (List.mem_singleton.2 rfl) _ hc')), (Ne.symm (D 3 6 (Nat.le_of_ble_eq_true rfl) (Nat.le_of_ble_eq_true rfl) (by decide) _ (List.mem_singleton.2 rfl) _ hc'))⟩)⟩⟩
  · intro k hki hk'
    refine updL_other _ _ _ ?_
    simp only [List.map_cons, List.map_nil, List.mem_cons, List.not_mem_nil, or_false, not_or]
    simp only [NT.nos, cns, NT.nos_eq, List.mem_cons, List.mem_append, List.not_mem_nil, or_false, not_or] at hk'
    simp [hk', hki]
theorem rp_R {nx bt bm b i : Nat} {e : En} {gb : Nat} {eg : En} {hg : Int} {s : NT} {z3 : List Fr} {M : Nat → Option ABox} (q_bm : bm < nx) (q_i : i < nx) (hM : Cls M bt bm (.lf b e) (⟨false, gb, eg, hg, s⟩ :: z3)) (I : ZI nx bt (⟨false, gb, eg, hg, s⟩ :: z3) (.lf b e)) (hi : M i = some (ndB ⟨0, 0, 0, 0, 0⟩ (.sc (.pointer none)) (.sc (.pointer none)) (.sc (.pointer none)) 0)) (hin : i ∉ bt :: ((NT.lf b e).nos ++ cns (⟨false, gb, eg, hg, s⟩ :: z3))) :
    ∃ wb rb, CallS Try.prog M nx 30 [.pt bt 0, .pt b 0, .pt i 0] ⟨.tup [], wb, 0, rb⟩ ∧ updL M wb bt = some (.var (.agg [.pt (rtZ (⟨false, gb, eg, hg, s⟩ :: z3) i) 0, .mp bm])) ∧ updL M wb b = some ((NT.lf b e).top (paZ (⟨false, gb, eg, hg, s⟩ :: z3))) ∧ updL M wb i = some (ndB ⟨0, 0, 0, 0, 0⟩ (paZ (⟨false, gb, eg, hg, s⟩ :: z3)) (.sc (.pointer none)) (.sc (.pointer none)) 0) ∧ Held (updL M wb) (ctx (⟨false, gb, eg, hg, s⟩ :: z3) i) ∧
      ∀ k, k ≠ i → k ∉ bt :: ((NT.lf b e).nos ++ cns (⟨false, gb, eg, hg, s⟩ :: z3)) → updL M wb k = M k := by
  have e0 : ([[bt], [b], [i], [gb], [s.b], s.kns, cns z3] : List (List Nat)).flatten.Perm (i :: bt :: ((NT.lf b e).nos ++ cns (⟨false, gb, eg, hg, s⟩ :: z3))) := by
    refine List.Perm.trans (List.Perm.of_eq (by simp [NT.nos_eq, cns] : _ = bt :: b :: i :: cns (⟨false, gb, eg, hg, s⟩ :: z3))) ?_
    exact ((List.Perm.swap i b _).cons bt).trans (List.Perm.swap i bt _)
  have hnd : ([[bt], [b], [i], [gb], [s.b], s.kns, cns z3] : List (List Nat)).flatten.Nodup := e0.nodup_iff.2 (List.nodup_cons.2 ⟨hin, I.nd⟩)
  have D := List.pairwise_iff_getElem.1 (List.pairwise_flatten.1 hnd).2
  have L : ∀ k ∈ ([[bt], [b], [i], [gb], [s.b], s.kns, cns z3] : List (List Nat)).flatten, k < nx := fun k hk => by
    rcases List.mem_cons.1 (e0.mem_iff.1 hk) with rfl | h
    · exact q_i
    · exact I.lt k h
  clear hnd e0
  have q_bt : bt < nx := L _ (by simp)
  have q_b : b < nx := L _ (by simp)
  have q_g : gb < nx := L _ (by simp)
  have q_s : s.b < nx := L _ (by simp)
  have Ks : ∀ k ∈ s.kns, k < nx := fun k hk => L k (by simp [hk])
  have Kz : ∀ k ∈ cns z3, k < nx := fun k hk => L k (by simp [hk])
  have z_b_i : (b = i) = False := eq_false (D 1 2 (Nat.le_of_ble_eq_true rfl) (Nat.le_of_ble_eq_true rfl) (by decide) _ (List.mem_singleton.2 rfl) _ (List.mem_singleton.2 rfl))
  have z_b_g : (b = gb) = False := eq_false (D 1 3 (Nat.le_of_ble_eq_true rfl) (Nat.le_of_ble_eq_true rfl) (by decide) _ (List.mem_singleton.2 rfl) _ (List.mem_singleton.2 rfl))
  have z_b_s : (b = s.b) = False := eq_false (D 1 4 (Nat.le_of_ble_eq_true rfl) (Nat.le_of_ble_eq_true rfl) (by decide) _ (List.mem_singleton.2 rfl) _ (List.mem_singleton.2 rfl))
  have z_i_b : (i = b) = False := eq_false (Ne.symm (D 1 2 (Nat.le_of_ble_eq_true rfl) (Nat.le_of_ble_eq_true rfl) (by decide) _ (List.mem_singleton.2 rfl) _ (List.mem_singleton.2 rfl)))
  have z_i_g : (i = gb) = False := eq_false (D 2 3 (Nat.le_of_ble_eq_true rfl) (Nat.le_of_ble_eq_true rfl) (by decide) _ (List.mem_singleton.2 rfl) _ (List.mem_singleton.2 rfl))
  have z_i_s : (i = s.b) = False := eq_false (D 2 4 (Nat.le_of_ble_eq_true rfl) (Nat.le_of_ble_eq_true rfl) (by decide) _ (List.mem_singleton.2 rfl) _ (List.mem_singleton.2 rfl))
  have z_g_b : (gb = b) = False := eq_false (Ne.symm (D 1 3 (Nat.le_of_ble_eq_true rfl) (Nat.le_of_ble_eq_true rfl) (by decide) _ (List.mem_singleton.2 rfl) _ (List.mem_singleton.2 rfl)))
  have z_g_i : (gb = i) = False := eq_false (Ne.symm (D 2 3 (Nat.le_of_ble_eq_true rfl) (Nat.le_of_ble_eq_true rfl) (by decide) _ (List.mem_singleton.2 rfl) _ (List.mem_singleton.2 rfl)))
  have z_g_s : (gb = s.b) = False := eq_false (D 3 4 (Nat.le_of_ble_eq_true rfl) (Nat.le_of_ble_eq_true rfl) (by decide) _ (List.mem_singleton.2 rfl) _ (List.mem_singleton.2 rfl))
  have z_s_b : (s.b = b) = False := eq_false (Ne.symm (D 1 4 (Nat.le_of_ble_eq_true rfl) (Nat.le_of_ble_eq_true rfl) (by decide) _ (List.mem_singleton.2 rfl) _ (List.mem_singleton.2 rfl)))
  have z_s_i : (s.b = i) = False := eq_false (Ne.symm (D 2 4 (Nat.le_of_ble_eq_true rfl) (Nat.le_of_ble_eq_true rfl) (by decide) _ (List.mem_singleton.2 rfl) _ (List.mem_singleton.2 rfl)))
  have z_s_g : (s.b = gb) = False := eq_false (Ne.symm (D 3 4 (Nat.le_of_ble_eq_true rfl) (Nat.le_of_ble_eq_true rfl) (by decide) _ (List.mem_singleton.2 rfl) _ (List.mem_singleton.2 rfl)))
  have mb := (held_hp.1 hM.fs).1
  obtain ⟨mg, mz⟩ := held_cons.1 (show Held M ((gb, _) :: (s.hp (.pt gb 0) ++ ctx z3 gb)) from hM.fz)
  obtain ⟨msh, mz3⟩ := held_app.1 mz
  obtain ⟨ms, msk⟩ := held_hp.1 msh
  have hC := @c_repR nx b i gb s.b bt q_bt e ⟨0, 0, 0, 0, 0⟩ eg s.e (.sc (.pointer none)) (.sc (.pointer none)) (.sc (.pointer none)) (.sc (.pointer none)) (.sc (.pointer none)) (paZ z3) (.pt gb 0) s.lc s.rc 1 e.id 0 0 hg eg.id s.h s.e.id q_b q_i q_g q_s (of_eq_false z_b_i) (of_eq_false z_b_g) (of_eq_false z_b_s) (of_eq_false z_i_g) (of_eq_false z_i_s) (of_eq_false z_g_s) (Lt.sc _) (Lt.sc _) (lc_lt Ks) (Lt.sc _) (Lt.pt _ _ q_g) (pa_lt' Kz) (Lt.sc _) (Lt.sc _) (rc_lt Ks)
  have hko : keysOk ([(b, (NT.lf b e).top (.pt gb 0)), (i, ndB ⟨0, 0, 0, 0, 0⟩ (.pt gb 0) (.sc (.pointer none)) (.sc (.pointer none)) 0), (gb, ndB eg (paZ z3) (.pt s.b 0) (.pt i 0) hg), (s.b, s.top (.pt gb 0))] : HH) = true := by simp [keysOk, z_b_i, z_b_g, z_b_s, z_i_g, z_i_s, z_g_s]
  refine ⟨[(b, (NT.lf b e).top (.pt gb 0)), (i, ndB ⟨0, 0, 0, 0, 0⟩ (.pt gb 0) (.sc (.pointer none)) (.sc (.pointer none)) 0), (gb, ndB eg (paZ z3) (.pt s.b 0) (.pt i 0) hg), (s.b, s.top (.pt gb 0))], [b, i, gb, s.b], hC.congr (fun k hk' => ?_), ?_, ?_, ?_, ?_, ?_⟩
  · simp only [List.mem_cons, List.not_mem_nil, or_false] at hk'
    rcases hk' with rfl | rfl | rfl | rfl
    · refine mb.trans ?_
      simp only [hk_cons, z_b_i, z_b_g, z_b_s, if_true, if_false]
      try rfl
    · refine hi.trans ?_
      simp only [hk_cons, z_i_b, z_i_g, z_i_s, if_true, if_false]
      try rfl
    · refine mg.trans ?_
      simp only [hk_cons, z_g_b, z_g_i, z_g_s, if_true, if_false]
      try rfl
    · refine ms.trans ?_
      simp only [hk_cons, z_s_b, z_s_i, z_s_g, if_true, if_false]
      try rfl
  · exact (updL_other _ _ _ (by simp only [List.map_cons, List.map_nil, List.mem_cons, List.not_mem_nil, or_false, not_or]; exact ⟨(D 0 1 (Nat.le_of_ble_eq_true rfl) (Nat.le_of_ble_eq_true rfl) (by decide) _ (List.mem_singleton.2 rfl) _ (List.mem_singleton.2 rfl)), (D 0 2 (Nat.le_of_ble_eq_true rfl) (Nat.le_of_ble_eq_true rfl) (by decide) _ (List.mem_singleton.2 rfl) _ (List.mem_singleton.2 rfl)), (D 0 3 (Nat.le_of_ble_eq_true rfl) (Nat.le_of_ble_eq_true rfl) (by decide) _ (List.mem_singleton.2 rfl) _ (List.mem_singleton.2 rfl)), (D 0 4 (Nat.le_of_ble_eq_true rfl) (Nat.le_of_ble_eq_true rfl) (by decide) _ (List.mem_singleton.2 rfl) _ (List.mem_singleton.2 rfl))⟩)).trans hM.ft
  · exact upd_at hko (by simp only [hk_cons, z_b_i, z_b_g, z_b_s, if_true, if_false]; try rfl)
  · exact upd_at hko (by simp only [hk_cons, z_i_b, z_i_g, z_i_s, if_true, if_false]; try rfl)
  · exact held_cons.2 ⟨upd_at hko (by simp only [hk_cons, z_g_b, z_g_i, z_g_s, if_true, if_false]; try rfl), held_app.2 ⟨held_hp.2 ⟨upd_at hko (by simp only [hk_cons, z_s_b, z_s_i, z_s_g, if_true, if_false]; try rfl), msk.upd (fun c hc' => by
      rw [show (s.kids.map (·.1)) = s.kns from rfl] at hc'
      simp only [List.map_cons, List.map_nil, List.mem_cons, List.not_mem_nil, or_false, not_or]
      exact ⟨(Ne.symm (D 1 5 (Nat.le_of_ble_eq_true rfl) (Nat.le_of_ble_eq_true rfl) (by decide) _ (List.mem_singleton.2 rfl) _ hc')), (Ne.symm (D 2 5 (Nat.le_of_ble_eq_true rfl) (Nat.le_of_ble_eq_true rfl) (by decide) _ (List.mem_singleton.2 rfl) _ hc')), (Ne.symm (D 3 5 (Nat.le_of_ble_eq_true rfl) (Nat.le_of_ble_eq_true rfl) (by decide) _ (List.mem_singleton.2 rfl) _ hc')), (Ne.symm (D 4 5 (Nat.le_of_ble_eq_true rfl) (Nat.le_of_ble_eq_true rfl) (by decide) _ (List.mem_singleton.2 rfl) _ hc'))⟩)⟩, mz3.upd (fun c hc' => by
      rw [ctx_nos] at hc'
      simp only [List.map_cons, List.map_nil, List.mem_cons, List.not_mem_nil, or_false, not_or]
      exact ⟨(Ne.symm (D 1 6 (Nat.le_of_ble_eq_true rfl) (Nat.le_of_ble_eq_true rfl) (by decide) _ (List.mem_singleton.2 rfl) _ hc')), (Ne.symm (D 2 6 (Nat.le_of_ble_eq_true rfl) (Nat.le_of_ble_eq_true rfl) (by decide) _ (List.mem_singleton.2 rfl) _ hc')), (Ne.symm (D 3 6 (Nat.le_of_ble_eq_true rfl) (Nat.le_of_ble_eq_true rfl) (by decide) _ (List.mem_singleton.2 rfl) _ hc')), (Ne.symm (D 4 6 (Nat.le_of_ble_eq_true rfl) (Nat.le_of_ble_eq_true rfl) (by decide) _ (List.mem_singleton.2 rfl) _ hc'))⟩)⟩⟩
  · intro k hki hk'
    refine updL_other _ _ _ ?_
    simp only [List.map_cons, List.map_nil, List.mem_cons, List.not_mem_nil, or_false, not_or]
    simp only [NT.nos, cns, NT.nos_eq, List.mem_cons, List.mem_append, List.not_mem_nil, or_false, not_or] at hk'
    simp [hk', hki]
end Go.Proofs.Ytlkngccfikeaiaa
