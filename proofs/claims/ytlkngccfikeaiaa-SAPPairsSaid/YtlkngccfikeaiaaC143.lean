/-
  Package bvh: attach. Conditions: none.
-/
import Derived.Test.YtlkngccfikeaiaaC142
import Derived.Outline
set_option linter.all false
namespace Go.Proofs.Ytlkngccfikeaiaa
open Go.RowKit Go.AL Go.Carom
theorem ZI.mono {nx m bt : Nat} {z : List Fr} {s : NT} (I : ZI nx bt z s) (h : nx ≤ m) : ZI m bt z s := ⟨I.nd, fun k hk => Nat.lt_of_lt_of_le (I.lt k hk) h, I.sz, I.hs, I.hz⟩
theorem Cls.upd {M : Nat → Option ABox} {bt bm : Nat} {z : List Fr} {s : NT} (h : Cls M bt bm s z) {wb : HH} (hd : ∀ b ∈ bt :: (s.nos ++ cns z), b ∉ wb.map (·.1)) : Cls (updL M wb) bt bm s z :=
  ⟨(updL_other _ _ _ (hd bt List.mem_cons_self)).trans h.ft, h.fs.upd (fun b hb => hd b (List.mem_cons_of_mem _ (List.mem_append_left _ (by rw [NT.hp_nos] at hb; exact hb)))), h.fz.upd (fun b hb => hd b (List.mem_cons_of_mem _ (List.mem_append_right _ (by rw [ctx_nos] at hb; exact hb))))⟩
theorem rp_z {nx bt bm b i : Nat} {e : En} {z : List Fr} {M : Nat → Option ABox} (q_bm : bm < nx) (q_i : i < nx) (hM : Cls M bt bm (.lf b e) z) (I : ZI nx bt z (.lf b e)) (hi : M i = some (ndB ⟨0, 0, 0, 0, 0⟩ (.sc (.pointer none)) (.sc (.pointer none)) (.sc (.pointer none)) 0)) (hin : i ∉ bt :: ((NT.lf b e).nos ++ cns z)) :
    ∃ wb rb, CallS Try.prog M nx 30 [.pt bt 0, .pt b 0, .pt i 0] ⟨.tup [], wb, 0, rb⟩ ∧ updL M wb bt = some (.var (.agg [.pt (rtZ z i) 0, .mp bm])) ∧ updL M wb b = some ((NT.lf b e).top (paZ z)) ∧ updL M wb i = some (ndB ⟨0, 0, 0, 0, 0⟩ (paZ z) (.sc (.pointer none)) (.sc (.pointer none)) 0) ∧ Held (updL M wb) (ctx z i) ∧
      ∀ k, k ≠ i → k ∉ bt :: ((NT.lf b e).nos ++ cns z) → updL M wb k = M k := by
  match z, hM, I, hin with
  | [], hM, I, hin => exact rp_0 q_bm q_i hM I hi hin
  | ⟨true, gb, eg, hg, s⟩ :: z3, hM, I, hin => exact rp_L q_bm q_i hM I hi hin
  | ⟨false, gb, eg, hg, s⟩ :: z3, hM, I, hin => exact rp_R q_bm q_i hM I hi hin
theorem ad_z {nx bt bm b i k : Nat} {e f : En} {z : List Fr} {M : Nat → Option ABox} (mt : M bt = some (.var (.agg [.pt (rtZ z i) 0, .mp bm]))) (mb : M b = some ((NT.lf b e).top (paZ z))) (mi : M i = some (ndB ⟨0, 0, 0, 0, 0⟩ (paZ z) (.sc (.pointer none)) (.sc (.pointer none)) 0)) (mz : Held M (ctx z i)) (mk : M k = some ((NT.lf k f).top (.sc (.pointer none))))
    (hnd : (bt :: i :: b :: k :: cns z).Nodup) (hlt : ∀ c ∈ bt :: i :: b :: k :: cns z, c < nx) :
    ∃ wb rb, CallS Try.prog M nx 31 [.pt i 0, .pt b 0, .pt k 0] ⟨.tup [], wb, 0, rb⟩ ∧ Cls (updL M wb) bt bm (NT.fr i (.lf b e) (.lf k f)) z := by
  have hnd' : ([[bt], [i], [b], [k], cns z] : List (List Nat)).flatten.Nodup := by simpa using hnd
  have D := List.pairwise_iff_getElem.1 (List.pairwise_flatten.1 hnd').2
  have q_b : b < nx := hlt _ (by simp)
  have q_i : i < nx := hlt _ (by simp)
  have q_k : k < nx := hlt _ (by simp)
  have Kz : ∀ c ∈ cns z, c < nx := fun c hc => hlt c (by simp [hc])
  have z_i_b : (i = b) = False := eq_false (D 1 2 (Nat.le_of_ble_eq_true rfl) (Nat.le_of_ble_eq_true rfl) (by decide) _ (List.mem_singleton.2 rfl) _ (List.mem_singleton.2 rfl))
  have z_i_k : (i = k) = False := eq_false (D 1 3 (Nat.le_of_ble_eq_true rfl) (Nat.le_of_ble_eq_true rfl) (by decide) _ (List.mem_singleton.2 rfl) _ (List.mem_singleton.2 rfl))
  have z_b_k : (b = k) = False := eq_false (D 2 3 (Nat.le_of_ble_eq_true rfl) (Nat.le_of_ble_eq_true rfl) (by decide) _ (List.mem_singleton.2 rfl) _ (List.mem_singleton.2 rfl))
  have z_b_i : (b = i) = False := eq_false (Ne.symm (D 1 2 (Nat.le_of_ble_eq_true rfl) (Nat.le_of_ble_eq_true rfl) (by decide) _ (List.mem_singleton.2 rfl) _ (List.mem_singleton.2 rfl)))
  have z_k_i : (k = i) = False := eq_false (Ne.symm (D 1 3 (Nat.le_of_ble_eq_true rfl) (Nat.le_of_ble_eq_true rfl) (by decide) _ (List.mem_singleton.2 rfl) _ (List.mem_singleton.2 rfl)))
  have z_k_b : (k = b) = False := eq_false (Ne.symm (D 2 3 (Nat.le_of_ble_eq_true rfl) (Nat.le_of_ble_eq_true rfl) (by decide) _ (List.mem_singleton.2 rfl) _ (List.mem_singleton.2 rfl)))
  have hC := @c_adop nx i b k ⟨0, 0, 0, 0, 0⟩ e f (paZ z) (.sc (.pointer none)) (.sc (.pointer none)) (paZ z) (.sc (.pointer none)) (.sc (.pointer none)) (.sc (.pointer none)) (.sc (.pointer none)) (.sc (.pointer none)) 0 1 1 0 e.id f.id q_i q_b q_k (of_eq_false z_i_b) (of_eq_false z_i_k) (of_eq_false z_b_k) (Lt.sc _) (Lt.sc _) (Lt.sc _) (pa_lt' Kz) (Lt.sc _) (pa_lt' Kz) (Lt.sc _) (Lt.sc _) (Lt.sc _) (by omega) (by omega)
  have hko : keysOk ([(i, .var (.agg [.i (uniE e f).x, .i (uniE e f).y, .i (uniE e f).u, .i (uniE e f).w, paZ z, .pt b 0, .pt k 0, .i (1 + imax 1 1), .i 0])), (b, (NT.lf b e).top (.pt i 0)), (k, (NT.lf k f).top (.pt i 0))] : HH) = true := by simp [keysOk, z_i_b, z_i_k, z_b_k]
  refine ⟨[(i, .var (.agg [.i (uniE e f).x, .i (uniE e f).y, .i (uniE e f).u, .i (uniE e f).w, paZ z, .pt b 0, .pt k 0, .i (1 + imax 1 1), .i 0])), (b, (NT.lf b e).top (.pt i 0)), (k, (NT.lf k f).top (.pt i 0))], [i, b, k], hC.congr (fun c hk' => ?_), ?_⟩
  · simp only [List.mem_cons, List.not_mem_nil, or_false] at hk'
    rcases hk' with rfl | rfl | rfl
    · exact mi.trans (by simp only [hk_cons, z_i_b, z_i_k, if_true, if_false]; rfl)
    · exact mb.trans (by simp only [hk_cons, z_b_k, z_b_i, if_true, if_false]; rfl)
    · exact mk.trans (by simp only [hk_cons, z_k_i, z_k_b, if_true, if_false]; rfl)
  · refine ⟨(updL_other _ _ _ (by simp only [List.map_cons, List.map_nil, List.mem_cons, List.not_mem_nil, or_false, not_or]; exact ⟨(D 0 1 (Nat.le_of_ble_eq_true rfl) (Nat.le_of_ble_eq_true rfl) (by decide) _ (List.mem_singleton.2 rfl) _ (List.mem_singleton.2 rfl)), (D 0 2 (Nat.le_of_ble_eq_true rfl) (Nat.le_of_ble_eq_true rfl) (by decide) _ (List.mem_singleton.2 rfl) _ (List.mem_singleton.2 rfl)), (D 0 3 (Nat.le_of_ble_eq_true rfl) (Nat.le_of_ble_eq_true rfl) (by decide) _ (List.mem_singleton.2 rfl) _ (List.mem_singleton.2 rfl))⟩)).trans mt, ?_, mz.upd (fun c hc => by
      rw [ctx_nos] at hc
      simp only [List.map_cons, List.map_nil, List.mem_cons, List.not_mem_nil, or_false, not_or]
      exact ⟨Ne.symm (D 1 4 (Nat.le_of_ble_eq_true rfl) (Nat.le_of_ble_eq_true rfl) (by decide) _ (List.mem_singleton.2 rfl) _ hc), Ne.symm (D 2 4 (Nat.le_of_ble_eq_true rfl) (Nat.le_of_ble_eq_true rfl) (by decide) _ (List.mem_singleton.2 rfl) _ hc), Ne.symm (D 3 4 (Nat.le_of_ble_eq_true rfl) (Nat.le_of_ble_eq_true rfl) (by decide) _ (List.mem_singleton.2 rfl) _ hc)⟩)⟩
    refine held_cons.2 ⟨upd_at hko (by simp only [hk_cons, if_true]; simp only [NT.top, ndB, NT.e, NT.h, NT.lc, NT.rc, NT.b, NT.uni_id]; try rfl), held_app.2 ⟨held_cons.2 ⟨upd_at hko (by simp only [hk_cons, z_b_i, if_true, if_false]; try rfl), held_nil⟩, held_cons.2 ⟨upd_at hko (by simp only [hk_cons, z_k_i, z_k_b, if_true, if_false]; try rfl), held_nil⟩⟩⟩
theorem rb_z {nx bt bm : Nat} {z : List Fr} {s : NT} {M : Nat → Option ABox} (q_bm : bm < nx) (I : ZI nx bt z s) (hM : Cls M bt bm s z) :
    ∃ wb rb, CallS Try.prog M nx 32 [.pt bt 0, paZ z] ⟨.tup [], wb, 0, rb⟩ ∧ Cls (updL M wb) bt bm (upZ z s) [] := by
  refine ⟨_, _, (c_rebal q_bm z s I).congr (fun c hc => ?_), ?_⟩
  · obtain ⟨p, hp, rfl⟩ := List.mem_map.1 hc
    rw [big_cls hM p hp, held_hk (L := bigH bt bm z s) (by rw [big_keys]; exact I.nd) p hp]
  · have hU := I.up
    have hko : keysOk (bigH bt bm [] (upZ z s)) = true := keys_nodup (by rw [big_keys, show cns [] = [] from rfl, List.append_nil]; exact hU.1)
    have hH : Held (updL M (bigH bt bm [] (upZ z s))) (bigH bt bm [] (upZ z s)) := fun p hp => upd_at hko (held_hk (L := bigH bt bm [] (upZ z s)) (by rw [big_keys, show cns [] = [] from rfl, List.append_nil]; exact hU.1) p hp)
    obtain ⟨h1, h2⟩ := held_cons.1 hH
    obtain ⟨h3, h4⟩ := held_app.1 h2
    exact ⟨h1, h3, h4⟩
theorem hsub_held {H wb : HH} (h : Held (hk H) wb) : AL.HSub H wb := fun c x hx => h (c, x) (hk_mem wb c x hx)
set_option maxRecDepth 20000 in
set_option maxHeartbeats 8000000 in
theorem c_att0 {nx : Nat} {bt k : Nat} (bm : Nat) (q_bm : bm < nx) (f : En) (id : Int) (q_bt : bt < nx) (q_k : k < nx) (d_bt_k : bt ≠ k)   : CallS Try.prog (hk [(bt, .var (.agg [.sc (.pointer none), .mp bm])), (k, .var (.agg [.i f.x, .i f.y, .i f.u, .i f.w, .sc (.pointer none), .sc (.pointer none), .sc (.pointer none), .i 1, .i id]))]) nx 15 [.pt bt 0, .pt k 0] ⟨.tup [], [(bt, .var (.agg [.pt k 0, .mp bm])), (k, .var (.agg [.i f.x, .i f.y, .i f.u, .i f.w, .sc (.pointer none), .sc (.pointer none), .sc (.pointer none), .i 1, .i id]))], 0, [bt, k]⟩ := by
  have z_bt_k : (bt = k) = False := eq_false d_bt_k
  have z_k_bt : (k = bt) = False := eq_false (Ne.symm d_bt_k)
  clear d_bt_k
  refine calls_go (.tup []) [(bt, .var (.agg [.pt k 0, .mp bm])), (k, .var (.agg [.i f.x, .i f.y, .i f.u, .i f.w, .sc (.pointer none), .sc (.pointer none), .sc (.pointer none), .i 1, .i id]))] 0 hm Try.func15 rfl (by kernel_rfl) Try.ntmps15 Try.results15 rfl ?_ ?_ ?_ ?_ ?_ ?_ ?_
  · exact Lts.cons (Lt.pt _ _ q_bt) (Lts.cons (Lt.pt _ _ q_k) (Lts.nil))
  · exact HBs.cons q_bt (BOk.var (lt_agg (lt_cons (Lt.sc _) (lt_cons (Lt.mp _ q_bm) (lt_nil))))) (HBs.cons q_k (BOk.var (lt_agg (lt_cons (lt_i _ _) (lt_cons (lt_i _ _) (lt_cons (lt_i _ _) (lt_cons (lt_i _ _) (lt_cons (Lt.sc _) (lt_cons (Lt.sc _) (lt_cons (Lt.sc _) (lt_cons (lt_i _ _) (lt_cons (lt_i _ _) (lt_nil)))))))))))) (HBs.nil))
  · exact lt_tup lt_nil
  · exact HBs.cons q_bt (BOk.var (lt_agg (lt_cons (Lt.pt _ _ q_k) (lt_cons (Lt.mp _ q_bm) (lt_nil))))) (HBs.cons q_k (BOk.var (lt_agg (lt_cons (lt_i _ _) (lt_cons (lt_i _ _) (lt_cons (lt_i _ _) (lt_cons (lt_i _ _) (lt_cons (Lt.sc _) (lt_cons (Lt.sc _) (lt_cons (Lt.sc _) (lt_cons (lt_i _ _) (lt_cons (lt_i _ _) (lt_nil)))))))))))) (HBs.nil))
  · simp [keysOk, z_bt_k]
  · intro p hp
    simp only [List.mem_cons, List.not_mem_nil, or_false] at hp
    rcases hp with rfl | rfl <;> simp
  have m0 : maxLen = 9223372036854775807 := rfl
  refine tr_ac hm ?_
  repeat' (first | simp only [go_sem, ↓reduceIte, Nat.reduceLT, Nat.reduceEqDiff, Nat.reduceAdd, Nat.reduceLeDiff, reduceCtorEq, z_k_bt, Nat.add_zero] | refine aext_pnn rfl rfl rfl rfl (by decide) ?_)
  all_goals (try exact HSub.cons (by simp only [hk_cons, z_bt_k, if_true, if_false] <;> rfl) (HSub.cons (by simp only [hk_cons, z_k_bt, if_true, if_false] <;> rfl) (HSub.nil)))
  all_goals (try rfl)
set_option maxRecDepth 20000 in
set_option maxHeartbeats 8000000 in
theorem c_att {nx bt bm k : Nat} {f : En} {t : NT} (q_bm : bm < nx) (q_k : k < nx) (I : ZI nx bt [] t) (hk0 : k ∉ bt :: t.nos) (hsz : t.nos.length ≤ 190) : CallS Try.prog (hk ((k, (NT.lf k f).top (.sc (.pointer none))) :: bigH bt bm [] t)) nx 15 [.pt bt 0, .pt k 0] ⟨.tup [], bigH bt bm [] (NT.ins nx k f t), 1, ((k, (NT.lf k f).top (.sc (.pointer none))) :: bigH bt bm [] t).map (·.1)⟩ := by
  have q_bt := I.lt bt List.mem_cons_self
  have htn : ∀ c ∈ t.nos, c < nx := fun c hc => I.lt c (List.mem_cons_of_mem _ (List.mem_append_left _ hc))
  have hsm := (NT.ins_sm nx k f t).1
  have hbtn : bt ∉ t.nos := by have := I.nd; rw [show cns [] = [] from rfl, List.append_nil, List.nodup_cons] at this; exact this.1
  have htnd : t.nos.Nodup := by have := I.nd; rw [show cns [] = [] from rfl, List.append_nil, List.nodup_cons] at this; exact this.2
  have hlt2 : ∀ c ∈ bt :: (NT.ins nx k f t).nos, c < nx + 1 := fun c hc => by
    rcases List.mem_cons.1 hc with rfl | hc
    · omega
    · have := hsm.mem_iff.1 hc
      rcases List.mem_cons.1 this with rfl | h
      · omega
      · rcases List.mem_cons.1 h with rfl | h
        · omega
        · have := htn c h; omega
  have hkey : (bigH bt bm [] t).map (·.1) = bt :: t.nos := by rw [big_keys, show cns [] = [] from rfl, List.append_nil]
  have hkey2 : (bigH bt bm [] (NT.ins nx k f t)).map (·.1) = bt :: (NT.ins nx k f t).nos := by rw [big_keys, show cns [] = [] from rfl, List.append_nil]
  have hnd2 : (bt :: (NT.ins nx k f t).nos).Nodup := by
    have hp : (bt :: (NT.ins nx k f t).nos).Perm (bt :: nx :: k :: t.nos) := hsm.cons bt
    refine hp.nodup_iff.2 ?_
    simp only [List.nodup_cons, List.mem_cons, not_or] at hk0 ⊢
    exact ⟨⟨by omega, Ne.symm hk0.1, hbtn⟩, ⟨by omega, fun h => by have := htn _ h; omega⟩, hk0.2, htnd⟩
  have hHb0 : HBs nx ((k, (NT.lf k f).top (.sc (.pointer none))) :: bigH bt bm [] t) := .cons q_k (lt_ndB (Lt.sc _) (Lt.sc _) (Lt.sc _)) (I.hbs q_bm)
  refine calls_go (.tup []) (bigH bt bm [] (NT.ins nx k f t)) 1 hm Try.func15 rfl (by kernel_rfl) Try.ntmps15 Try.results15 rfl ?_ ?_ ?_ ?_ ?_ ?_ ?_
  · exact Lts.cons (Lt.pt _ _ q_bt) (Lts.cons (Lt.pt _ _ q_k) Lts.nil)
  · exact hHb0
  · exact lt_tup lt_nil
  · exact .cons (by omega) (.var (lt_agg (lt_cons (Lt.pt _ _ (hlt2 _ (List.mem_cons_of_mem _ (nos_top _)))) (lt_cons (Lt.mp _ (by omega)) lt_nil)))) (hbs_app (hbs_hp _ (fun c hc => hlt2 c (List.mem_cons_of_mem _ hc)) (Lt.sc _)) .nil)
  · exact keys_nodup (by rw [hkey2]; exact hnd2)
  · intro p hp
    rw [hkey2]
    rcases List.mem_cons.1 hp with rfl | hp
    · exact List.mem_cons_of_mem _ (hsm.mem_iff.2 (by simp))
    · have h1 : p.1 ∈ (bigH bt bm [] t).map (·.1) := List.mem_map.2 ⟨p, hp, rfl⟩
      rw [hkey] at h1
      rcases List.mem_cons.1 h1 with h | h
      · rw [h]; exact List.mem_cons_self
      · exact List.mem_cons_of_mem _ (hsm.mem_iff.2 (by simp [h]))
  have m0 : maxLen = 9223372036854775807 := rfl
  have hHnd : (((k, (NT.lf k f).top (.sc (.pointer none))) :: bigH bt bm [] t).map (·.1)).Nodup := by
    rw [List.map_cons, hkey]
    refine List.nodup_cons.2 ⟨hk0, ?_⟩
    exact List.nodup_cons.2 ⟨hbtn, htnd⟩
  have hHh := held_hk hHnd
  obtain ⟨hkk, hHt⟩ := held_cons.1 hHh
  obtain ⟨hbt, hHt'⟩ := held_cons.1 (show Held _ ((bt, _) :: (t.hp (paZ []) ++ ctx [] t.b)) from hHt)
  have hM0 : Cls (hk ((k, (NT.lf k f).top (.sc (.pointer none))) :: bigH bt bm [] t)) bt bm t [] := ⟨hbt, (held_app.1 hHt').1, held_nil⟩
  have hHb := hHb0
  generalize (k, (NT.lf k f).top (.sc (.pointer none))) :: bigH bt bm [] t = Hh at *
  unfold NT.top ndB at hkk
  simp only [NT.e, NT.h, NT.lc, NT.rc] at hkk
  dsimp only [rtZ] at hbt
  refine tr_ac hm ?_
  repeat' (first | simp only [go_sem, ↓reduceIte, Nat.reduceLT, Nat.reduceAdd, Nat.reduceLeDiff, reduceCtorEq, hbt, Nat.add_zero] | refine aext_ppn rfl (.pt _ _) rfl rfl (by decide) ?_)
  refine tr_loop hm (fun x' : {x : List Fr × NT // Cls (hk Hh) bt bm x.2 x.1 ∧ ZI nx bt x.1 x.2 ∧ upZ x.1 (NT.ins nx k f x.2) = NT.ins nx k f t ∧ (∀ c, c ∈ bt :: (x.2.nos ++ cns x.1) ↔ c ∈ bt :: t.nos)} => [(4, .pt x'.1.2.b 0), (0, .pt bt 0), (1, .pt k 0)]) (fun _ => Hh) nx (fun x' => x'.1.2.nos.length) ⟨([], t), hM0, I, rfl, fun c => by rw [show cns [] = [] from rfl, List.append_nil]⟩ (wk_go (by omega) ?_ (hwk_held hHh hHb)) ?_ (by omega)
  · repeat' (first | exact tw_nil | refine tw_cons rfl ?_ ?_)
    all_goals (try rfl)
    all_goals (try exact Lt.pt _ _ (by assumption))
    all_goals (try exact Lt.pt _ _ (htn _ (nos_top t)))
  · rintro ⟨⟨z, s⟩, hM, I, he, hmem⟩
    dsimp only at hM I he hmem
    have hs := (held_hp.1 hM.fs).1
    have hsn : ∀ c ∈ s.nos, c < nx := fun c hc => I.lt c (List.mem_cons_of_mem _ (List.mem_append_left _ hc))
    have hzn : ∀ c ∈ cns z, c < nx := fun c hc => I.lt c (List.mem_cons_of_mem _ (List.mem_append_right _ hc))
    have hL := cr_leaf hs hsn (pa_lt' hzn)
    cases s with
    | nd b e h l r =>
      have q_b : b < nx := hsn b List.mem_cons_self
      have q_l : l.b < nx := hsn _ (List.mem_cons_of_mem _ (List.mem_append_left _ (nos_top l)))
      have q_r : r.b < nx := hsn _ (List.mem_cons_of_mem _ (List.mem_append_right _ (nos_top r)))
      obtain ⟨_, hch⟩ := held_hp.1 hM.fs
      obtain ⟨hl, hr⟩ := held_app.1 (show Held _ (l.hp (.pt b 0) ++ r.hp (.pt b 0)) from hch)
      have hcl := cr_cost f (held_hp.1 hl).1 (fun c hc => hsn c (List.mem_cons_of_mem _ (List.mem_append_left _ hc))) (Lt.pt _ _ q_b)
      have hcr := cr_cost f (held_hp.1 hr).1 (fun c hc => hsn c (List.mem_cons_of_mem _ (List.mem_append_right _ hc))) (Lt.pt _ _ q_b)
      unfold NT.top ndB at hs
      simp only [NT.e, NT.h, NT.lc, NT.rc, NT.b] at hs hL
      have hnb : (NT.nd b e h l r).b = b := rfl
      have hkb : k ∉ bt :: ((NT.nd b e h l r).nos ++ cns z) := fun hc => hk0 ((hmem k).1 hc)
      have hnd4 : [b, k, l.b, r.b].Nodup := by
        have h1 : (NT.nd b e h l r).nos.Nodup := (List.nodup_append.1 (List.nodup_cons.1 I.nd).2).1
        simp only [NT.nos, NT.nos_eq l, NT.nos_eq r, List.nodup_cons, List.mem_cons, List.mem_append, not_or, List.nodup_append, List.cons_append] at h1 hkb ⊢
        grind
      by_cases hc : costE l.e f ≤ costE r.e f
      · have d1 : (costE l.e f ≤ costE r.e f) = True := eq_true hc
        repeat' (first | simp only [go_sem, ↓reduceIte, Nat.reduceLT, Nat.reduceEqDiff, Nat.reduceAdd, Nat.reduceLeDiff, reduceCtorEq, hnb, hs, hkk, d1, Nat.add_zero] | refine cst_cs hL ?_ | refine cst_cs hcl ?_ | refine cst_cs hcr ?_ | (refine regOk_ns [b, k, l.b, r.b] hnd4 [([], []), ([], []), ([], []), ([0], []), ([], []), ([], []), ([], []), ([1], []), ([2], []), ([], []), ([], []), ([], []), ([0], []), ([], []), ([], []), ([], []), ([1], []), ([3], []), ([], [])] rfl rfl ?_; kernel_rfl) | refine And.intro ?_ ?_)
        refine ⟨⟨(⟨true, b, e, h, r⟩ :: z, l), cls_l hM, zi_l I, ?_, ?_⟩, ?_, wk_go (by omega) ?_ (hwk_held hHh hHb)⟩
        · rw [← he]
          show upZ z (Fr.bal ⟨true, b, e, h, r⟩ (NT.ins nx k f l)) = upZ z (NT.ins nx k f (.nd b e h l r))
          congr 1
          exact (if_pos hc).symm
        · intro c
          rw [← hmem c]
          simp only [NT.nos, cns, List.mem_cons, List.mem_append]
          grind
        · show l.nos.length < (NT.nd b e h l r).nos.length
          simp only [NT.nos, List.length_cons, List.length_append]
          omega
        · repeat' (first | exact tw_nil | refine tw_cons rfl ?_ ?_)
          all_goals (try rfl)
          all_goals (try exact Lt.pt _ _ (by assumption))
      · have d1 : (costE l.e f ≤ costE r.e f) = False := eq_false hc
        repeat' (first | simp only [go_sem, ↓reduceIte, Nat.reduceLT, Nat.reduceEqDiff, Nat.reduceAdd, Nat.reduceLeDiff, reduceCtorEq, hnb, hs, hkk, d1, Nat.add_zero] | refine cst_cs hL ?_ | refine cst_cs hcl ?_ | refine cst_cs hcr ?_ | (refine regOk_ns [b, k, l.b, r.b] hnd4 [([], []), ([], []), ([], []), ([0], []), ([], []), ([], []), ([], []), ([1], []), ([2], []), ([], []), ([], []), ([], []), ([0], []), ([], []), ([], []), ([], []), ([1], []), ([3], []), ([], [])] rfl rfl ?_; kernel_rfl) | refine And.intro ?_ ?_)
        refine ⟨⟨(⟨false, b, e, h, l⟩ :: z, r), cls_r hM, zi_r I, ?_, ?_⟩, ?_, wk_go (by omega) ?_ (hwk_held hHh hHb)⟩
        · rw [← he]
          show upZ z (Fr.bal ⟨false, b, e, h, l⟩ (NT.ins nx k f r)) = upZ z (NT.ins nx k f (.nd b e h l r))
          congr 1
          exact (if_neg hc).symm
        · intro c
          rw [← hmem c]
          simp only [NT.nos, cns, List.mem_cons, List.mem_append]
          grind
        · show r.nos.length < (NT.nd b e h l r).nos.length
          simp only [NT.nos, List.length_cons, List.length_append]
          omega
        · repeat' (first | exact tw_nil | refine tw_cons rfl ?_ ?_)
          all_goals (try rfl)
          all_goals (try exact Lt.pt _ _ (by assumption))
    | lf b e =>
      simp only [NT.b] at hL
      have hnb : (NT.lf b e).b = b := rfl
      have q_b : b < nx := hsn b List.mem_cons_self
      have hkb : k ∉ bt :: ((NT.lf b e).nos ++ cns z) := fun hc => hk0 ((hmem k).1 hc)
      have hin : nx ∉ bt :: ((NT.lf b e).nos ++ cns z) := fun hc => by have := I.lt nx hc; omega
      have hM1 : Cls (hk (hput Hh nx (.var (.agg [.i 0, .i 0, .i 0, .i 0, .sc (.pointer none), .sc (.pointer none), .sc (.pointer none), .i 0, .i 0])))) bt bm (.lf b e) z := by
        rw [hk_hput]
        exact hM.upd (wb := [(nx, .var (.agg [.i 0, .i 0, .i 0, .i 0, .sc (.pointer none), .sc (.pointer none), .sc (.pointer none), .i 0, .i 0]))]) (fun c hc hc' => by
          have h1 := I.lt c hc
          have h2 : c = nx := List.mem_singleton.1 hc'
          omega)
      have hi1 : hk (hput Hh nx (.var (.agg [.i 0, .i 0, .i 0, .i 0, .sc (.pointer none), .sc (.pointer none), .sc (.pointer none), .i 0, .i 0]))) nx = some (.var (.agg [.i 0, .i 0, .i 0, .i 0, .sc (.pointer none), .sc (.pointer none), .sc (.pointer none), .i 0, .i 0])) := by rw [hk_hput]; exact updF_same _ _ _
      have hkk1 : hk (hput Hh nx (.var (.agg [.i 0, .i 0, .i 0, .i 0, .sc (.pointer none), .sc (.pointer none), .sc (.pointer none), .i 0, .i 0]))) k = some ((NT.lf k f).top (.sc (.pointer none))) := by rw [hk_hput, updF_other (by omega)]; exact hkk
      generalize hH1 : hput Hh nx (.var (.agg [.i 0, .i 0, .i 0, .i 0, .sc (.pointer none), .sc (.pointer none), .sc (.pointer none), .i 0, .i 0])) = H1 at *
      obtain ⟨wb1, rb1, hC1, r1, r2, r3, r4, r5⟩ := rp_z (nx := nx + 1) (by omega) (Nat.lt_succ_self nx) hM1 (ZI.mono I (Nat.le_succ nx)) hi1 hin
      have hkk2 := (r5 k (by omega) hkb).trans hkk1
      have hlt4 : ∀ c ∈ bt :: nx :: b :: k :: cns z, c < nx + 1 := fun c hc => by
        simp only [List.mem_cons] at hc
        rcases hc with rfl | rfl | rfl | rfl | hc
        · omega
        · omega
        · omega
        · omega
        · have := hzn c hc; omega
      have hnd5 : (bt :: nx :: b :: k :: cns z).Nodup := by
        have h1 := I.nd
        simp only [NT.nos, List.singleton_append, List.nodup_cons, List.mem_cons, not_or] at h1 hkb hin ⊢
        grind
      obtain ⟨wb2, rb2, hC2, hN2⟩ := ad_z (nx := nx + 1) r1 r2 r3 r4 hkk2 hnd5 hlt4
      have I3 : ZI (nx + 1) bt z (NT.fr nx (.lf b e) (.lf k f)) := by
        have hp : (bt :: ((NT.fr nx (.lf b e) (.lf k f)).nos ++ cns z)).Perm (bt :: nx :: b :: k :: cns z) := List.Perm.refl _
        refine ⟨hp.nodup_iff.2 hnd5, fun c hc => hlt4 c (hp.mem_iff.1 hc), ?_, fr_hok trivial trivial, I.hz⟩
        have h1 := hsz
        have h2 : ((NT.lf b e).nos ++ cns z).length ≤ t.nos.length := by
          have h3 : ((NT.lf b e).nos ++ cns z).Nodup := (List.nodup_cons.1 I.nd).2
          refine h3.length_le_of_subset ?_
          intro c hc
          have h4 := (hmem c).1 (List.mem_cons_of_mem _ hc)
          rcases List.mem_cons.1 h4 with h5 | h5
          · exact absurd (h5 ▸ hc) (List.nodup_cons.1 I.nd).1
          · exact h5
        show (nx :: ([b] ++ [k]) ++ cns z).length ≤ 200
        have h6 : ((NT.lf b e).nos ++ cns z).length = (cns z).length + 1 := by simp [NT.nos]
        simp only [List.length_cons, List.length_append, List.length_nil]
        omega
      obtain ⟨wb3, rb3, hC3, hN3⟩ := rb_z (nx := nx + 1) (by omega) I3 hN2
      have htop := (held_hp.1 hN2.fs).1
      unfold NT.top ndB at htop
      rw [show upZ z (NT.fr nx (.lf b e) (.lf k f)) = NT.ins nx k f t from he] at hN3
      rw [← hk_hputs] at hC2 htop hC3 hN3
      rw [← hk_hputs] at htop hC3 hN3
      rw [← hk_hputs] at hN3
      have hnf : (NT.fr nx (.lf b e) (.lf k f)).b = nx := rfl
      rw [hnf] at htop
      have hpg : AV.get (paZ z) = paZ z := by cases z <;> rfl
      have hpc : AV.cond (paZ z) = true := by cases z <;> rfl
      simp only [AV.get] at hpg
      simp only [AV.cond] at hpc
      repeat' (first | simp only [go_sem, ↓reduceIte, Nat.reduceLT, Nat.reduceEqDiff, Nat.reduceAdd, Nat.reduceLeDiff, reduceCtorEq, hnb, hH1, htop, hpg, hpc, Nat.add_zero] | refine cst_cs hL ?_ | refine cst_cs hC1 ?_ | refine cst_cs hC2 ?_ | refine cst_cs hC3 ?_)
      all_goals (try exact hsub_held (big_cls hN3))
      trace_state
end Go.Proofs.Ytlkngccfikeaiaa
