/-
  Package bvh: what rotate does to a tree in memory. Conditions: none.
-/
import Derived.Test.YtlkngccfikeaiaaC138
import Derived.Test.YtlkngccfikeaiaaMF
import Derived.Outline
set_option linter.all false
namespace Go.Proofs.Ytlkngccfikeaiaa
open Go.RowKit Go.AL Go.Carom
structure Opn (nx : Nat) (M : Nat → Option ABox) (bt bm n : Nat) (e : En) (h : Int) (l r : NT) (z : List Fr) : Prop where
  ft : M bt = some (.var (.agg [.pt (rtZ z n) 0, .mp bm]))
  fn : M n = some (ndB e (paZ z) (.pt l.b 0) (.pt r.b 0) h)
  fl : Held M (l.hp (.pt n 0))
  fr : Held M (r.hp (.pt n 0))
  fz : Held M (ctx z n)
  fd : (bt :: n :: (l.nos ++ (r.nos ++ cns z))).Nodup
  flt : ∀ k ∈ (bt :: n :: (l.nos ++ (r.nos ++ cns z))), k < nx
structure Cls (M : Nat → Option ABox) (bt bm : Nat) (s : NT) (z : List Fr) : Prop where
  ft : M bt = some (.var (.agg [.pt (rtZ z s.b) 0, .mp bm]))
  fs : Held M (s.hp (paZ z))
  fz : Held M (ctx z s.b)
theorem lc_lt {nx : Nat} {t : NT} (h : ∀ k ∈ t.kns, k < nx) : Lt nx t.lc := by
  cases t with
  | lf b e => exact Lt.sc _
  | nd b e g l r => exact Lt.pt _ _ (h _ (by show l.b ∈ (l.hp (.pt b 0) ++ r.hp (.pt b 0)).map (·.1); rw [List.map_append, NT.hp_nos, NT.nos_eq]; simp))
theorem rc_lt {nx : Nat} {t : NT} (h : ∀ k ∈ t.kns, k < nx) : Lt nx t.rc := by
  cases t with
  | lf b e => exact Lt.sc _
  | nd b e g l r => exact Lt.pt _ _ (h _ (by show r.b ∈ (l.hp (.pt b 0) ++ r.hp (.pt b 0)).map (·.1); rw [List.map_append, NT.hp_nos, NT.hp_nos, NT.nos_eq r]; simp))
theorem pa_lt {nx : Nat} {z : List Fr} (h : ∀ k ∈ cns z, k < nx) : Lt nx (paZ z) := by
  cases z with
  | nil => exact Lt.sc _
  | cons f z => exact Lt.pt _ _ (h _ (by show f.b ∈ f.b :: _; simp))
set_option maxHeartbeats 4000000 in
theorem rz_l00 {nx bt bm n c : Nat} {e ec : En} {h hc : Int} {p q w : NT} {M : Nat → Option ABox} (q_bm : bm < nx) (O : Opn nx M bt bm n e h (.nd c ec hc p q) w []) (he : e.id = 0) (hec : ec.id = 0) (b1 : 0 ≤ w.h ∧ w.h ≤ 900) (b2 : 0 ≤ p.h ∧ p.h ≤ 900) (b3 : 0 ≤ q.h ∧ q.h ≤ 900) (sw : ¬ p.h < q.h) :
    ∃ wb rb, CallS Try.prog M nx 49 [.pt bt 0, .pt n 0, .pt c 0] ⟨.pt c 0, wb, 0, rb⟩ ∧ Cls (updL M wb) bt bm (NT.rot n (.nd c ec hc p q) w) [] := by
  have e0 : ([[bt], [n], [c], [p.b], p.kns, [q.b], q.kns, [w.b], w.kns] : List (List Nat)).flatten = bt :: n :: ((NT.nos (.nd c ec hc p q)) ++ ((NT.nos w) ++ cns [])) := by simp [NT.nos, NT.nos_eq, cns]
  have hnd : ([[bt], [n], [c], [p.b], p.kns, [q.b], q.kns, [w.b], w.kns] : List (List Nat)).flatten.Nodup := by rw [e0]; exact O.fd
  have D := List.pairwise_iff_getElem.1 (List.pairwise_flatten.1 hnd).2
  have L : ∀ k ∈ ([[bt], [n], [c], [p.b], p.kns, [q.b], q.kns, [w.b], w.kns] : List (List Nat)).flatten, k < nx := by rw [e0]; exact O.flt
  clear hnd e0
  have q_bt : bt < nx := L _ (by simp)
  have q_n : n < nx := L _ (by simp)
  have q_c : c < nx := L _ (by simp)
  have q_p : p.b < nx := L _ (by simp)
  have q_q : q.b < nx := L _ (by simp)
  have q_w : w.b < nx := L _ (by simp)
  have Kw : ∀ k ∈ w.kns, k < nx := fun k hk => L k (by simp [hk])
  have Kp : ∀ k ∈ p.kns, k < nx := fun k hk => L k (by simp [hk])
  have Kq : ∀ k ∈ q.kns, k < nx := fun k hk => L k (by simp [hk])
  have z_bt_n : (bt = n) = False := eq_false (D 0 1 (Nat.le_of_ble_eq_true rfl) (Nat.le_of_ble_eq_true rfl) (by decide) _ (List.mem_singleton.2 rfl) _ (List.mem_singleton.2 rfl))
  have z_bt_c : (bt = c) = False := eq_false (D 0 2 (Nat.le_of_ble_eq_true rfl) (Nat.le_of_ble_eq_true rfl) (by decide) _ (List.mem_singleton.2 rfl) _ (List.mem_singleton.2 rfl))
  have z_bt_w : (bt = w.b) = False := eq_false (D 0 7 (Nat.le_of_ble_eq_true rfl) (Nat.le_of_ble_eq_true rfl) (by decide) _ (List.mem_singleton.2 rfl) _ (List.mem_singleton.2 rfl))
  have z_bt_p : (bt = p.b) = False := eq_false (D 0 3 (Nat.le_of_ble_eq_true rfl) (Nat.le_of_ble_eq_true rfl) (by decide) _ (List.mem_singleton.2 rfl) _ (List.mem_singleton.2 rfl))
  have z_bt_q : (bt = q.b) = False := eq_false (D 0 5 (Nat.le_of_ble_eq_true rfl) (Nat.le_of_ble_eq_true rfl) (by decide) _ (List.mem_singleton.2 rfl) _ (List.mem_singleton.2 rfl))
  have z_n_bt : (n = bt) = False := eq_false (Ne.symm (D 0 1 (Nat.le_of_ble_eq_true rfl) (Nat.le_of_ble_eq_true rfl) (by decide) _ (List.mem_singleton.2 rfl) _ (List.mem_singleton.2 rfl)))
  have z_n_c : (n = c) = False := eq_false (D 1 2 (Nat.le_of_ble_eq_true rfl) (Nat.le_of_ble_eq_true rfl) (by decide) _ (List.mem_singleton.2 rfl) _ (List.mem_singleton.2 rfl))
  have z_n_w : (n = w.b) = False := eq_false (D 1 7 (Nat.le_of_ble_eq_true rfl) (Nat.le_of_ble_eq_true rfl) (by decide) _ (List.mem_singleton.2 rfl) _ (List.mem_singleton.2 rfl))
  have z_n_p : (n = p.b) = False := eq_false (D 1 3 (Nat.le_of_ble_eq_true rfl) (Nat.le_of_ble_eq_true rfl) (by decide) _ (List.mem_singleton.2 rfl) _ (List.mem_singleton.2 rfl))
  have z_n_q : (n = q.b) = False := eq_false (D 1 5 (Nat.le_of_ble_eq_true rfl) (Nat.le_of_ble_eq_true rfl) (by decide) _ (List.mem_singleton.2 rfl) _ (List.mem_singleton.2 rfl))
  have z_c_bt : (c = bt) = False := eq_false (Ne.symm (D 0 2 (Nat.le_of_ble_eq_true rfl) (Nat.le_of_ble_eq_true rfl) (by decide) _ (List.mem_singleton.2 rfl) _ (List.mem_singleton.2 rfl)))
  have z_c_n : (c = n) = False := eq_false (Ne.symm (D 1 2 (Nat.le_of_ble_eq_true rfl) (Nat.le_of_ble_eq_true rfl) (by decide) _ (List.mem_singleton.2 rfl) _ (List.mem_singleton.2 rfl)))
  have z_c_w : (c = w.b) = False := eq_false (D 2 7 (Nat.le_of_ble_eq_true rfl) (Nat.le_of_ble_eq_true rfl) (by decide) _ (List.mem_singleton.2 rfl) _ (List.mem_singleton.2 rfl))
  have z_c_p : (c = p.b) = False := eq_false (D 2 3 (Nat.le_of_ble_eq_true rfl) (Nat.le_of_ble_eq_true rfl) (by decide) _ (List.mem_singleton.2 rfl) _ (List.mem_singleton.2 rfl))
  have z_c_q : (c = q.b) = False := eq_false (D 2 5 (Nat.le_of_ble_eq_true rfl) (Nat.le_of_ble_eq_true rfl) (by decide) _ (List.mem_singleton.2 rfl) _ (List.mem_singleton.2 rfl))
  have z_w_bt : (w.b = bt) = False := eq_false (Ne.symm (D 0 7 (Nat.le_of_ble_eq_true rfl) (Nat.le_of_ble_eq_true rfl) (by decide) _ (List.mem_singleton.2 rfl) _ (List.mem_singleton.2 rfl)))
  have z_w_n : (w.b = n) = False := eq_false (Ne.symm (D 1 7 (Nat.le_of_ble_eq_true rfl) (Nat.le_of_ble_eq_true rfl) (by decide) _ (List.mem_singleton.2 rfl) _ (List.mem_singleton.2 rfl)))
  have z_w_c : (w.b = c) = False := eq_false (Ne.symm (D 2 7 (Nat.le_of_ble_eq_true rfl) (Nat.le_of_ble_eq_true rfl) (by decide) _ (List.mem_singleton.2 rfl) _ (List.mem_singleton.2 rfl)))
  have z_w_p : (w.b = p.b) = False := eq_false (Ne.symm (D 3 7 (Nat.le_of_ble_eq_true rfl) (Nat.le_of_ble_eq_true rfl) (by decide) _ (List.mem_singleton.2 rfl) _ (List.mem_singleton.2 rfl)))
  have z_w_q : (w.b = q.b) = False := eq_false (Ne.symm (D 5 7 (Nat.le_of_ble_eq_true rfl) (Nat.le_of_ble_eq_true rfl) (by decide) _ (List.mem_singleton.2 rfl) _ (List.mem_singleton.2 rfl)))
  have z_p_bt : (p.b = bt) = False := eq_false (Ne.symm (D 0 3 (Nat.le_of_ble_eq_true rfl) (Nat.le_of_ble_eq_true rfl) (by decide) _ (List.mem_singleton.2 rfl) _ (List.mem_singleton.2 rfl)))
  have z_p_n : (p.b = n) = False := eq_false (Ne.symm (D 1 3 (Nat.le_of_ble_eq_true rfl) (Nat.le_of_ble_eq_true rfl) (by decide) _ (List.mem_singleton.2 rfl) _ (List.mem_singleton.2 rfl)))
  have z_p_c : (p.b = c) = False := eq_false (Ne.symm (D 2 3 (Nat.le_of_ble_eq_true rfl) (Nat.le_of_ble_eq_true rfl) (by decide) _ (List.mem_singleton.2 rfl) _ (List.mem_singleton.2 rfl)))
  have z_p_w : (p.b = w.b) = False := eq_false (D 3 7 (Nat.le_of_ble_eq_true rfl) (Nat.le_of_ble_eq_true rfl) (by decide) _ (List.mem_singleton.2 rfl) _ (List.mem_singleton.2 rfl))
  have z_p_q : (p.b = q.b) = False := eq_false (D 3 5 (Nat.le_of_ble_eq_true rfl) (Nat.le_of_ble_eq_true rfl) (by decide) _ (List.mem_singleton.2 rfl) _ (List.mem_singleton.2 rfl))
  have z_q_bt : (q.b = bt) = False := eq_false (Ne.symm (D 0 5 (Nat.le_of_ble_eq_true rfl) (Nat.le_of_ble_eq_true rfl) (by decide) _ (List.mem_singleton.2 rfl) _ (List.mem_singleton.2 rfl)))
  have z_q_n : (q.b = n) = False := eq_false (Ne.symm (D 1 5 (Nat.le_of_ble_eq_true rfl) (Nat.le_of_ble_eq_true rfl) (by decide) _ (List.mem_singleton.2 rfl) _ (List.mem_singleton.2 rfl)))
  have z_q_c : (q.b = c) = False := eq_false (Ne.symm (D 2 5 (Nat.le_of_ble_eq_true rfl) (Nat.le_of_ble_eq_true rfl) (by decide) _ (List.mem_singleton.2 rfl) _ (List.mem_singleton.2 rfl)))
  have z_q_w : (q.b = w.b) = False := eq_false (D 5 7 (Nat.le_of_ble_eq_true rfl) (Nat.le_of_ble_eq_true rfl) (by decide) _ (List.mem_singleton.2 rfl) _ (List.mem_singleton.2 rfl))
  have z_q_p : (q.b = p.b) = False := eq_false (Ne.symm (D 3 5 (Nat.le_of_ble_eq_true rfl) (Nat.le_of_ble_eq_true rfl) (by decide) _ (List.mem_singleton.2 rfl) _ (List.mem_singleton.2 rfl)))
  have mt := O.ft
  have mn := O.fn
  obtain ⟨mc, ml⟩ := held_hp.1 O.fl
  obtain ⟨mp', mq'⟩ := held_app.1 (show Held M (p.hp (.pt c 0) ++ q.hp (.pt c 0)) from ml)
  obtain ⟨mp, mpk⟩ := held_hp.1 mp'
  obtain ⟨mq, mqk⟩ := held_hp.1 mq'
  obtain ⟨mw, mwk⟩ := held_hp.1 O.fr
  have hC := @c_rotl00 nx bt n c w.b p.b q.b bm q_bm e ec w.e p.e q.e (.pt n 0) w.lc w.rc (.pt c 0) p.lc p.rc (.pt c 0) q.lc q.rc (.pt n 0) h e.id hc ec.id w.h w.e.id p.h p.e.id q.h q.e.id q_bt q_n q_c q_w q_p q_q (of_eq_false z_bt_n) (of_eq_false z_bt_c) (of_eq_false z_bt_w) (of_eq_false z_bt_p) (of_eq_false z_bt_q) (of_eq_false z_n_c) (of_eq_false z_n_w) (of_eq_false z_n_p) (of_eq_false z_n_q) (of_eq_false z_c_w) (of_eq_false z_c_p) (of_eq_false z_c_q) (of_eq_false z_w_p) (of_eq_false z_w_q) (of_eq_false z_p_q) (lc_lt Kp) (lc_lt Kq) (lc_lt Kw) (Lt.pt _ _ q_c) (Lt.pt _ _ q_c) (Lt.pt _ _ q_n) (rc_lt Kp) (rc_lt Kq) (Lt.pt _ _ q_n) (rc_lt Kw) b1 b2 b3 sw
  have hko : keysOk ([(bt, .var (.agg [.pt c 0, .mp bm])), (n, .var (.agg [.i (uniE w.e q.e).x, .i (uniE w.e q.e).y, .i (uniE w.e q.e).u, .i (uniE w.e q.e).w, .pt c 0, .pt w.b 0, .pt q.b 0, .i (1 + imax w.h q.h), .i e.id])), (c, .var (.agg [.i (uniE p.e (uniE w.e q.e)).x, .i (uniE p.e (uniE w.e q.e)).y, .i (uniE p.e (uniE w.e q.e)).u, .i (uniE p.e (uniE w.e q.e)).w, .sc (.pointer none), .pt p.b 0, .pt n 0, .i (1 + imax p.h (1 + imax w.h q.h)), .i ec.id])), (w.b, .var (.agg [.i w.e.x, .i w.e.y, .i w.e.u, .i w.e.w, .pt n 0, w.lc, w.rc, .i w.h, .i w.e.id])), (p.b, .var (.agg [.i p.e.x, .i p.e.y, .i p.e.u, .i p.e.w, .pt c 0, p.lc, p.rc, .i p.h, .i p.e.id])), (q.b, .var (.agg [.i q.e.x, .i q.e.y, .i q.e.u, .i q.e.w, .pt n 0, q.lc, q.rc, .i q.h, .i q.e.id]))] : HH) = true := by simp [keysOk, z_bt_n, z_bt_c, z_bt_w, z_bt_p, z_bt_q, z_n_c, z_n_w, z_n_p, z_n_q, z_c_w, z_c_p, z_c_q, z_w_p, z_w_q, z_p_q]
  refine ⟨[(bt, .var (.agg [.pt c 0, .mp bm])), (n, .var (.agg [.i (uniE w.e q.e).x, .i (uniE w.e q.e).y, .i (uniE w.e q.e).u, .i (uniE w.e q.e).w, .pt c 0, .pt w.b 0, .pt q.b 0, .i (1 + imax w.h q.h), .i e.id])), (c, .var (.agg [.i (uniE p.e (uniE w.e q.e)).x, .i (uniE p.e (uniE w.e q.e)).y, .i (uniE p.e (uniE w.e q.e)).u, .i (uniE p.e (uniE w.e q.e)).w, .sc (.pointer none), .pt p.b 0, .pt n 0, .i (1 + imax p.h (1 + imax w.h q.h)), .i ec.id])), (w.b, .var (.agg [.i w.e.x, .i w.e.y, .i w.e.u, .i w.e.w, .pt n 0, w.lc, w.rc, .i w.h, .i w.e.id])), (p.b, .var (.agg [.i p.e.x, .i p.e.y, .i p.e.u, .i p.e.w, .pt c 0, p.lc, p.rc, .i p.h, .i p.e.id])), (q.b, .var (.agg [.i q.e.x, .i q.e.y, .i q.e.u, .i q.e.w, .pt n 0, q.lc, q.rc, .i q.h, .i q.e.id]))], [bt, n, c, w.b, p.b, q.b], hC.congr (fun k hk' => ?_), ?_⟩
  · simp only [List.mem_cons, List.not_mem_nil, or_false] at hk'
    rcases hk' with rfl | rfl | rfl | rfl | rfl | rfl
    · refine mt.trans ?_
      simp only [hk_cons, z_bt_n, z_bt_c, z_bt_w, z_bt_p, z_bt_q, if_true, if_false]
      try rfl
    · refine mn.trans ?_
      simp only [hk_cons, z_n_bt, z_n_c, z_n_w, z_n_p, z_n_q, if_true, if_false]
      try rfl
    · refine mc.trans ?_
      simp only [hk_cons, z_c_bt, z_c_n, z_c_w, z_c_p, z_c_q, if_true, if_false]
      try rfl
    · refine mw.trans ?_
      simp only [hk_cons, z_w_bt, z_w_n, z_w_c, z_w_p, z_w_q, if_true, if_false]
      try rfl
    · refine mp.trans ?_
      simp only [hk_cons, z_p_bt, z_p_n, z_p_c, z_p_w, z_p_q, if_true, if_false]
      try rfl
    · refine mq.trans ?_
      simp only [hk_cons, z_q_bt, z_q_n, z_q_c, z_q_w, z_q_p, if_true, if_false]
      try rfl
  · have hr : NT.rot n (.nd c ec hc p q) w = NT.fr c p (NT.fr n w q) := if_neg sw
    rw [hr]
    have up := mpk.upd (wb := [(bt, .var (.agg [.pt c 0, .mp bm])), (n, .var (.agg [.i (uniE w.e q.e).x, .i (uniE w.e q.e).y, .i (uniE w.e q.e).u, .i (uniE w.e q.e).w, .pt c 0, .pt w.b 0, .pt q.b 0, .i (1 + imax w.h q.h), .i e.id])), (c, .var (.agg [.i (uniE p.e (uniE w.e q.e)).x, .i (uniE p.e (uniE w.e q.e)).y, .i (uniE p.e (uniE w.e q.e)).u, .i (uniE p.e (uniE w.e q.e)).w, .sc (.pointer none), .pt p.b 0, .pt n 0, .i (1 + imax p.h (1 + imax w.h q.h)), .i ec.id])), (w.b, .var (.agg [.i w.e.x, .i w.e.y, .i w.e.u, .i w.e.w, .pt n 0, w.lc, w.rc, .i w.h, .i w.e.id])), (p.b, .var (.agg [.i p.e.x, .i p.e.y, .i p.e.u, .i p.e.w, .pt c 0, p.lc, p.rc, .i p.h, .i p.e.id])), (q.b, .var (.agg [.i q.e.x, .i q.e.y, .i q.e.u, .i q.e.w, .pt n 0, q.lc, q.rc, .i q.h, .i q.e.id]))]) (fun b hb => by
      rw [show (p.kids.map (·.1)) = p.kns from rfl] at hb
      simp only [List.map_cons, List.map_nil, List.mem_cons, List.not_mem_nil, or_false, not_or]
      exact ⟨(Ne.symm (D 0 4 (Nat.le_of_ble_eq_true rfl) (Nat.le_of_ble_eq_true rfl) (by decide) _ (List.mem_singleton.2 rfl) _ hb)), (Ne.symm (D 1 4 (Nat.le_of_ble_eq_true rfl) (Nat.le_of_ble_eq_true rfl) (by decide) _ (List.mem_singleton.2 rfl) _ hb)), (Ne.symm (D 2 4 (Nat.le_of_ble_eq_true rfl) (Nat.le_of_ble_eq_true rfl) (by decide) _ (List.mem_singleton.2 rfl) _ hb)), (D 4 7 (Nat.le_of_ble_eq_true rfl) (Nat.le_of_ble_eq_true rfl) (by decide) _ hb _ (List.mem_singleton.2 rfl)), (Ne.symm (D 3 4 (Nat.le_of_ble_eq_true rfl) (Nat.le_of_ble_eq_true rfl) (by decide) _ (List.mem_singleton.2 rfl) _ hb)), (D 4 5 (Nat.le_of_ble_eq_true rfl) (Nat.le_of_ble_eq_true rfl) (by decide) _ hb _ (List.mem_singleton.2 rfl))⟩)
    have uq := mqk.upd (wb := [(bt, .var (.agg [.pt c 0, .mp bm])), (n, .var (.agg [.i (uniE w.e q.e).x, .i (uniE w.e q.e).y, .i (uniE w.e q.e).u, .i (uniE w.e q.e).w, .pt c 0, .pt w.b 0, .pt q.b 0, .i (1 + imax w.h q.h), .i e.id])), (c, .var (.agg [.i (uniE p.e (uniE w.e q.e)).x, .i (uniE p.e (uniE w.e q.e)).y, .i (uniE p.e (uniE w.e q.e)).u, .i (uniE p.e (uniE w.e q.e)).w, .sc (.pointer none), .pt p.b 0, .pt n 0, .i (1 + imax p.h (1 + imax w.h q.h)), .i ec.id])), (w.b, .var (.agg [.i w.e.x, .i w.e.y, .i w.e.u, .i w.e.w, .pt n 0, w.lc, w.rc, .i w.h, .i w.e.id])), (p.b, .var (.agg [.i p.e.x, .i p.e.y, .i p.e.u, .i p.e.w, .pt c 0, p.lc, p.rc, .i p.h, .i p.e.id])), (q.b, .var (.agg [.i q.e.x, .i q.e.y, .i q.e.u, .i q.e.w, .pt n 0, q.lc, q.rc, .i q.h, .i q.e.id]))]) (fun b hb => by
      rw [show (q.kids.map (·.1)) = q.kns from rfl] at hb
      simp only [List.map_cons, List.map_nil, List.mem_cons, List.not_mem_nil, or_false, not_or]
      exact ⟨(Ne.symm (D 0 6 (Nat.le_of_ble_eq_true rfl) (Nat.le_of_ble_eq_true rfl) (by decide) _ (List.mem_singleton.2 rfl) _ hb)), (Ne.symm (D 1 6 (Nat.le_of_ble_eq_true rfl) (Nat.le_of_ble_eq_true rfl) (by decide) _ (List.mem_singleton.2 rfl) _ hb)), (Ne.symm (D 2 6 (Nat.le_of_ble_eq_true rfl) (Nat.le_of_ble_eq_true rfl) (by decide) _ (List.mem_singleton.2 rfl) _ hb)), (D 6 7 (Nat.le_of_ble_eq_true rfl) (Nat.le_of_ble_eq_true rfl) (by decide) _ hb _ (List.mem_singleton.2 rfl)), (Ne.symm (D 3 6 (Nat.le_of_ble_eq_true rfl) (Nat.le_of_ble_eq_true rfl) (by decide) _ (List.mem_singleton.2 rfl) _ hb)), (Ne.symm (D 5 6 (Nat.le_of_ble_eq_true rfl) (Nat.le_of_ble_eq_true rfl) (by decide) _ (List.mem_singleton.2 rfl) _ hb))⟩)
    have uw := mwk.upd (wb := [(bt, .var (.agg [.pt c 0, .mp bm])), (n, .var (.agg [.i (uniE w.e q.e).x, .i (uniE w.e q.e).y, .i (uniE w.e q.e).u, .i (uniE w.e q.e).w, .pt c 0, .pt w.b 0, .pt q.b 0, .i (1 + imax w.h q.h), .i e.id])), (c, .var (.agg [.i (uniE p.e (uniE w.e q.e)).x, .i (uniE p.e (uniE w.e q.e)).y, .i (uniE p.e (uniE w.e q.e)).u, .i (uniE p.e (uniE w.e q.e)).w, .sc (.pointer none), .pt p.b 0, .pt n 0, .i (1 + imax p.h (1 + imax w.h q.h)), .i ec.id])), (w.b, .var (.agg [.i w.e.x, .i w.e.y, .i w.e.u, .i w.e.w, .pt n 0, w.lc, w.rc, .i w.h, .i w.e.id])), (p.b, .var (.agg [.i p.e.x, .i p.e.y, .i p.e.u, .i p.e.w, .pt c 0, p.lc, p.rc, .i p.h, .i p.e.id])), (q.b, .var (.agg [.i q.e.x, .i q.e.y, .i q.e.u, .i q.e.w, .pt n 0, q.lc, q.rc, .i q.h, .i q.e.id]))]) (fun b hb => by
      rw [show (w.kids.map (·.1)) = w.kns from rfl] at hb
      simp only [List.map_cons, List.map_nil, List.mem_cons, List.not_mem_nil, or_false, not_or]
      exact ⟨(Ne.symm (D 0 8 (Nat.le_of_ble_eq_true rfl) (Nat.le_of_ble_eq_true rfl) (by decide) _ (List.mem_singleton.2 rfl) _ hb)), (Ne.symm (D 1 8 (Nat.le_of_ble_eq_true rfl) (Nat.le_of_ble_eq_true rfl) (by decide) _ (List.mem_singleton.2 rfl) _ hb)), (Ne.symm (D 2 8 (Nat.le_of_ble_eq_true rfl) (Nat.le_of_ble_eq_true rfl) (by decide) _ (List.mem_singleton.2 rfl) _ hb)), (Ne.symm (D 7 8 (Nat.le_of_ble_eq_true rfl) (Nat.le_of_ble_eq_true rfl) (by decide) _ (List.mem_singleton.2 rfl) _ hb)), (Ne.symm (D 3 8 (Nat.le_of_ble_eq_true rfl) (Nat.le_of_ble_eq_true rfl) (by decide) _ (List.mem_singleton.2 rfl) _ hb)), (Ne.symm (D 5 8 (Nat.le_of_ble_eq_true rfl) (Nat.le_of_ble_eq_true rfl) (by decide) _ (List.mem_singleton.2 rfl) _ hb))⟩)
    refine ⟨upd_at hko (by simp only [hk_cons, z_bt_n, z_bt_c, z_bt_w, z_bt_p, z_bt_q, if_true, if_false]; try rfl), held_cons.2 ⟨upd_at hko (by simp only [hk_cons, z_c_bt, z_c_n, z_c_w, z_c_p, z_c_q, if_true, if_false]; simp only [NT.top, ndB, NT.fr, NT.e, NT.h, NT.lc, NT.rc, NT.b, NT.uni_id, hec]; try rfl), held_app.2 ⟨held_hp.2 ⟨upd_at hko (by simp only [hk_cons, z_p_bt, z_p_n, z_p_c, z_p_w, z_p_q, if_true, if_false]; try rfl), up⟩, held_cons.2 ⟨upd_at hko (by simp only [hk_cons, z_n_bt, z_n_c, z_n_w, z_n_p, z_n_q, if_true, if_false]; simp only [NT.top, ndB, NT.e, NT.h, NT.lc, NT.rc, NT.b, NT.uni_id, he]; try rfl), held_app.2 ⟨held_hp.2 ⟨upd_at hko (by simp only [hk_cons, z_w_bt, z_w_n, z_w_c, z_w_p, z_w_q, if_true, if_false]; try rfl), uw⟩, held_hp.2 ⟨upd_at hko (by simp only [hk_cons, z_q_bt, z_q_n, z_q_c, z_q_w, z_q_p, if_true, if_false]; try rfl), uq⟩⟩⟩⟩⟩, held_nil⟩
set_option maxHeartbeats 4000000 in
theorem rz_l01 {nx bt bm n c : Nat} {e ec : En} {h hc : Int} {p q w : NT} {M : Nat → Option ABox} (q_bm : bm < nx) (O : Opn nx M bt bm n e h (.nd c ec hc p q) w []) (he : e.id = 0) (hec : ec.id = 0) (b1 : 0 ≤ w.h ∧ w.h ≤ 900) (b2 : 0 ≤ p.h ∧ p.h ≤ 900) (b3 : 0 ≤ q.h ∧ q.h ≤ 900) (sw : p.h < q.h) :
    ∃ wb rb, CallS Try.prog M nx 49 [.pt bt 0, .pt n 0, .pt c 0] ⟨.pt c 0, wb, 0, rb⟩ ∧ Cls (updL M wb) bt bm (NT.rot n (.nd c ec hc p q) w) [] := by
  have e0 : ([[bt], [n], [c], [p.b], p.kns, [q.b], q.kns, [w.b], w.kns] : List (List Nat)).flatten = bt :: n :: ((NT.nos (.nd c ec hc p q)) ++ ((NT.nos w) ++ cns [])) := by simp [NT.nos, NT.nos_eq, cns]
  have hnd : ([[bt], [n], [c], [p.b], p.kns, [q.b], q.kns, [w.b], w.kns] : List (List Nat)).flatten.Nodup := by rw [e0]; exact O.fd
  have D := List.pairwise_iff_getElem.1 (List.pairwise_flatten.1 hnd).2
  have L : ∀ k ∈ ([[bt], [n], [c], [p.b], p.kns, [q.b], q.kns, [w.b], w.kns] : List (List Nat)).flatten, k < nx := by rw [e0]; exact O.flt
  clear hnd e0
  have q_bt : bt < nx := L _ (by simp)
  have q_n : n < nx := L _ (by simp)
  have q_c : c < nx := L _ (by simp)
  have q_p : p.b < nx := L _ (by simp)
  have q_q : q.b < nx := L _ (by simp)
  have q_w : w.b < nx := L _ (by simp)
  have Kw : ∀ k ∈ w.kns, k < nx := fun k hk => L k (by simp [hk])
  have Kp : ∀ k ∈ p.kns, k < nx := fun k hk => L k (by simp [hk])
  have Kq : ∀ k ∈ q.kns, k < nx := fun k hk => L k (by simp [hk])
  have z_bt_n : (bt = n) = False := eq_false (D 0 1 (Nat.le_of_ble_eq_true rfl) (Nat.le_of_ble_eq_true rfl) (by decide) _ (List.mem_singleton.2 rfl) _ (List.mem_singleton.2 rfl))
  have z_bt_c : (bt = c) = False := eq_false (D 0 2 (Nat.le_of_ble_eq_true rfl) (Nat.le_of_ble_eq_true rfl) (by decide) _ (List.mem_singleton.2 rfl) _ (List.mem_singleton.2 rfl))
  have z_bt_w : (bt = w.b) = False := eq_false (D 0 7 (Nat.le_of_ble_eq_true rfl) (Nat.le_of_ble_eq_true rfl) (by decide) _ (List.mem_singleton.2 rfl) _ (List.mem_singleton.2 rfl))
  have z_bt_p : (bt = p.b) = False := eq_false (D 0 3 (Nat.le_of_ble_eq_true rfl) (Nat.le_of_ble_eq_true rfl) (by decide) _ (List.mem_singleton.2 rfl) _ (List.mem_singleton.2 rfl))
  have z_bt_q : (bt = q.b) = False := eq_false (D 0 5 (Nat.le_of_ble_eq_true rfl) (Nat.le_of_ble_eq_true rfl) (by decide) _ (List.mem_singleton.2 rfl) _ (List.mem_singleton.2 rfl))
  have z_n_bt : (n = bt) = False := eq_false (Ne.symm (D 0 1 (Nat.le_of_ble_eq_true rfl) (Nat.le_of_ble_eq_true rfl) (by decide) _ (List.mem_singleton.2 rfl) _ (List.mem_singleton.2 rfl)))
  have z_n_c : (n = c) = False := eq_false (D 1 2 (Nat.le_of_ble_eq_true rfl) (Nat.le_of_ble_eq_true rfl) (by decide) _ (List.mem_singleton.2 rfl) _ (List.mem_singleton.2 rfl))
  have z_n_w : (n = w.b) = False := eq_false (D 1 7 (Nat.le_of_ble_eq_true rfl) (Nat.le_of_ble_eq_true rfl) (by decide) _ (List.mem_singleton.2 rfl) _ (List.mem_singleton.2 rfl))
  have z_n_p : (n = p.b) = False := eq_false (D 1 3 (Nat.le_of_ble_eq_true rfl) (Nat.le_of_ble_eq_true rfl) (by decide) _ (List.mem_singleton.2 rfl) _ (List.mem_singleton.2 rfl))
  have z_n_q : (n = q.b) = False := eq_false (D 1 5 (Nat.le_of_ble_eq_true rfl) (Nat.le_of_ble_eq_true rfl) (by decide) _ (List.mem_singleton.2 rfl) _ (List.mem_singleton.2 rfl))
  have z_c_bt : (c = bt) = False := eq_false (Ne.symm (D 0 2 (Nat.le_of_ble_eq_true rfl) (Nat.le_of_ble_eq_true rfl) (by decide) _ (List.mem_singleton.2 rfl) _ (List.mem_singleton.2 rfl)))
  have z_c_n : (c = n) = False := eq_false (Ne.symm (D 1 2 (Nat.le_of_ble_eq_true rfl) (Nat.le_of_ble_eq_true rfl) (by decide) _ (List.mem_singleton.2 rfl) _ (List.mem_singleton.2 rfl)))
  have z_c_w : (c = w.b) = False := eq_false (D 2 7 (Nat.le_of_ble_eq_true rfl) (Nat.le_of_ble_eq_true rfl) (by decide) _ (List.mem_singleton.2 rfl) _ (List.mem_singleton.2 rfl))
  have z_c_p : (c = p.b) = False := eq_false (D 2 3 (Nat.le_of_ble_eq_true rfl) (Nat.le_of_ble_eq_true rfl) (by decide) _ (List.mem_singleton.2 rfl) _ (List.mem_singleton.2 rfl))
  have z_c_q : (c = q.b) = False := eq_false (D 2 5 (Nat.le_of_ble_eq_true rfl) (Nat.le_of_ble_eq_true rfl) (by decide) _ (List.mem_singleton.2 rfl) _ (List.mem_singleton.2 rfl))
  have z_w_bt : (w.b = bt) = False := eq_false (Ne.symm (D 0 7 (Nat.le_of_ble_eq_true rfl) (Nat.le_of_ble_eq_true rfl) (by decide) _ (List.mem_singleton.2 rfl) _ (List.mem_singleton.2 rfl)))
  have z_w_n : (w.b = n) = False := eq_false (Ne.symm (D 1 7 (Nat.le_of_ble_eq_true rfl) (Nat.le_of_ble_eq_true rfl) (by decide) _ (List.mem_singleton.2 rfl) _ (List.mem_singleton.2 rfl)))
  have z_w_c : (w.b = c) = False := eq_false (Ne.symm (D 2 7 (Nat.le_of_ble_eq_true rfl) (Nat.le_of_ble_eq_true rfl) (by decide) _ (List.mem_singleton.2 rfl) _ (List.mem_singleton.2 rfl)))
  have z_w_p : (w.b = p.b) = False := eq_false (Ne.symm (D 3 7 (Nat.le_of_ble_eq_true rfl) (Nat.le_of_ble_eq_true rfl) (by decide) _ (List.mem_singleton.2 rfl) _ (List.mem_singleton.2 rfl)))
  have z_w_q : (w.b = q.b) = False := eq_false (Ne.symm (D 5 7 (Nat.le_of_ble_eq_true rfl) (Nat.le_of_ble_eq_true rfl) (by decide) _ (List.mem_singleton.2 rfl) _ (List.mem_singleton.2 rfl)))
  have z_p_bt : (p.b = bt) = False := eq_false (Ne.symm (D 0 3 (Nat.le_of_ble_eq_true rfl) (Nat.le_of_ble_eq_true rfl) (by decide) _ (List.mem_singleton.2 rfl) _ (List.mem_singleton.2 rfl)))
  have z_p_n : (p.b = n) = False := eq_false (Ne.symm (D 1 3 (Nat.le_of_ble_eq_true rfl) (Nat.le_of_ble_eq_true rfl) (by decide) _ (List.mem_singleton.2 rfl) _ (List.mem_singleton.2 rfl)))
  have z_p_c : (p.b = c) = False := eq_false (Ne.symm (D 2 3 (Nat.le_of_ble_eq_true rfl) (Nat.le_of_ble_eq_true rfl) (by decide) _ (List.mem_singleton.2 rfl) _ (List.mem_singleton.2 rfl)))
  have z_p_w : (p.b = w.b) = False := eq_false (D 3 7 (Nat.le_of_ble_eq_true rfl) (Nat.le_of_ble_eq_true rfl) (by decide) _ (List.mem_singleton.2 rfl) _ (List.mem_singleton.2 rfl))
  have z_p_q : (p.b = q.b) = False := eq_false (D 3 5 (Nat.le_of_ble_eq_true rfl) (Nat.le_of_ble_eq_true rfl) (by decide) _ (List.mem_singleton.2 rfl) _ (List.mem_singleton.2 rfl))
  have z_q_bt : (q.b = bt) = False := eq_false (Ne.symm (D 0 5 (Nat.le_of_ble_eq_true rfl) (Nat.le_of_ble_eq_true rfl) (by decide) _ (List.mem_singleton.2 rfl) _ (List.mem_singleton.2 rfl)))
  have z_q_n : (q.b = n) = False := eq_false (Ne.symm (D 1 5 (Nat.le_of_ble_eq_true rfl) (Nat.le_of_ble_eq_true rfl) (by decide) _ (List.mem_singleton.2 rfl) _ (List.mem_singleton.2 rfl)))
  have z_q_c : (q.b = c) = False := eq_false (Ne.symm (D 2 5 (Nat.le_of_ble_eq_true rfl) (Nat.le_of_ble_eq_true rfl) (by decide) _ (List.mem_singleton.2 rfl) _ (List.mem_singleton.2 rfl)))
  have z_q_w : (q.b = w.b) = False := eq_false (D 5 7 (Nat.le_of_ble_eq_true rfl) (Nat.le_of_ble_eq_true rfl) (by decide) _ (List.mem_singleton.2 rfl) _ (List.mem_singleton.2 rfl))
  have z_q_p : (q.b = p.b) = False := eq_false (Ne.symm (D 3 5 (Nat.le_of_ble_eq_true rfl) (Nat.le_of_ble_eq_true rfl) (by decide) _ (List.mem_singleton.2 rfl) _ (List.mem_singleton.2 rfl)))
  have mt := O.ft
  have mn := O.fn
  obtain ⟨mc, ml⟩ := held_hp.1 O.fl
  obtain ⟨mp', mq'⟩ := held_app.1 (show Held M (p.hp (.pt c 0) ++ q.hp (.pt c 0)) from ml)
  obtain ⟨mp, mpk⟩ := held_hp.1 mp'
  obtain ⟨mq, mqk⟩ := held_hp.1 mq'
  obtain ⟨mw, mwk⟩ := held_hp.1 O.fr
  have hC := @c_rotl01 nx bt n c w.b p.b q.b bm q_bm e ec w.e p.e q.e (.pt n 0) w.lc w.rc (.pt c 0) p.lc p.rc (.pt c 0) q.lc q.rc (.pt n 0) h e.id hc ec.id w.h w.e.id p.h p.e.id q.h q.e.id q_bt q_n q_c q_w q_p q_q (of_eq_false z_bt_n) (of_eq_false z_bt_c) (of_eq_false z_bt_w) (of_eq_false z_bt_p) (of_eq_false z_bt_q) (of_eq_false z_n_c) (of_eq_false z_n_w) (of_eq_false z_n_p) (of_eq_false z_n_q) (of_eq_false z_c_w) (of_eq_false z_c_p) (of_eq_false z_c_q) (of_eq_false z_w_p) (of_eq_false z_w_q) (of_eq_false z_p_q) (lc_lt Kp) (lc_lt Kq) (lc_lt Kw) (Lt.pt _ _ q_c) (Lt.pt _ _ q_c) (Lt.pt _ _ q_n) (rc_lt Kp) (rc_lt Kq) (Lt.pt _ _ q_n) (rc_lt Kw) b1 b2 b3 sw
  have hko : keysOk ([(bt, .var (.agg [.pt c 0, .mp bm])), (n, .var (.agg [.i (uniE w.e p.e).x, .i (uniE w.e p.e).y, .i (uniE w.e p.e).u, .i (uniE w.e p.e).w, .pt c 0, .pt w.b 0, .pt p.b 0, .i (1 + imax w.h p.h), .i e.id])), (c, .var (.agg [.i (uniE q.e (uniE w.e p.e)).x, .i (uniE q.e (uniE w.e p.e)).y, .i (uniE q.e (uniE w.e p.e)).u, .i (uniE q.e (uniE w.e p.e)).w, .sc (.pointer none), .pt q.b 0, .pt n 0, .i (1 + imax q.h (1 + imax w.h p.h)), .i ec.id])), (w.b, .var (.agg [.i w.e.x, .i w.e.y, .i w.e.u, .i w.e.w, .pt n 0, w.lc, w.rc, .i w.h, .i w.e.id])), (p.b, .var (.agg [.i p.e.x, .i p.e.y, .i p.e.u, .i p.e.w, .pt n 0, p.lc, p.rc, .i p.h, .i p.e.id])), (q.b, .var (.agg [.i q.e.x, .i q.e.y, .i q.e.u, .i q.e.w, .pt c 0, q.lc, q.rc, .i q.h, .i q.e.id]))] : HH) = true := by simp [keysOk, z_bt_n, z_bt_c, z_bt_w, z_bt_p, z_bt_q, z_n_c, z_n_w, z_n_p, z_n_q, z_c_w, z_c_p, z_c_q, z_w_p, z_w_q, z_p_q]
  refine ⟨[(bt, .var (.agg [.pt c 0, .mp bm])), (n, .var (.agg [.i (uniE w.e p.e).x, .i (uniE w.e p.e).y, .i (uniE w.e p.e).u, .i (uniE w.e p.e).w, .pt c 0, .pt w.b 0, .pt p.b 0, .i (1 + imax w.h p.h), .i e.id])), (c, .var (.agg [.i (uniE q.e (uniE w.e p.e)).x, .i (uniE q.e (uniE w.e p.e)).y, .i (uniE q.e (uniE w.e p.e)).u, .i (uniE q.e (uniE w.e p.e)).w, .sc (.pointer none), .pt q.b 0, .pt n 0, .i (1 + imax q.h (1 + imax w.h p.h)), .i ec.id])), (w.b, .var (.agg [.i w.e.x, .i w.e.y, .i w.e.u, .i w.e.w, .pt n 0, w.lc, w.rc, .i w.h, .i w.e.id])), (p.b, .var (.agg [.i p.e.x, .i p.e.y, .i p.e.u, .i p.e.w, .pt n 0, p.lc, p.rc, .i p.h, .i p.e.id])), (q.b, .var (.agg [.i q.e.x, .i q.e.y, .i q.e.u, .i q.e.w, .pt c 0, q.lc, q.rc, .i q.h, .i q.e.id]))], [bt, n, c, w.b, p.b, q.b], hC.congr (fun k hk' => ?_), ?_⟩
  · simp only [List.mem_cons, List.not_mem_nil, or_false] at hk'
    rcases hk' with rfl | rfl | rfl | rfl | rfl | rfl
    · refine mt.trans ?_
      simp only [hk_cons, z_bt_n, z_bt_c, z_bt_w, z_bt_p, z_bt_q, if_true, if_false]
      try rfl
    · refine mn.trans ?_
      simp only [hk_cons, z_n_bt, z_n_c, z_n_w, z_n_p, z_n_q, if_true, if_false]
      try rfl
    · refine mc.trans ?_
      simp only [hk_cons, z_c_bt, z_c_n, z_c_w, z_c_p, z_c_q, if_true, if_false]
      try rfl
    · refine mw.trans ?_
      simp only [hk_cons, z_w_bt, z_w_n, z_w_c, z_w_p, z_w_q, if_true, if_false]
      try rfl
    · refine mp.trans ?_
      simp only [hk_cons, z_p_bt, z_p_n, z_p_c, z_p_w, z_p_q, if_true, if_false]
      try rfl
    · refine mq.trans ?_
      simp only [hk_cons, z_q_bt, z_q_n, z_q_c, z_q_w, z_q_p, if_true, if_false]
      try rfl
  · have hr : NT.rot n (.nd c ec hc p q) w = NT.fr c q (NT.fr n w p) := if_pos sw
    rw [hr]
    have up := mpk.upd (wb := [(bt, .var (.agg [.pt c 0, .mp bm])), (n, .var (.agg [.i (uniE w.e p.e).x, .i (uniE w.e p.e).y, .i (uniE w.e p.e).u, .i (uniE w.e p.e).w, .pt c 0, .pt w.b 0, .pt p.b 0, .i (1 + imax w.h p.h), .i e.id])), (c, .var (.agg [.i (uniE q.e (uniE w.e p.e)).x, .i (uniE q.e (uniE w.e p.e)).y, .i (uniE q.e (uniE w.e p.e)).u, .i (uniE q.e (uniE w.e p.e)).w, .sc (.pointer none), .pt q.b 0, .pt n 0, .i (1 + imax q.h (1 + imax w.h p.h)), .i ec.id])), (w.b, .var (.agg [.i w.e.x, .i w.e.y, .i w.e.u, .i w.e.w, .pt n 0, w.lc, w.rc, .i w.h, .i w.e.id])), (p.b, .var (.agg [.i p.e.x, .i p.e.y, .i p.e.u, .i p.e.w, .pt n 0, p.lc, p.rc, .i p.h, .i p.e.id])), (q.b, .var (.agg [.i q.e.x, .i q.e.y, .i q.e.u, .i q.e.w, .pt c 0, q.lc, q.rc, .i q.h, .i q.e.id]))]) (fun b hb => by
      rw [show (p.kids.map (·.1)) = p.kns from rfl] at hb
      simp only [List.map_cons, List.map_nil, List.mem_cons, List.not_mem_nil, or_false, not_or]
      exact ⟨(Ne.symm (D 0 4 (Nat.le_of_ble_eq_true rfl) (Nat.le_of_ble_eq_true rfl) (by decide) _ (List.mem_singleton.2 rfl) _ hb)), (Ne.symm (D 1 4 (Nat.le_of_ble_eq_true rfl) (Nat.le_of_ble_eq_true rfl) (by decide) _ (List.mem_singleton.2 rfl) _ hb)), (Ne.symm (D 2 4 (Nat.le_of_ble_eq_true rfl) (Nat.le_of_ble_eq_true rfl) (by decide) _ (List.mem_singleton.2 rfl) _ hb)), (D 4 7 (Nat.le_of_ble_eq_true rfl) (Nat.le_of_ble_eq_true rfl) (by decide) _ hb _ (List.mem_singleton.2 rfl)), (Ne.symm (D 3 4 (Nat.le_of_ble_eq_true rfl) (Nat.le_of_ble_eq_true rfl) (by decide) _ (List.mem_singleton.2 rfl) _ hb)), (D 4 5 (Nat.le_of_ble_eq_true rfl) (Nat.le_of_ble_eq_true rfl) (by decide) _ hb _ (List.mem_singleton.2 rfl))⟩)
    have uq := mqk.upd (wb := [(bt, .var (.agg [.pt c 0, .mp bm])), (n, .var (.agg [.i (uniE w.e p.e).x, .i (uniE w.e p.e).y, .i (uniE w.e p.e).u, .i (uniE w.e p.e).w, .pt c 0, .pt w.b 0, .pt p.b 0, .i (1 + imax w.h p.h), .i e.id])), (c, .var (.agg [.i (uniE q.e (uniE w.e p.e)).x, .i (uniE q.e (uniE w.e p.e)).y, .i (uniE q.e (uniE w.e p.e)).u, .i (uniE q.e (uniE w.e p.e)).w, .sc (.pointer none), .pt q.b 0, .pt n 0, .i (1 + imax q.h (1 + imax w.h p.h)), .i ec.id])), (w.b, .var (.agg [.i w.e.x, .i w.e.y, .i w.e.u, .i w.e.w, .pt n 0, w.lc, w.rc, .i w.h, .i w.e.id])), (p.b, .var (.agg [.i p.e.x, .i p.e.y, .i p.e.u, .i p.e.w, .pt n 0, p.lc, p.rc, .i p.h, .i p.e.id])), (q.b, .var (.agg [.i q.e.x, .i q.e.y, .i q.e.u, .i q.e.w, .pt c 0, q.lc, q.rc, .i q.h, .i q.e.id]))]) (fun b hb => by
      rw [show (q.kids.map (·.1)) = q.kns from rfl] at hb
      simp only [List.map_cons, List.map_nil, List.mem_cons, List.not_mem_nil, or_false, not_or]
      exact ⟨(Ne.symm (D 0 6 (Nat.le_of_ble_eq_true rfl) (Nat.le_of_ble_eq_true rfl) (by decide) _ (List.mem_singleton.2 rfl) _ hb)), (Ne.symm (D 1 6 (Nat.le_of_ble_eq_true rfl) (Nat.le_of_ble_eq_true rfl) (by decide) _ (List.mem_singleton.2 rfl) _ hb)), (Ne.symm (D 2 6 (Nat.le_of_ble_eq_true rfl) (Nat.le_of_ble_eq_true rfl) (by decide) _ (List.mem_singleton.2 rfl) _ hb)), (D 6 7 (Nat.le_of_ble_eq_true rfl) (Nat.le_of_ble_eq_true rfl) (by decide) _ hb _ (List.mem_singleton.2 rfl)), (Ne.symm (D 3 6 (Nat.le_of_ble_eq_true rfl) (Nat.le_of_ble_eq_true rfl) (by decide) _ (List.mem_singleton.2 rfl) _ hb)), (Ne.symm (D 5 6 (Nat.le_of_ble_eq_true rfl) (Nat.le_of_ble_eq_true rfl) (by decide) _ (List.mem_singleton.2 rfl) _ hb))⟩)
    have uw := mwk.upd (wb := [(bt, .var (.agg [.pt c 0, .mp bm])), (n, .var (.agg [.i (uniE w.e p.e).x, .i (uniE w.e p.e).y, .i (uniE w.e p.e).u, .i (uniE w.e p.e).w, .pt c 0, .pt w.b 0, .pt p.b 0, .i (1 + imax w.h p.h), .i e.id])), (c, .var (.agg [.i (uniE q.e (uniE w.e p.e)).x, .i (uniE q.e (uniE w.e p.e)).y, .i (uniE q.e (uniE w.e p.e)).u, .i (uniE q.e (uniE w.e p.e)).w, .sc (.pointer none), .pt q.b 0, .pt n 0, .i (1 + imax q.h (1 + imax w.h p.h)), .i ec.id])), (w.b, .var (.agg [.i w.e.x, .i w.e.y, .i w.e.u, .i w.e.w, .pt n 0, w.lc, w.rc, .i w.h, .i w.e.id])), (p.b, .var (.agg [.i p.e.x, .i p.e.y, .i p.e.u, .i p.e.w, .pt n 0, p.lc, p.rc, .i p.h, .i p.e.id])), (q.b, .var (.agg [.i q.e.x, .i q.e.y, .i q.e.u, .i q.e.w, .pt c 0, q.lc, q.rc, .i q.h, .i q.e.id]))]) (fun b hb => by
      rw [show (w.kids.map (·.1)) = w.kns from rfl] at hb
      simp only [List.map_cons, List.map_nil, List.mem_cons, List.not_mem_nil, or_false, not_or]
      exact ⟨(Ne.symm (D 0 8 (Nat.le_of_ble_eq_true rfl) (Nat.le_of_ble_eq_true rfl) (by decide) _ (List.mem_singleton.2 rfl) _ hb)), (Ne.symm (D 1 8 (Nat.le_of_ble_eq_true rfl) (Nat.le_of_ble_eq_true rfl) (by decide) _ (List.mem_singleton.2 rfl) _ hb)), (Ne.symm (D 2 8 (Nat.le_of_ble_eq_true rfl) (Nat.le_of_ble_eq_true rfl) (by decide) _ (List.mem_singleton.2 rfl) _ hb)), (Ne.symm (D 7 8 (Nat.le_of_ble_eq_true rfl) (Nat.le_of_ble_eq_true rfl) (by decide) _ (List.mem_singleton.2 rfl) _ hb)), (Ne.symm (D 3 8 (Nat.le_of_ble_eq_true rfl) (Nat.le_of_ble_eq_true rfl) (by decide) _ (List.mem_singleton.2 rfl) _ hb)), (Ne.symm (D 5 8 (Nat.le_of_ble_eq_true rfl) (Nat.le_of_ble_eq_true rfl) (by decide) _ (List.mem_singleton.2 rfl) _ hb))⟩)
    refine ⟨upd_at hko (by simp only [hk_cons, z_bt_n, z_bt_c, z_bt_w, z_bt_p, z_bt_q, if_true, if_false]; try rfl), held_cons.2 ⟨upd_at hko (by simp only [hk_cons, z_c_bt, z_c_n, z_c_w, z_c_p, z_c_q, if_true, if_false]; simp only [NT.top, ndB, NT.fr, NT.e, NT.h, NT.lc, NT.rc, NT.b, NT.uni_id, hec]; try rfl), held_app.2 ⟨held_hp.2 ⟨upd_at hko (by simp only [hk_cons, z_q_bt, z_q_n, z_q_c, z_q_w, z_q_p, if_true, if_false]; try rfl), uq⟩, held_cons.2 ⟨upd_at hko (by simp only [hk_cons, z_n_bt, z_n_c, z_n_w, z_n_p, z_n_q, if_true, if_false]; simp only [NT.top, ndB, NT.e, NT.h, NT.lc, NT.rc, NT.b, NT.uni_id, he]; try rfl), held_app.2 ⟨held_hp.2 ⟨upd_at hko (by simp only [hk_cons, z_w_bt, z_w_n, z_w_c, z_w_p, z_w_q, if_true, if_false]; try rfl), uw⟩, held_hp.2 ⟨upd_at hko (by simp only [hk_cons, z_p_bt, z_p_n, z_p_c, z_p_w, z_p_q, if_true, if_false]; try rfl), up⟩⟩⟩⟩⟩, held_nil⟩
set_option maxHeartbeats 4000000 in
theorem rz_lL0 {nx bt bm n c : Nat} {e ec : En} {h hc : Int} {p q w : NT} {M : Nat → Option ABox} {gb : Nat} {eg : En} {hg : Int} {s : NT} {z3 : List Fr} (q_bm : bm < nx) (O : Opn nx M bt bm n e h (.nd c ec hc p q) w (⟨true, gb, eg, hg, s⟩ :: z3)) (he : e.id = 0) (hec : ec.id = 0) (b1 : 0 ≤ w.h ∧ w.h ≤ 900) (b2 : 0 ≤ p.h ∧ p.h ≤ 900) (b3 : 0 ≤ q.h ∧ q.h ≤ 900) (sw : ¬ p.h < q.h) :
    ∃ wb rb, CallS Try.prog M nx 49 [.pt bt 0, .pt n 0, .pt c 0] ⟨.pt c 0, wb, 0, rb⟩ ∧ Cls (updL M wb) bt bm (NT.rot n (.nd c ec hc p q) w) (⟨true, gb, eg, hg, s⟩ :: z3) := by
  have e0 : ([[bt], [n], [c], [p.b], p.kns, [q.b], q.kns, [w.b], w.kns, [gb], [s.b], s.kns, cns z3] : List (List Nat)).flatten = bt :: n :: ((NT.nos (.nd c ec hc p q)) ++ ((NT.nos w) ++ cns (⟨true, gb, eg, hg, s⟩ :: z3))) := by simp [NT.nos, NT.nos_eq, cns]
  have hnd : ([[bt], [n], [c], [p.b], p.kns, [q.b], q.kns, [w.b], w.kns, [gb], [s.b], s.kns, cns z3] : List (List Nat)).flatten.Nodup := by rw [e0]; exact O.fd
  have D := List.pairwise_iff_getElem.1 (List.pairwise_flatten.1 hnd).2
  have L : ∀ k ∈ ([[bt], [n], [c], [p.b], p.kns, [q.b], q.kns, [w.b], w.kns, [gb], [s.b], s.kns, cns z3] : List (List Nat)).flatten, k < nx := by rw [e0]; exact O.flt
  clear hnd e0
  have q_bt : bt < nx := L _ (by simp)
  have q_n : n < nx := L _ (by simp)
  have q_c : c < nx := L _ (by simp)
  have q_p : p.b < nx := L _ (by simp)
  have q_q : q.b < nx := L _ (by simp)
  have q_w : w.b < nx := L _ (by simp)
  have q_g : gb < nx := L _ (by simp)
  have q_s : s.b < nx := L _ (by simp)
  have Kw : ∀ k ∈ w.kns, k < nx := fun k hk => L k (by simp [hk])
  have Kp : ∀ k ∈ p.kns, k < nx := fun k hk => L k (by simp [hk])
  have Kq : ∀ k ∈ q.kns, k < nx := fun k hk => L k (by simp [hk])
  have Ks : ∀ k ∈ s.kns, k < nx := fun k hk => L k (by simp [hk])
  have Kz : ∀ k ∈ cns z3, k < nx := fun k hk => L k (by simp [hk])
  have z_g_n : (gb = n) = False := eq_false (Ne.symm (D 1 9 (Nat.le_of_ble_eq_true rfl) (Nat.le_of_ble_eq_true rfl) (by decide) _ (List.mem_singleton.2 rfl) _ (List.mem_singleton.2 rfl)))
  have z_g_c : (gb = c) = False := eq_false (Ne.symm (D 2 9 (Nat.le_of_ble_eq_true rfl) (Nat.le_of_ble_eq_true rfl) (by decide) _ (List.mem_singleton.2 rfl) _ (List.mem_singleton.2 rfl)))
  have z_g_w : (gb = w.b) = False := eq_false (Ne.symm (D 7 9 (Nat.le_of_ble_eq_true rfl) (Nat.le_of_ble_eq_true rfl) (by decide) _ (List.mem_singleton.2 rfl) _ (List.mem_singleton.2 rfl)))
  have z_g_p : (gb = p.b) = False := eq_false (Ne.symm (D 3 9 (Nat.le_of_ble_eq_true rfl) (Nat.le_of_ble_eq_true rfl) (by decide) _ (List.mem_singleton.2 rfl) _ (List.mem_singleton.2 rfl)))
  have z_g_q : (gb = q.b) = False := eq_false (Ne.symm (D 5 9 (Nat.le_of_ble_eq_true rfl) (Nat.le_of_ble_eq_true rfl) (by decide) _ (List.mem_singleton.2 rfl) _ (List.mem_singleton.2 rfl)))
  have z_n_g : (n = gb) = False := eq_false (D 1 9 (Nat.le_of_ble_eq_true rfl) (Nat.le_of_ble_eq_true rfl) (by decide) _ (List.mem_singleton.2 rfl) _ (List.mem_singleton.2 rfl))
  have z_n_c : (n = c) = False := eq_false (D 1 2 (Nat.le_of_ble_eq_true rfl) (Nat.le_of_ble_eq_true rfl) (by decide) _ (List.mem_singleton.2 rfl) _ (List.mem_singleton.2 rfl))
  have z_n_w : (n = w.b) = False := eq_false (D 1 7 (Nat.le_of_ble_eq_true rfl) (Nat.le_of_ble_eq_true rfl) (by decide) _ (List.mem_singleton.2 rfl) _ (List.mem_singleton.2 rfl))
  have z_n_p : (n = p.b) = False := eq_false (D 1 3 (Nat.le_of_ble_eq_true rfl) (Nat.le_of_ble_eq_true rfl) (by decide) _ (List.mem_singleton.2 rfl) _ (List.mem_singleton.2 rfl))
  have z_n_q : (n = q.b) = False := eq_false (D 1 5 (Nat.le_of_ble_eq_true rfl) (Nat.le_of_ble_eq_true rfl) (by decide) _ (List.mem_singleton.2 rfl) _ (List.mem_singleton.2 rfl))
  have z_c_g : (c = gb) = False := eq_false (D 2 9 (Nat.le_of_ble_eq_true rfl) (Nat.le_of_ble_eq_true rfl) (by decide) _ (List.mem_singleton.2 rfl) _ (List.mem_singleton.2 rfl))
  have z_c_n : (c = n) = False := eq_false (Ne.symm (D 1 2 (Nat.le_of_ble_eq_true rfl) (Nat.le_of_ble_eq_true rfl) (by decide) _ (List.mem_singleton.2 rfl) _ (List.mem_singleton.2 rfl)))
  have z_c_w : (c = w.b) = False := eq_false (D 2 7 (Nat.le_of_ble_eq_true rfl) (Nat.le_of_ble_eq_true rfl) (by decide) _ (List.mem_singleton.2 rfl) _ (List.mem_singleton.2 rfl))
  have z_c_p : (c = p.b) = False := eq_false (D 2 3 (Nat.le_of_ble_eq_true rfl) (Nat.le_of_ble_eq_true rfl) (by decide) _ (List.mem_singleton.2 rfl) _ (List.mem_singleton.2 rfl))
  have z_c_q : (c = q.b) = False := eq_false (D 2 5 (Nat.le_of_ble_eq_true rfl) (Nat.le_of_ble_eq_true rfl) (by decide) _ (List.mem_singleton.2 rfl) _ (List.mem_singleton.2 rfl))
  have z_w_g : (w.b = gb) = False := eq_false (D 7 9 (Nat.le_of_ble_eq_true rfl) (Nat.le_of_ble_eq_true rfl) (by decide) _ (List.mem_singleton.2 rfl) _ (List.mem_singleton.2 rfl))
  have z_w_n : (w.b = n) = False := eq_false (Ne.symm (D 1 7 (Nat.le_of_ble_eq_true rfl) (Nat.le_of_ble_eq_true rfl) (by decide) _ (List.mem_singleton.2 rfl) _ (List.mem_singleton.2 rfl)))
  have z_w_c : (w.b = c) = False := eq_false (Ne.symm (D 2 7 (Nat.le_of_ble_eq_true rfl) (Nat.le_of_ble_eq_true rfl) (by decide) _ (List.mem_singleton.2 rfl) _ (List.mem_singleton.2 rfl)))
  have z_w_p : (w.b = p.b) = False := eq_false (Ne.symm (D 3 7 (Nat.le_of_ble_eq_true rfl) (Nat.le_of_ble_eq_true rfl) (by decide) _ (List.mem_singleton.2 rfl) _ (List.mem_singleton.2 rfl)))
  have z_w_q : (w.b = q.b) = False := eq_false (Ne.symm (D 5 7 (Nat.le_of_ble_eq_true rfl) (Nat.le_of_ble_eq_true rfl) (by decide) _ (List.mem_singleton.2 rfl) _ (List.mem_singleton.2 rfl)))
  have z_p_g : (p.b = gb) = False := eq_false (D 3 9 (Nat.le_of_ble_eq_true rfl) (Nat.le_of_ble_eq_true rfl) (by decide) _ (List.mem_singleton.2 rfl) _ (List.mem_singleton.2 rfl))
  have z_p_n : (p.b = n) = False := eq_false (Ne.symm (D 1 3 (Nat.le_of_ble_eq_true rfl) (Nat.le_of_ble_eq_true rfl) (by decide) _ (List.mem_singleton.2 rfl) _ (List.mem_singleton.2 rfl)))
  have z_p_c : (p.b = c) = False := eq_false (Ne.symm (D 2 3 (Nat.le_of_ble_eq_true rfl) (Nat.le_of_ble_eq_true rfl) (by decide) _ (List.mem_singleton.2 rfl) _ (List.mem_singleton.2 rfl)))
  have z_p_w : (p.b = w.b) = False := eq_false (D 3 7 (Nat.le_of_ble_eq_true rfl) (Nat.le_of_ble_eq_true rfl) (by decide) _ (List.mem_singleton.2 rfl) _ (List.mem_singleton.2 rfl))
  have z_p_q : (p.b = q.b) = False := eq_false (D 3 5 (Nat.le_of_ble_eq_true rfl) (Nat.le_of_ble_eq_true rfl) (by decide) _ (List.mem_singleton.2 rfl) _ (List.mem_singleton.2 rfl))
  have z_q_g : (q.b = gb) = False := eq_false (D 5 9 (Nat.le_of_ble_eq_true rfl) (Nat.le_of_ble_eq_true rfl) (by decide) _ (List.mem_singleton.2 rfl) _ (List.mem_singleton.2 rfl))
  have z_q_n : (q.b = n) = False := eq_false (Ne.symm (D 1 5 (Nat.le_of_ble_eq_true rfl) (Nat.le_of_ble_eq_true rfl) (by decide) _ (List.mem_singleton.2 rfl) _ (List.mem_singleton.2 rfl)))
  have z_q_c : (q.b = c) = False := eq_false (Ne.symm (D 2 5 (Nat.le_of_ble_eq_true rfl) (Nat.le_of_ble_eq_true rfl) (by decide) _ (List.mem_singleton.2 rfl) _ (List.mem_singleton.2 rfl)))
  have z_q_w : (q.b = w.b) = False := eq_false (D 5 7 (Nat.le_of_ble_eq_true rfl) (Nat.le_of_ble_eq_true rfl) (by decide) _ (List.mem_singleton.2 rfl) _ (List.mem_singleton.2 rfl))
  have z_q_p : (q.b = p.b) = False := eq_false (Ne.symm (D 3 5 (Nat.le_of_ble_eq_true rfl) (Nat.le_of_ble_eq_true rfl) (by decide) _ (List.mem_singleton.2 rfl) _ (List.mem_singleton.2 rfl)))
  have mt := O.ft
  have mn := O.fn
  obtain ⟨mc, ml⟩ := held_hp.1 O.fl
  obtain ⟨mp', mq'⟩ := held_app.1 (show Held M (p.hp (.pt c 0) ++ q.hp (.pt c 0)) from ml)
  obtain ⟨mp, mpk⟩ := held_hp.1 mp'
  obtain ⟨mq, mqk⟩ := held_hp.1 mq'
  obtain ⟨mw, mwk⟩ := held_hp.1 O.fr
  obtain ⟨mg, mz⟩ := held_cons.1 (show Held M ((gb, _) :: (s.hp (.pt gb 0) ++ ctx z3 gb)) from O.fz)
  obtain ⟨msh, mz3⟩ := held_app.1 mz
  have hC := @c_rotlL0 nx gb n c w.b p.b q.b bt q_bt e ec w.e p.e q.e eg (.pt n 0) w.lc w.rc (.pt c 0) p.lc p.rc (.pt c 0) q.lc q.rc (paZ z3) (.pt s.b 0) h e.id hc ec.id w.h w.e.id p.h p.e.id q.h q.e.id hg eg.id q_g q_n q_c q_w q_p q_q (of_eq_false z_g_n) (of_eq_false z_g_c) (of_eq_false z_g_w) (of_eq_false z_g_p) (of_eq_false z_g_q) (of_eq_false z_n_c) (of_eq_false z_n_w) (of_eq_false z_n_p) (of_eq_false z_n_q) (of_eq_false z_c_w) (of_eq_false z_c_p) (of_eq_false z_c_q) (of_eq_false z_w_p) (of_eq_false z_w_q) (of_eq_false z_p_q) (lc_lt Kp) (lc_lt Kq) (lc_lt Kw) (pa_lt Kz) (Lt.pt _ _ q_c) (Lt.pt _ _ q_c) (Lt.pt _ _ q_n) (Lt.pt _ _ q_s) (rc_lt Kp) (rc_lt Kq) (rc_lt Kw) b1 b2 b3 sw
  have hko : keysOk ([(gb, .var (.agg [.i eg.x, .i eg.y, .i eg.u, .i eg.w, (paZ z3), .pt c 0, (.pt s.b 0), .i hg, .i eg.id])), (n, .var (.agg [.i (uniE w.e q.e).x, .i (uniE w.e q.e).y, .i (uniE w.e q.e).u, .i (uniE w.e q.e).w, .pt c 0, .pt w.b 0, .pt q.b 0, .i (1 + imax w.h q.h), .i e.id])), (c, .var (.agg [.i (uniE p.e (uniE w.e q.e)).x, .i (uniE p.e (uniE w.e q.e)).y, .i (uniE p.e (uniE w.e q.e)).u, .i (uniE p.e (uniE w.e q.e)).w, .pt gb 0, .pt p.b 0, .pt n 0, .i (1 + imax p.h (1 + imax w.h q.h)), .i ec.id])), (w.b, .var (.agg [.i w.e.x, .i w.e.y, .i w.e.u, .i w.e.w, .pt n 0, w.lc, w.rc, .i w.h, .i w.e.id])), (p.b, .var (.agg [.i p.e.x, .i p.e.y, .i p.e.u, .i p.e.w, .pt c 0, p.lc, p.rc, .i p.h, .i p.e.id])), (q.b, .var (.agg [.i q.e.x, .i q.e.y, .i q.e.u, .i q.e.w, .pt n 0, q.lc, q.rc, .i q.h, .i q.e.id]))] : HH) = true := by simp [keysOk, z_g_n, z_g_c, z_g_w, z_g_p, z_g_q, z_n_c, z_n_w, z_n_p, z_n_q, z_c_w, z_c_p, z_c_q, z_w_p, z_w_q, z_p_q]
  refine ⟨[(gb, .var (.agg [.i eg.x, .i eg.y, .i eg.u, .i eg.w, (paZ z3), .pt c 0, (.pt s.b 0), .i hg, .i eg.id])), (n, .var (.agg [.i (uniE w.e q.e).x, .i (uniE w.e q.e).y, .i (uniE w.e q.e).u, .i (uniE w.e q.e).w, .pt c 0, .pt w.b 0, .pt q.b 0, .i (1 + imax w.h q.h), .i e.id])), (c, .var (.agg [.i (uniE p.e (uniE w.e q.e)).x, .i (uniE p.e (uniE w.e q.e)).y, .i (uniE p.e (uniE w.e q.e)).u, .i (uniE p.e (uniE w.e q.e)).w, .pt gb 0, .pt p.b 0, .pt n 0, .i (1 + imax p.h (1 + imax w.h q.h)), .i ec.id])), (w.b, .var (.agg [.i w.e.x, .i w.e.y, .i w.e.u, .i w.e.w, .pt n 0, w.lc, w.rc, .i w.h, .i w.e.id])), (p.b, .var (.agg [.i p.e.x, .i p.e.y, .i p.e.u, .i p.e.w, .pt c 0, p.lc, p.rc, .i p.h, .i p.e.id])), (q.b, .var (.agg [.i q.e.x, .i q.e.y, .i q.e.u, .i q.e.w, .pt n 0, q.lc, q.rc, .i q.h, .i q.e.id]))], [gb, n, c, w.b, p.b, q.b], hC.congr (fun k hk' => ?_), ?_⟩
  · simp only [List.mem_cons, List.not_mem_nil, or_false] at hk'
    rcases hk' with rfl | rfl | rfl | rfl | rfl | rfl
    · refine mg.trans ?_
      simp only [hk_cons, z_g_n, z_g_c, z_g_w, z_g_p, z_g_q, if_true, if_false]
      try rfl
    · refine mn.trans ?_
      simp only [hk_cons, z_n_g, z_n_c, z_n_w, z_n_p, z_n_q, if_true, if_false]
      try rfl
    · refine mc.trans ?_
      simp only [hk_cons, z_c_g, z_c_n, z_c_w, z_c_p, z_c_q, if_true, if_false]
      try rfl
    · refine mw.trans ?_
      simp only [hk_cons, z_w_g, z_w_n, z_w_c, z_w_p, z_w_q, if_true, if_false]
      try rfl
    · refine mp.trans ?_
      simp only [hk_cons, z_p_g, z_p_n, z_p_c, z_p_w, z_p_q, if_true, if_false]
      try rfl
    · refine mq.trans ?_
      simp only [hk_cons, z_q_g, z_q_n, z_q_c, z_q_w, z_q_p, if_true, if_false]
      try rfl
  · have hr : NT.rot n (.nd c ec hc p q) w = NT.fr c p (NT.fr n w q) := if_neg sw
    rw [hr]
    have up := mpk.upd (wb := [(gb, .var (.agg [.i eg.x, .i eg.y, .i eg.u, .i eg.w, (paZ z3), .pt c 0, (.pt s.b 0), .i hg, .i eg.id])), (n, .var (.agg [.i (uniE w.e q.e).x, .i (uniE w.e q.e).y, .i (uniE w.e q.e).u, .i (uniE w.e q.e).w, .pt c 0, .pt w.b 0, .pt q.b 0, .i (1 + imax w.h q.h), .i e.id])), (c, .var (.agg [.i (uniE p.e (uniE w.e q.e)).x, .i (uniE p.e (uniE w.e q.e)).y, .i (uniE p.e (uniE w.e q.e)).u, .i (uniE p.e (uniE w.e q.e)).w, .pt gb 0, .pt p.b 0, .pt n 0, .i (1 + imax p.h (1 + imax w.h q.h)), .i ec.id])), (w.b, .var (.agg [.i w.e.x, .i w.e.y, .i w.e.u, .i w.e.w, .pt n 0, w.lc, w.rc, .i w.h, .i w.e.id])), (p.b, .var (.agg [.i p.e.x, .i p.e.y, .i p.e.u, .i p.e.w, .pt c 0, p.lc, p.rc, .i p.h, .i p.e.id])), (q.b, .var (.agg [.i q.e.x, .i q.e.y, .i q.e.u, .i q.e.w, .pt n 0, q.lc, q.rc, .i q.h, .i q.e.id]))]) (fun b hb => by
      rw [show (p.kids.map (·.1)) = p.kns from rfl] at hb
      simp only [List.map_cons, List.map_nil, List.mem_cons, List.not_mem_nil, or_false, not_or]
      exact ⟨(D 4 9 (Nat.le_of_ble_eq_true rfl) (Nat.le_of_ble_eq_true rfl) (by decide) _ hb _ (List.mem_singleton.2 rfl)), (Ne.symm (D 1 4 (Nat.le_of_ble_eq_true rfl) (Nat.le_of_ble_eq_true rfl) (by decide) _ (List.mem_singleton.2 rfl) _ hb)), (Ne.symm (D 2 4 (Nat.le_of_ble_eq_true rfl) (Nat.le_of_ble_eq_true rfl) (by decide) _ (List.mem_singleton.2 rfl) _ hb)), (D 4 7 (Nat.le_of_ble_eq_true rfl) (Nat.le_of_ble_eq_true rfl) (by decide) _ hb _ (List.mem_singleton.2 rfl)), (Ne.symm (D 3 4 (Nat.le_of_ble_eq_true rfl) (Nat.le_of_ble_eq_true rfl) (by decide) _ (List.mem_singleton.2 rfl) _ hb)), (D 4 5 (Nat.le_of_ble_eq_true rfl) (Nat.le_of_ble_eq_true rfl) (by decide) _ hb _ (List.mem_singleton.2 rfl))⟩)
    have uq := mqk.upd (wb := [(gb, .var (.agg [.i eg.x, .i eg.y, .i eg.u, .i eg.w, (paZ z3), .pt c 0, (.pt s.b 0), .i hg, .i eg.id])), (n, .var (.agg [.i (uniE w.e q.e).x, .i (uniE w.e q.e).y, .i (uniE w.e q.e).u, .i (uniE w.e q.e).w, .pt c 0, .pt w.b 0, .pt q.b 0, .i (1 + imax w.h q.h), .i e.id])), (c, .var (.agg [.i (uniE p.e (uniE w.e q.e)).x, .i (uniE p.e (uniE w.e q.e)).y, .i (uniE p.e (uniE w.e q.e)).u, .i (uniE p.e (uniE w.e q.e)).w, .pt gb 0, .pt p.b 0, .pt n 0, .i (1 + imax p.h (1 + imax w.h q.h)), .i ec.id])), (w.b, .var (.agg [.i w.e.x, .i w.e.y, .i w.e.u, .i w.e.w, .pt n 0, w.lc, w.rc, .i w.h, .i w.e.id])), (p.b, .var (.agg [.i p.e.x, .i p.e.y, .i p.e.u, .i p.e.w, .pt c 0, p.lc, p.rc, .i p.h, .i p.e.id])), (q.b, .var (.agg [.i q.e.x, .i q.e.y, .i q.e.u, .i q.e.w, .pt n 0, q.lc, q.rc, .i q.h, .i q.e.id]))]) (fun b hb => by
      rw [show (q.kids.map (·.1)) = q.kns from rfl] at hb
      simp only [List.map_cons, List.map_nil, List.mem_cons, List.not_mem_nil, or_false, not_or]
      exact ⟨(D 6 9 (Nat.le_of_ble_eq_true rfl) (Nat.le_of_ble_eq_true rfl) (by decide) _ hb _ (List.mem_singleton.2 rfl)), (Ne.symm (D 1 6 (Nat.le_of_ble_eq_true rfl) (Nat.le_of_ble_eq_true rfl) (by decide) _ (List.mem_singleton.2 rfl) _ hb)), (Ne.symm (D 2 6 (Nat.le_of_ble_eq_true rfl) (Nat.le_of_ble_eq_true rfl) (by decide) _ (List.mem_singleton.2 rfl) _ hb)), (D 6 7 (Nat.le_of_ble_eq_true rfl) (Nat.le_of_ble_eq_true rfl) (by decide) _ hb _ (List.mem_singleton.2 rfl)), (Ne.symm (D 3 6 (Nat.le_of_ble_eq_true rfl) (Nat.le_of_ble_eq_true rfl) (by decide) _ (List.mem_singleton.2 rfl) _ hb)), (Ne.symm (D 5 6 (Nat.le_of_ble_eq_true rfl) (Nat.le_of_ble_eq_true rfl) (by decide) _ (List.mem_singleton.2 rfl) _ hb))⟩)
    have uw := mwk.upd (wb := [(gb, .var (.agg [.i eg.x, .i eg.y, .i eg.u, .i eg.w, (paZ z3), .pt c 0, (.pt s.b 0), .i hg, .i eg.id])), (n, .var (.agg [.i (uniE w.e q.e).x, .i (uniE w.e q.e).y, .i (uniE w.e q.e).u, .i (uniE w.e q.e).w, .pt c 0, .pt w.b 0, .pt q.b 0, .i (1 + imax w.h q.h), .i e.id])), (c, .var (.agg [.i (uniE p.e (uniE w.e q.e)).x, .i (uniE p.e (uniE w.e q.e)).y, .i (uniE p.e (uniE w.e q.e)).u, .i (uniE p.e (uniE w.e q.e)).w, .pt gb 0, .pt p.b 0, .pt n 0, .i (1 + imax p.h (1 + imax w.h q.h)), .i ec.id])), (w.b, .var (.agg [.i w.e.x, .i w.e.y, .i w.e.u, .i w.e.w, .pt n 0, w.lc, w.rc, .i w.h, .i w.e.id])), (p.b, .var (.agg [.i p.e.x, .i p.e.y, .i p.e.u, .i p.e.w, .pt c 0, p.lc, p.rc, .i p.h, .i p.e.id])), (q.b, .var (.agg [.i q.e.x, .i q.e.y, .i q.e.u, .i q.e.w, .pt n 0, q.lc, q.rc, .i q.h, .i q.e.id]))]) (fun b hb => by
      rw [show (w.kids.map (·.1)) = w.kns from rfl] at hb
      simp only [List.map_cons, List.map_nil, List.mem_cons, List.not_mem_nil, or_false, not_or]
      exact ⟨(D 8 9 (Nat.le_of_ble_eq_true rfl) (Nat.le_of_ble_eq_true rfl) (by decide) _ hb _ (List.mem_singleton.2 rfl)), (Ne.symm (D 1 8 (Nat.le_of_ble_eq_true rfl) (Nat.le_of_ble_eq_true rfl) (by decide) _ (List.mem_singleton.2 rfl) _ hb)), (Ne.symm (D 2 8 (Nat.le_of_ble_eq_true rfl) (Nat.le_of_ble_eq_true rfl) (by decide) _ (List.mem_singleton.2 rfl) _ hb)), (Ne.symm (D 7 8 (Nat.le_of_ble_eq_true rfl) (Nat.le_of_ble_eq_true rfl) (by decide) _ (List.mem_singleton.2 rfl) _ hb)), (Ne.symm (D 3 8 (Nat.le_of_ble_eq_true rfl) (Nat.le_of_ble_eq_true rfl) (by decide) _ (List.mem_singleton.2 rfl) _ hb)), (Ne.symm (D 5 8 (Nat.le_of_ble_eq_true rfl) (Nat.le_of_ble_eq_true rfl) (by decide) _ (List.mem_singleton.2 rfl) _ hb))⟩)
    have uz := mz3.upd (wb := [(gb, .var (.agg [.i eg.x, .i eg.y, .i eg.u, .i eg.w, (paZ z3), .pt c 0, (.pt s.b 0), .i hg, .i eg.id])), (n, .var (.agg [.i (uniE w.e q.e).x, .i (uniE w.e q.e).y, .i (uniE w.e q.e).u, .i (uniE w.e q.e).w, .pt c 0, .pt w.b 0, .pt q.b 0, .i (1 + imax w.h q.h), .i e.id])), (c, .var (.agg [.i (uniE p.e (uniE w.e q.e)).x, .i (uniE p.e (uniE w.e q.e)).y, .i (uniE p.e (uniE w.e q.e)).u, .i (uniE p.e (uniE w.e q.e)).w, .pt gb 0, .pt p.b 0, .pt n 0, .i (1 + imax p.h (1 + imax w.h q.h)), .i ec.id])), (w.b, .var (.agg [.i w.e.x, .i w.e.y, .i w.e.u, .i w.e.w, .pt n 0, w.lc, w.rc, .i w.h, .i w.e.id])), (p.b, .var (.agg [.i p.e.x, .i p.e.y, .i p.e.u, .i p.e.w, .pt c 0, p.lc, p.rc, .i p.h, .i p.e.id])), (q.b, .var (.agg [.i q.e.x, .i q.e.y, .i q.e.u, .i q.e.w, .pt n 0, q.lc, q.rc, .i q.h, .i q.e.id]))]) (fun b hb => by
      rw [ctx_nos] at hb
      simp only [List.map_cons, List.map_nil, List.mem_cons, List.not_mem_nil, or_false, not_or]
      exact ⟨(Ne.symm (D 9 12 (Nat.le_of_ble_eq_true rfl) (Nat.le_of_ble_eq_true rfl) (by decide) _ (List.mem_singleton.2 rfl) _ hb)), (Ne.symm (D 1 12 (Nat.le_of_ble_eq_true rfl) (Nat.le_of_ble_eq_true rfl) (by decide) _ (List.mem_singleton.2 rfl) _ hb)), (Ne.symm (D 2 12 (Nat.le_of_ble_eq_true rfl) (Nat.le_of_ble_eq_true rfl) (by decide) _ (List.mem_singleton.2 rfl) _ hb)), (Ne.symm (D 7 12 (Nat.le_of_ble_eq_true rfl) (Nat.le_of_ble_eq_true rfl) (by decide) _ (List.mem_singleton.2 rfl) _ hb)), (Ne.symm (D 3 12 (Nat.le_of_ble_eq_true rfl) (Nat.le_of_ble_eq_true rfl) (by decide) _ (List.mem_singleton.2 rfl) _ hb)), (Ne.symm (D 5 12 (Nat.le_of_ble_eq_true rfl) (Nat.le_of_ble_eq_true rfl) (by decide) _ (List.mem_singleton.2 rfl) _ hb))⟩)
    have us := msh.upd (wb := [(gb, .var (.agg [.i eg.x, .i eg.y, .i eg.u, .i eg.w, (paZ z3), .pt c 0, (.pt s.b 0), .i hg, .i eg.id])), (n, .var (.agg [.i (uniE w.e q.e).x, .i (uniE w.e q.e).y, .i (uniE w.e q.e).u, .i (uniE w.e q.e).w, .pt c 0, .pt w.b 0, .pt q.b 0, .i (1 + imax w.h q.h), .i e.id])), (c, .var (.agg [.i (uniE p.e (uniE w.e q.e)).x, .i (uniE p.e (uniE w.e q.e)).y, .i (uniE p.e (uniE w.e q.e)).u, .i (uniE p.e (uniE w.e q.e)).w, .pt gb 0, .pt p.b 0, .pt n 0, .i (1 + imax p.h (1 + imax w.h q.h)), .i ec.id])), (w.b, .var (.agg [.i w.e.x, .i w.e.y, .i w.e.u, .i w.e.w, .pt n 0, w.lc, w.rc, .i w.h, .i w.e.id])), (p.b, .var (.agg [.i p.e.x, .i p.e.y, .i p.e.u, .i p.e.w, .pt c 0, p.lc, p.rc, .i p.h, .i p.e.id])), (q.b, .var (.agg [.i q.e.x, .i q.e.y, .i q.e.u, .i q.e.w, .pt n 0, q.lc, q.rc, .i q.h, .i q.e.id]))]) (fun b hb => by
      rw [NT.hp_nos, NT.nos_eq, List.mem_cons] at hb
      simp only [List.map_cons, List.map_nil, List.mem_cons, List.not_mem_nil, or_false, not_or]
      rcases hb with rfl | hb
      · exact ⟨(Ne.symm (D 9 10 (Nat.le_of_ble_eq_true rfl) (Nat.le_of_ble_eq_true rfl) (by decide) _ (List.mem_singleton.2 rfl) _ (List.mem_singleton.2 rfl))), (Ne.symm (D 1 10 (Nat.le_of_ble_eq_true rfl) (Nat.le_of_ble_eq_true rfl) (by decide) _ (List.mem_singleton.2 rfl) _ (List.mem_singleton.2 rfl))), (Ne.symm (D 2 10 (Nat.le_of_ble_eq_true rfl) (Nat.le_of_ble_eq_true rfl) (by decide) _ (List.mem_singleton.2 rfl) _ (List.mem_singleton.2 rfl))), (Ne.symm (D 7 10 (Nat.le_of_ble_eq_true rfl) (Nat.le_of_ble_eq_true rfl) (by decide) _ (List.mem_singleton.2 rfl) _ (List.mem_singleton.2 rfl))), (Ne.symm (D 3 10 (Nat.le_of_ble_eq_true rfl) (Nat.le_of_ble_eq_true rfl) (by decide) _ (List.mem_singleton.2 rfl) _ (List.mem_singleton.2 rfl))), (Ne.symm (D 5 10 (Nat.le_of_ble_eq_true rfl) (Nat.le_of_ble_eq_true rfl) (by decide) _ (List.mem_singleton.2 rfl) _ (List.mem_singleton.2 rfl)))⟩
      · exact ⟨(Ne.symm (D 9 11 (Nat.le_of_ble_eq_true rfl) (Nat.le_of_ble_eq_true rfl) (by decide) _ (List.mem_singleton.2 rfl) _ hb)), (Ne.symm (D 1 11 (Nat.le_of_ble_eq_true rfl) (Nat.le_of_ble_eq_true rfl) (by decide) _ (List.mem_singleton.2 rfl) _ hb)), (Ne.symm (D 2 11 (Nat.le_of_ble_eq_true rfl) (Nat.le_of_ble_eq_true rfl) (by decide) _ (List.mem_singleton.2 rfl) _ hb)), (Ne.symm (D 7 11 (Nat.le_of_ble_eq_true rfl) (Nat.le_of_ble_eq_true rfl) (by decide) _ (List.mem_singleton.2 rfl) _ hb)), (Ne.symm (D 3 11 (Nat.le_of_ble_eq_true rfl) (Nat.le_of_ble_eq_true rfl) (by decide) _ (List.mem_singleton.2 rfl) _ hb)), (Ne.symm (D 5 11 (Nat.le_of_ble_eq_true rfl) (Nat.le_of_ble_eq_true rfl) (by decide) _ (List.mem_singleton.2 rfl) _ hb))⟩)
    refine ⟨(updL_other _ _ _ (by simp only [List.map_cons, List.map_nil, List.mem_cons, List.not_mem_nil, or_false, not_or]; exact ⟨(D 0 9 (Nat.le_of_ble_eq_true rfl) (Nat.le_of_ble_eq_true rfl) (by decide) _ (List.mem_singleton.2 rfl) _ (List.mem_singleton.2 rfl)), (D 0 1 (Nat.le_of_ble_eq_true rfl) (Nat.le_of_ble_eq_true rfl) (by decide) _ (List.mem_singleton.2 rfl) _ (List.mem_singleton.2 rfl)), (D 0 2 (Nat.le_of_ble_eq_true rfl) (Nat.le_of_ble_eq_true rfl) (by decide) _ (List.mem_singleton.2 rfl) _ (List.mem_singleton.2 rfl)), (D 0 7 (Nat.le_of_ble_eq_true rfl) (Nat.le_of_ble_eq_true rfl) (by decide) _ (List.mem_singleton.2 rfl) _ (List.mem_singleton.2 rfl)), (D 0 3 (Nat.le_of_ble_eq_true rfl) (Nat.le_of_ble_eq_true rfl) (by decide) _ (List.mem_singleton.2 rfl) _ (List.mem_singleton.2 rfl)), (D 0 5 (Nat.le_of_ble_eq_true rfl) (Nat.le_of_ble_eq_true rfl) (by decide) _ (List.mem_singleton.2 rfl) _ (List.mem_singleton.2 rfl))⟩)).trans mt, held_cons.2 ⟨upd_at hko (by simp only [hk_cons, z_c_g, z_c_n, z_c_w, z_c_p, z_c_q, if_true, if_false]; simp only [NT.top, ndB, NT.fr, NT.e, NT.h, NT.lc, NT.rc, NT.b, NT.uni_id, hec]; try rfl), held_app.2 ⟨held_hp.2 ⟨upd_at hko (by simp only [hk_cons, z_p_g, z_p_n, z_p_c, z_p_w, z_p_q, if_true, if_false]; try rfl), up⟩, held_cons.2 ⟨upd_at hko (by simp only [hk_cons, z_n_g, z_n_c, z_n_w, z_n_p, z_n_q, if_true, if_false]; simp only [NT.top, ndB, NT.e, NT.h, NT.lc, NT.rc, NT.b, NT.uni_id, he]; try rfl), held_app.2 ⟨held_hp.2 ⟨upd_at hko (by simp only [hk_cons, z_w_g, z_w_n, z_w_c, z_w_p, z_w_q, if_true, if_false]; try rfl), uw⟩, held_hp.2 ⟨upd_at hko (by simp only [hk_cons, z_q_g, z_q_n, z_q_c, z_q_w, z_q_p, if_true, if_false]; try rfl), uq⟩⟩⟩⟩⟩, held_cons.2 ⟨upd_at hko (by simp only [hk_cons, z_g_n, z_g_c, z_g_w, z_g_p, z_g_q, if_true, if_false]; try rfl), held_app.2 ⟨us, uz⟩⟩⟩
set_option maxHeartbeats 4000000 in
theorem rz_lL1 {nx bt bm n c : Nat} {e ec : En} {h hc : Int} {p q w : NT} {M : Nat → Option ABox} {gb : Nat} {eg : En} {hg : Int} {s : NT} {z3 : List Fr} (q_bm : bm < nx) (O : Opn nx M bt bm n e h (.nd c ec hc p q) w (⟨true, gb, eg, hg, s⟩ :: z3)) (he : e.id = 0) (hec : ec.id = 0) (b1 : 0 ≤ w.h ∧ w.h ≤ 900) (b2 : 0 ≤ p.h ∧ p.h ≤ 900) (b3 : 0 ≤ q.h ∧ q.h ≤ 900) (sw : p.h < q.h) :
    ∃ wb rb, CallS Try.prog M nx 49 [.pt bt 0, .pt n 0, .pt c 0] ⟨.pt c 0, wb, 0, rb⟩ ∧ Cls (updL M wb) bt bm (NT.rot n (.nd c ec hc p q) w) (⟨true, gb, eg, hg, s⟩ :: z3) := by
  have e0 : ([[bt], [n], [c], [p.b], p.kns, [q.b], q.kns, [w.b], w.kns, [gb], [s.b], s.kns, cns z3] : List (List Nat)).flatten = bt :: n :: ((NT.nos (.nd c ec hc p q)) ++ ((NT.nos w) ++ cns (⟨true, gb, eg, hg, s⟩ :: z3))) := by simp [NT.nos, NT.nos_eq, cns]
  have hnd : ([[bt], [n], [c], [p.b], p.kns, [q.b], q.kns, [w.b], w.kns, [gb], [s.b], s.kns, cns z3] : List (List Nat)).flatten.Nodup := by rw [e0]; exact O.fd
  have D := List.pairwise_iff_getElem.1 (List.pairwise_flatten.1 hnd).2
  have L : ∀ k ∈ ([[bt], [n], [c], [p.b], p.kns, [q.b], q.kns, [w.b], w.kns, [gb], [s.b], s.kns, cns z3] : List (List Nat)).flatten, k < nx := by rw [e0]; exact O.flt
  clear hnd e0
  have q_bt : bt < nx := L _ (by simp)
  have q_n : n < nx := L _ (by simp)
  have q_c : c < nx := L _ (by simp)
  have q_p : p.b < nx := L _ (by simp)
  have q_q : q.b < nx := L _ (by simp)
  have q_w : w.b < nx := L _ (by simp)
  have q_g : gb < nx := L _ (by simp)
  have q_s : s.b < nx := L _ (by simp)
  have Kw : ∀ k ∈ w.kns, k < nx := fun k hk => L k (by simp [hk])
  have Kp : ∀ k ∈ p.kns, k < nx := fun k hk => L k (by simp [hk])
  have Kq : ∀ k ∈ q.kns, k < nx := fun k hk => L k (by simp [hk])
  have Ks : ∀ k ∈ s.kns, k < nx := fun k hk => L k (by simp [hk])
  have Kz : ∀ k ∈ cns z3, k < nx := fun k hk => L k (by simp [hk])
  have z_g_n : (gb = n) = False := eq_false (Ne.symm (D 1 9 (Nat.le_of_ble_eq_true rfl) (Nat.le_of_ble_eq_true rfl) (by decide) _ (List.mem_singleton.2 rfl) _ (List.mem_singleton.2 rfl)))
  have z_g_c : (gb = c) = False := eq_false (Ne.symm (D 2 9 (Nat.le_of_ble_eq_true rfl) (Nat.le_of_ble_eq_true rfl) (by decide) _ (List.mem_singleton.2 rfl) _ (List.mem_singleton.2 rfl)))
  have z_g_w : (gb = w.b) = False := eq_false (Ne.symm (D 7 9 (Nat.le_of_ble_eq_true rfl) (Nat.le_of_ble_eq_true rfl) (by decide) _ (List.mem_singleton.2 rfl) _ (List.mem_singleton.2 rfl)))
  have z_g_p : (gb = p.b) = False := eq_false (Ne.symm (D 3 9 (Nat.le_of_ble_eq_true rfl) (Nat.le_of_ble_eq_true rfl) (by decide) _ (List.mem_singleton.2 rfl) _ (List.mem_singleton.2 rfl)))
  have z_g_q : (gb = q.b) = False := eq_false (Ne.symm (D 5 9 (Nat.le_of_ble_eq_true rfl) (Nat.le_of_ble_eq_true rfl) (by decide) _ (List.mem_singleton.2 rfl) _ (List.mem_singleton.2 rfl)))
  have z_n_g : (n = gb) = False := eq_false (D 1 9 (Nat.le_of_ble_eq_true rfl) (Nat.le_of_ble_eq_true rfl) (by decide) _ (List.mem_singleton.2 rfl) _ (List.mem_singleton.2 rfl))
  have z_n_c : (n = c) = False := eq_false (D 1 2 (Nat.le_of_ble_eq_true rfl) (Nat.le_of_ble_eq_true rfl) (by decide) _ (List.mem_singleton.2 rfl) _ (List.mem_singleton.2 rfl))
  have z_n_w : (n = w.b) = False := eq_false (D 1 7 (Nat.le_of_ble_eq_true rfl) (Nat.le_of_ble_eq_true rfl) (by decide) _ (List.mem_singleton.2 rfl) _ (List.mem_singleton.2 rfl))
  have z_n_p : (n = p.b) = False := eq_false (D 1 3 (Nat.le_of_ble_eq_true rfl) (Nat.le_of_ble_eq_true rfl) (by decide) _ (List.mem_singleton.2 rfl) _ (List.mem_singleton.2 rfl))
  have z_n_q : (n = q.b) = False := eq_false (D 1 5 (Nat.le_of_ble_eq_true rfl) (Nat.le_of_ble_eq_true rfl) (by decide) _ (List.mem_singleton.2 rfl) _ (List.mem_singleton.2 rfl))
  have z_c_g : (c = gb) = False := eq_false (D 2 9 (Nat.le_of_ble_eq_true rfl) (Nat.le_of_ble_eq_true rfl) (by decide) _ (List.mem_singleton.2 rfl) _ (List.mem_singleton.2 rfl))
  have z_c_n : (c = n) = False := eq_false (Ne.symm (D 1 2 (Nat.le_of_ble_eq_true rfl) (Nat.le_of_ble_eq_true rfl) (by decide) _ (List.mem_singleton.2 rfl) _ (List.mem_singleton.2 rfl)))
  have z_c_w : (c = w.b) = False := eq_false (D 2 7 (Nat.le_of_ble_eq_true rfl) (Nat.le_of_ble_eq_true rfl) (by decide) _ (List.mem_singleton.2 rfl) _ (List.mem_singleton.2 rfl))
  have z_c_p : (c = p.b) = False := eq_false (D 2 3 (Nat.le_of_ble_eq_true rfl) (Nat.le_of_ble_eq_true rfl) (by decide) _ (List.mem_singleton.2 rfl) _ (List.mem_singleton.2 rfl))
  have z_c_q : (c = q.b) = False := eq_false (D 2 5 (Nat.le_of_ble_eq_true rfl) (Nat.le_of_ble_eq_true rfl) (by decide) _ (List.mem_singleton.2 rfl) _ (List.mem_singleton.2 rfl))
  have z_w_g : (w.b = gb) = False := eq_false (D 7 9 (Nat.le_of_ble_eq_true rfl) (Nat.le_of_ble_eq_true rfl) (by decide) _ (List.mem_singleton.2 rfl) _ (List.mem_singleton.2 rfl))
  have z_w_n : (w.b = n) = False := eq_false (Ne.symm (D 1 7 (Nat.le_of_ble_eq_true rfl) (Nat.le_of_ble_eq_true rfl) (by decide) _ (List.mem_singleton.2 rfl) _ (List.mem_singleton.2 rfl)))
  have z_w_c : (w.b = c) = False := eq_false (Ne.symm (D 2 7 (Nat.le_of_ble_eq_true rfl) (Nat.le_of_ble_eq_true rfl) (by decide) _ (List.mem_singleton.2 rfl) _ (List.mem_singleton.2 rfl)))
  have z_w_p : (w.b = p.b) = False := eq_false (Ne.symm (D 3 7 (Nat.le_of_ble_eq_true rfl) (Nat.le_of_ble_eq_true rfl) (by decide) _ (List.mem_singleton.2 rfl) _ (List.mem_singleton.2 rfl)))
  have z_w_q : (w.b = q.b) = False := eq_false (Ne.symm (D 5 7 (Nat.le_of_ble_eq_true rfl) (Nat.le_of_ble_eq_true rfl) (by decide) _ (List.mem_singleton.2 rfl) _ (List.mem_singleton.2 rfl)))
  have z_p_g : (p.b = gb) = False := eq_false (D 3 9 (Nat.le_of_ble_eq_true rfl) (Nat.le_of_ble_eq_true rfl) (by decide) _ (List.mem_singleton.2 rfl) _ (List.mem_singleton.2 rfl))
  have z_p_n : (p.b = n) = False := eq_false (Ne.symm (D 1 3 (Nat.le_of_ble_eq_true rfl) (Nat.le_of_ble_eq_true rfl) (by decide) _ (List.mem_singleton.2 rfl) _ (List.mem_singleton.2 rfl)))
  have z_p_c : (p.b = c) = False := eq_false (Ne.symm (D 2 3 (Nat.le_of_ble_eq_true rfl) (Nat.le_of_ble_eq_true rfl) (by decide) _ (List.mem_singleton.2 rfl) _ (List.mem_singleton.2 rfl)))
  have z_p_w : (p.b = w.b) = False := eq_false (D 3 7 (Nat.le_of_ble_eq_true rfl) (Nat.le_of_ble_eq_true rfl) (by decide) _ (List.mem_singleton.2 rfl) _ (List.mem_singleton.2 rfl))
  have z_p_q : (p.b = q.b) = False := eq_false (D 3 5 (Nat.le_of_ble_eq_true rfl) (Nat.le_of_ble_eq_true rfl) (by decide) _ (List.mem_singleton.2 rfl) _ (List.mem_singleton.2 rfl))
  have z_q_g : (q.b = gb) = False := eq_false (D 5 9 (Nat.le_of_ble_eq_true rfl) (Nat.le_of_ble_eq_true rfl) (by decide) _ (List.mem_singleton.2 rfl) _ (List.mem_singleton.2 rfl))
  have z_q_n : (q.b = n) = False := eq_false (Ne.symm (D 1 5 (Nat.le_of_ble_eq_true rfl) (Nat.le_of_ble_eq_true rfl) (by decide) _ (List.mem_singleton.2 rfl) _ (List.mem_singleton.2 rfl)))
  have z_q_c : (q.b = c) = False := eq_false (Ne.symm (D 2 5 (Nat.le_of_ble_eq_true rfl) (Nat.le_of_ble_eq_true rfl) (by decide) _ (List.mem_singleton.2 rfl) _ (List.mem_singleton.2 rfl)))
  have z_q_w : (q.b = w.b) = False := eq_false (D 5 7 (Nat.le_of_ble_eq_true rfl) (Nat.le_of_ble_eq_true rfl) (by decide) _ (List.mem_singleton.2 rfl) _ (List.mem_singleton.2 rfl))
  have z_q_p : (q.b = p.b) = False := eq_false (Ne.symm (D 3 5 (Nat.le_of_ble_eq_true rfl) (Nat.le_of_ble_eq_true rfl) (by decide) _ (List.mem_singleton.2 rfl) _ (List.mem_singleton.2 rfl)))
  have mt := O.ft
  have mn := O.fn
  obtain ⟨mc, ml⟩ := held_hp.1 O.fl
  obtain ⟨mp', mq'⟩ := held_app.1 (show Held M (p.hp (.pt c 0) ++ q.hp (.pt c 0)) from ml)
  obtain ⟨mp, mpk⟩ := held_hp.1 mp'
  obtain ⟨mq, mqk⟩ := held_hp.1 mq'
  obtain ⟨mw, mwk⟩ := held_hp.1 O.fr
  obtain ⟨mg, mz⟩ := held_cons.1 (show Held M ((gb, _) :: (s.hp (.pt gb 0) ++ ctx z3 gb)) from O.fz)
  obtain ⟨msh, mz3⟩ := held_app.1 mz
  have hC := @c_rotlL1 nx gb n c w.b p.b q.b bt q_bt e ec w.e p.e q.e eg (.pt n 0) w.lc w.rc (.pt c 0) p.lc p.rc (.pt c 0) q.lc q.rc (paZ z3) (.pt s.b 0) h e.id hc ec.id w.h w.e.id p.h p.e.id q.h q.e.id hg eg.id q_g q_n q_c q_w q_p q_q (of_eq_false z_g_n) (of_eq_false z_g_c) (of_eq_false z_g_w) (of_eq_false z_g_p) (of_eq_false z_g_q) (of_eq_false z_n_c) (of_eq_false z_n_w) (of_eq_false z_n_p) (of_eq_false z_n_q) (of_eq_false z_c_w) (of_eq_false z_c_p) (of_eq_false z_c_q) (of_eq_false z_w_p) (of_eq_false z_w_q) (of_eq_false z_p_q) (lc_lt Kp) (lc_lt Kq) (lc_lt Kw) (pa_lt Kz) (Lt.pt _ _ q_c) (Lt.pt _ _ q_c) (Lt.pt _ _ q_n) (Lt.pt _ _ q_s) (rc_lt Kp) (rc_lt Kq) (rc_lt Kw) b1 b2 b3 sw
  have hko : keysOk ([(gb, .var (.agg [.i eg.x, .i eg.y, .i eg.u, .i eg.w, (paZ z3), .pt c 0, (.pt s.b 0), .i hg, .i eg.id])), (n, .var (.agg [.i (uniE w.e p.e).x, .i (uniE w.e p.e).y, .i (uniE w.e p.e).u, .i (uniE w.e p.e).w, .pt c 0, .pt w.b 0, .pt p.b 0, .i (1 + imax w.h p.h), .i e.id])), (c, .var (.agg [.i (uniE q.e (uniE w.e p.e)).x, .i (uniE q.e (uniE w.e p.e)).y, .i (uniE q.e (uniE w.e p.e)).u, .i (uniE q.e (uniE w.e p.e)).w, .pt gb 0, .pt q.b 0, .pt n 0, .i (1 + imax q.h (1 + imax w.h p.h)), .i ec.id])), (w.b, .var (.agg [.i w.e.x, .i w.e.y, .i w.e.u, .i w.e.w, .pt n 0, w.lc, w.rc, .i w.h, .i w.e.id])), (p.b, .var (.agg [.i p.e.x, .i p.e.y, .i p.e.u, .i p.e.w, .pt n 0, p.lc, p.rc, .i p.h, .i p.e.id])), (q.b, .var (.agg [.i q.e.x, .i q.e.y, .i q.e.u, .i q.e.w, .pt c 0, q.lc, q.rc, .i q.h, .i q.e.id]))] : HH) = true := by simp [keysOk, z_g_n, z_g_c, z_g_w, z_g_p, z_g_q, z_n_c, z_n_w, z_n_p, z_n_q, z_c_w, z_c_p, z_c_q, z_w_p, z_w_q, z_p_q]
  refine ⟨[(gb, .var (.agg [.i eg.x, .i eg.y, .i eg.u, .i eg.w, (paZ z3), .pt c 0, (.pt s.b 0), .i hg, .i eg.id])), (n, .var (.agg [.i (uniE w.e p.e).x, .i (uniE w.e p.e).y, .i (uniE w.e p.e).u, .i (uniE w.e p.e).w, .pt c 0, .pt w.b 0, .pt p.b 0, .i (1 + imax w.h p.h), .i e.id])), (c, .var (.agg [.i (uniE q.e (uniE w.e p.e)).x, .i (uniE q.e (uniE w.e p.e)).y, .i (uniE q.e (uniE w.e p.e)).u, .i (uniE q.e (uniE w.e p.e)).w, .pt gb 0, .pt q.b 0, .pt n 0, .i (1 + imax q.h (1 + imax w.h p.h)), .i ec.id])), (w.b, .var (.agg [.i w.e.x, .i w.e.y, .i w.e.u, .i w.e.w, .pt n 0, w.lc, w.rc, .i w.h, .i w.e.id])), (p.b, .var (.agg [.i p.e.x, .i p.e.y, .i p.e.u, .i p.e.w, .pt n 0, p.lc, p.rc, .i p.h, .i p.e.id])), (q.b, .var (.agg [.i q.e.x, .i q.e.y, .i q.e.u, .i q.e.w, .pt c 0, q.lc, q.rc, .i q.h, .i q.e.id]))], [gb, n, c, w.b, p.b, q.b], hC.congr (fun k hk' => ?_), ?_⟩
  · simp only [List.mem_cons, List.not_mem_nil, or_false] at hk'
    rcases hk' with rfl | rfl | rfl | rfl | rfl | rfl
    · refine mg.trans ?_
      simp only [hk_cons, z_g_n, z_g_c, z_g_w, z_g_p, z_g_q, if_true, if_false]
      try rfl
    · refine mn.trans ?_
      simp only [hk_cons, z_n_g, z_n_c, z_n_w, z_n_p, z_n_q, if_true, if_false]
      try rfl
    · refine mc.trans ?_
      simp only [hk_cons, z_c_g, z_c_n, z_c_w, z_c_p, z_c_q, if_true, if_false]
      try rfl
    · refine mw.trans ?_
      simp only [hk_cons, z_w_g, z_w_n, z_w_c, z_w_p, z_w_q, if_true, if_false]
      try rfl
    · refine mp.trans ?_
      simp only [hk_cons, z_p_g, z_p_n, z_p_c, z_p_w, z_p_q, if_true, if_false]
      try rfl
    · refine mq.trans ?_
      simp only [hk_cons, z_q_g, z_q_n, z_q_c, z_q_w, z_q_p, if_true, if_false]
      try rfl
  · have hr : NT.rot n (.nd c ec hc p q) w = NT.fr c q (NT.fr n w p) := if_pos sw
    rw [hr]
    have up := mpk.upd (wb := [(gb, .var (.agg [.i eg.x, .i eg.y, .i eg.u, .i eg.w, (paZ z3), .pt c 0, (.pt s.b 0), .i hg, .i eg.id])), (n, .var (.agg [.i (uniE w.e p.e).x, .i (uniE w.e p.e).y, .i (uniE w.e p.e).u, .i (uniE w.e p.e).w, .pt c 0, .pt w.b 0, .pt p.b 0, .i (1 + imax w.h p.h), .i e.id])), (c, .var (.agg [.i (uniE q.e (uniE w.e p.e)).x, .i (uniE q.e (uniE w.e p.e)).y, .i (uniE q.e (uniE w.e p.e)).u, .i (uniE q.e (uniE w.e p.e)).w, .pt gb 0, .pt q.b 0, .pt n 0, .i (1 + imax q.h (1 + imax w.h p.h)), .i ec.id])), (w.b, .var (.agg [.i w.e.x, .i w.e.y, .i w.e.u, .i w.e.w, .pt n 0, w.lc, w.rc, .i w.h, .i w.e.id])), (p.b, .var (.agg [.i p.e.x, .i p.e.y, .i p.e.u, .i p.e.w, .pt n 0, p.lc, p.rc, .i p.h, .i p.e.id])), (q.b, .var (.agg [.i q.e.x, .i q.e.y, .i q.e.u, .i q.e.w, .pt c 0, q.lc, q.rc, .i q.h, .i q.e.id]))]) (fun b hb => by
      rw [show (p.kids.map (·.1)) = p.kns from rfl] at hb
      simp only [List.map_cons, List.map_nil, List.mem_cons, List.not_mem_nil, or_false, not_or]
      exact ⟨(D 4 9 (Nat.le_of_ble_eq_true rfl) (Nat.le_of_ble_eq_true rfl) (by decide) _ hb _ (List.mem_singleton.2 rfl)), (Ne.symm (D 1 4 (Nat.le_of_ble_eq_true rfl) (Nat.le_of_ble_eq_true rfl) (by decide) _ (List.mem_singleton.2 rfl) _ hb)), (Ne.symm (D 2 4 (Nat.le_of_ble_eq_true rfl) (Nat.le_of_ble_eq_true rfl) (by decide) _ (List.mem_singleton.2 rfl) _ hb)), (D 4 7 (Nat.le_of_ble_eq_true rfl) (Nat.le_of_ble_eq_true rfl) (by decide) _ hb _ (List.mem_singleton.2 rfl)), (Ne.symm (D 3 4 (Nat.le_of_ble_eq_true rfl) (Nat.le_of_ble_eq_true rfl) (by decide) _ (List.mem_singleton.2 rfl) _ hb)), (D 4 5 (Nat.le_of_ble_eq_true rfl) (Nat.le_of_ble_eq_true rfl) (by decide) _ hb _ (List.mem_singleton.2 rfl))⟩)
    have uq := mqk.upd (wb := [(gb, .var (.agg [.i eg.x, .i eg.y, .i eg.u, .i eg.w, (paZ z3), .pt c 0, (.pt s.b 0), .i hg, .i eg.id])), (n, .var (.agg [.i (uniE w.e p.e).x, .i (uniE w.e p.e).y, .i (uniE w.e p.e).u, .i (uniE w.e p.e).w, .pt c 0, .pt w.b 0, .pt p.b 0, .i (1 + imax w.h p.h), .i e.id])), (c, .var (.agg [.i (uniE q.e (uniE w.e p.e)).x, .i (uniE q.e (uniE w.e p.e)).y, .i (uniE q.e (uniE w.e p.e)).u, .i (uniE q.e (uniE w.e p.e)).w, .pt gb 0, .pt q.b 0, .pt n 0, .i (1 + imax q.h (1 + imax w.h p.h)), .i ec.id])), (w.b, .var (.agg [.i w.e.x, .i w.e.y, .i w.e.u, .i w.e.w, .pt n 0, w.lc, w.rc, .i w.h, .i w.e.id])), (p.b, .var (.agg [.i p.e.x, .i p.e.y, .i p.e.u, .i p.e.w, .pt n 0, p.lc, p.rc, .i p.h, .i p.e.id])), (q.b, .var (.agg [.i q.e.x, .i q.e.y, .i q.e.u, .i q.e.w, .pt c 0, q.lc, q.rc, .i q.h, .i q.e.id]))]) (fun b hb => by
      rw [show (q.kids.map (·.1)) = q.kns from rfl] at hb
      simp only [List.map_cons, List.map_nil, List.mem_cons, List.not_mem_nil, or_false, not_or]
      exact ⟨(D 6 9 (Nat.le_of_ble_eq_true rfl) (Nat.le_of_ble_eq_true rfl) (by decide) _ hb _ (List.mem_singleton.2 rfl)), (Ne.symm (D 1 6 (Nat.le_of_ble_eq_true rfl) (Nat.le_of_ble_eq_true rfl) (by decide) _ (List.mem_singleton.2 rfl) _ hb)), (Ne.symm (D 2 6 (Nat.le_of_ble_eq_true rfl) (Nat.le_of_ble_eq_true rfl) (by decide) _ (List.mem_singleton.2 rfl) _ hb)), (D 6 7 (Nat.le_of_ble_eq_true rfl) (Nat.le_of_ble_eq_true rfl) (by decide) _ hb _ (List.mem_singleton.2 rfl)), (Ne.symm (D 3 6 (Nat.le_of_ble_eq_true rfl) (Nat.le_of_ble_eq_true rfl) (by decide) _ (List.mem_singleton.2 rfl) _ hb)), (Ne.symm (D 5 6 (Nat.le_of_ble_eq_true rfl) (Nat.le_of_ble_eq_true rfl) (by decide) _ (List.mem_singleton.2 rfl) _ hb))⟩)
    have uw := mwk.upd (wb := [(gb, .var (.agg [.i eg.x, .i eg.y, .i eg.u, .i eg.w, (paZ z3), .pt c 0, (.pt s.b 0), .i hg, .i eg.id])), (n, .var (.agg [.i (uniE w.e p.e).x, .i (uniE w.e p.e).y, .i (uniE w.e p.e).u, .i (uniE w.e p.e).w, .pt c 0, .pt w.b 0, .pt p.b 0, .i (1 + imax w.h p.h), .i e.id])), (c, .var (.agg [.i (uniE q.e (uniE w.e p.e)).x, .i (uniE q.e (uniE w.e p.e)).y, .i (uniE q.e (uniE w.e p.e)).u, .i (uniE q.e (uniE w.e p.e)).w, .pt gb 0, .pt q.b 0, .pt n 0, .i (1 + imax q.h (1 + imax w.h p.h)), .i ec.id])), (w.b, .var (.agg [.i w.e.x, .i w.e.y, .i w.e.u, .i w.e.w, .pt n 0, w.lc, w.rc, .i w.h, .i w.e.id])), (p.b, .var (.agg [.i p.e.x, .i p.e.y, .i p.e.u, .i p.e.w, .pt n 0, p.lc, p.rc, .i p.h, .i p.e.id])), (q.b, .var (.agg [.i q.e.x, .i q.e.y, .i q.e.u, .i q.e.w, .pt c 0, q.lc, q.rc, .i q.h, .i q.e.id]))]) (fun b hb => by
      rw [show (w.kids.map (·.1)) = w.kns from rfl] at hb
      simp only [List.map_cons, List.map_nil, List.mem_cons, List.not_mem_nil, or_false, not_or]
      exact ⟨(D 8 9 (Nat.le_of_ble_eq_true rfl) (Nat.le_of_ble_eq_true rfl) (by decide) _ hb _ (List.mem_singleton.2 rfl)), (Ne.symm (D 1 8 (Nat.le_of_ble_eq_true rfl) (Nat.le_of_ble_eq_true rfl) (by decide) _ (List.mem_singleton.2 rfl) _ hb)), (Ne.symm (D 2 8 (Nat.le_of_ble_eq_true rfl) (Nat.le_of_ble_eq_true rfl) (by decide) _ (List.mem_singleton.2 rfl) _ hb)), (Ne.symm (D 7 8 (Nat.le_of_ble_eq_true rfl) (Nat.le_of_ble_eq_true rfl) (by decide) _ (List.mem_singleton.2 rfl) _ hb)), (Ne.symm (D 3 8 (Nat.le_of_ble_eq_true rfl) (Nat.le_of_ble_eq_true rfl) (by decide) _ (List.mem_singleton.2 rfl) _ hb)), (Ne.symm (D 5 8 (Nat.le_of_ble_eq_true rfl) (Nat.le_of_ble_eq_true rfl) (by decide) _ (List.mem_singleton.2 rfl) _ hb))⟩)
    have uz := mz3.upd (wb := [(gb, .var (.agg [.i eg.x, .i eg.y, .i eg.u, .i eg.w, (paZ z3), .pt c 0, (.pt s.b 0), .i hg, .i eg.id])), (n, .var (.agg [.i (uniE w.e p.e).x, .i (uniE w.e p.e).y, .i (uniE w.e p.e).u, .i (uniE w.e p.e).w, .pt c 0, .pt w.b 0, .pt p.b 0, .i (1 + imax w.h p.h), .i e.id])), (c, .var (.agg [.i (uniE q.e (uniE w.e p.e)).x, .i (uniE q.e (uniE w.e p.e)).y, .i (uniE q.e (uniE w.e p.e)).u, .i (uniE q.e (uniE w.e p.e)).w, .pt gb 0, .pt q.b 0, .pt n 0, .i (1 + imax q.h (1 + imax w.h p.h)), .i ec.id])), (w.b, .var (.agg [.i w.e.x, .i w.e.y, .i w.e.u, .i w.e.w, .pt n 0, w.lc, w.rc, .i w.h, .i w.e.id])), (p.b, .var (.agg [.i p.e.x, .i p.e.y, .i p.e.u, .i p.e.w, .pt n 0, p.lc, p.rc, .i p.h, .i p.e.id])), (q.b, .var (.agg [.i q.e.x, .i q.e.y, .i q.e.u, .i q.e.w, .pt c 0, q.lc, q.rc, .i q.h, .i q.e.id]))]) (fun b hb => by
      rw [ctx_nos] at hb
      simp only [List.map_cons, List.map_nil, List.mem_cons, List.not_mem_nil, or_false, not_or]
      exact ⟨(Ne.symm (D 9 12 (Nat.le_of_ble_eq_true rfl) (Nat.le_of_ble_eq_true rfl) (by decide) _ (List.mem_singleton.2 rfl) _ hb)), (Ne.symm (D 1 12 (Nat.le_of_ble_eq_true rfl) (Nat.le_of_ble_eq_true rfl) (by decide) _ (List.mem_singleton.2 rfl) _ hb)), (Ne.symm (D 2 12 (Nat.le_of_ble_eq_true rfl) (Nat.le_of_ble_eq_true rfl) (by decide) _ (List.mem_singleton.2 rfl) _ hb)), (Ne.symm (D 7 12 (Nat.le_of_ble_eq_true rfl) (Nat.le_of_ble_eq_true rfl) (by decide) _ (List.mem_singleton.2 rfl) _ hb)), (Ne.symm (D 3 12 (Nat.le_of_ble_eq_true rfl) (Nat.le_of_ble_eq_true rfl) (by decide) _ (List.mem_singleton.2 rfl) _ hb)), (Ne.symm (D 5 12 (Nat.le_of_ble_eq_true rfl) (Nat.le_of_ble_eq_true rfl) (by decide) _ (List.mem_singleton.2 rfl) _ hb))⟩)
    have us := msh.upd (wb := [(gb, .var (.agg [.i eg.x, .i eg.y, .i eg.u, .i eg.w, (paZ z3), .pt c 0, (.pt s.b 0), .i hg, .i eg.id])), (n, .var (.agg [.i (uniE w.e p.e).x, .i (uniE w.e p.e).y, .i (uniE w.e p.e).u, .i (uniE w.e p.e).w, .pt c 0, .pt w.b 0, .pt p.b 0, .i (1 + imax w.h p.h), .i e.id])), (c, .var (.agg [.i (uniE q.e (uniE w.e p.e)).x, .i (uniE q.e (uniE w.e p.e)).y, .i (uniE q.e (uniE w.e p.e)).u, .i (uniE q.e (uniE w.e p.e)).w, .pt gb 0, .pt q.b 0, .pt n 0, .i (1 + imax q.h (1 + imax w.h p.h)), .i ec.id])), (w.b, .var (.agg [.i w.e.x, .i w.e.y, .i w.e.u, .i w.e.w, .pt n 0, w.lc, w.rc, .i w.h, .i w.e.id])), (p.b, .var (.agg [.i p.e.x, .i p.e.y, .i p.e.u, .i p.e.w, .pt n 0, p.lc, p.rc, .i p.h, .i p.e.id])), (q.b, .var (.agg [.i q.e.x, .i q.e.y, .i q.e.u, .i q.e.w, .pt c 0, q.lc, q.rc, .i q.h, .i q.e.id]))]) (fun b hb => by
      rw [NT.hp_nos, NT.nos_eq, List.mem_cons] at hb
      simp only [List.map_cons, List.map_nil, List.mem_cons, List.not_mem_nil, or_false, not_or]
      rcases hb with rfl | hb
      · exact ⟨(Ne.symm (D 9 10 (Nat.le_of_ble_eq_true rfl) (Nat.le_of_ble_eq_true rfl) (by decide) _ (List.mem_singleton.2 rfl) _ (List.mem_singleton.2 rfl))), (Ne.symm (D 1 10 (Nat.le_of_ble_eq_true rfl) (Nat.le_of_ble_eq_true rfl) (by decide) _ (List.mem_singleton.2 rfl) _ (List.mem_singleton.2 rfl))), (Ne.symm (D 2 10 (Nat.le_of_ble_eq_true rfl) (Nat.le_of_ble_eq_true rfl) (by decide) _ (List.mem_singleton.2 rfl) _ (List.mem_singleton.2 rfl))), (Ne.symm (D 7 10 (Nat.le_of_ble_eq_true rfl) (Nat.le_of_ble_eq_true rfl) (by decide) _ (List.mem_singleton.2 rfl) _ (List.mem_singleton.2 rfl))), (Ne.symm (D 3 10 (Nat.le_of_ble_eq_true rfl) (Nat.le_of_ble_eq_true rfl) (by decide) _ (List.mem_singleton.2 rfl) _ (List.mem_singleton.2 rfl))), (Ne.symm (D 5 10 (Nat.le_of_ble_eq_true rfl) (Nat.le_of_ble_eq_true rfl) (by decide) _ (List.mem_singleton.2 rfl) _ (List.mem_singleton.2 rfl)))⟩
      · exact ⟨(Ne.symm (D 9 11 (Nat.le_of_ble_eq_true rfl) (Nat.le_of_ble_eq_true rfl) (by decide) _ (List.mem_singleton.2 rfl) _ hb)), (Ne.symm (D 1 11 (Nat.le_of_ble_eq_true rfl) (Nat.le_of_ble_eq_true rfl) (by decide) _ (List.mem_singleton.2 rfl) _ hb)), (Ne.symm (D 2 11 (Nat.le_of_ble_eq_true rfl) (Nat.le_of_ble_eq_true rfl) (by decide) _ (List.mem_singleton.2 rfl) _ hb)), (Ne.symm (D 7 11 (Nat.le_of_ble_eq_true rfl) (Nat.le_of_ble_eq_true rfl) (by decide) _ (List.mem_singleton.2 rfl) _ hb)), (Ne.symm (D 3 11 (Nat.le_of_ble_eq_true rfl) (Nat.le_of_ble_eq_true rfl) (by decide) _ (List.mem_singleton.2 rfl) _ hb)), (Ne.symm (D 5 11 (Nat.le_of_ble_eq_true rfl) (Nat.le_of_ble_eq_true rfl) (by decide) _ (List.mem_singleton.2 rfl) _ hb))⟩)
    refine ⟨(updL_other _ _ _ (by simp only [List.map_cons, List.map_nil, List.mem_cons, List.not_mem_nil, or_false, not_or]; exact ⟨(D 0 9 (Nat.le_of_ble_eq_true rfl) (Nat.le_of_ble_eq_true rfl) (by decide) _ (List.mem_singleton.2 rfl) _ (List.mem_singleton.2 rfl)), (D 0 1 (Nat.le_of_ble_eq_true rfl) (Nat.le_of_ble_eq_true rfl) (by decide) _ (List.mem_singleton.2 rfl) _ (List.mem_singleton.2 rfl)), (D 0 2 (Nat.le_of_ble_eq_true rfl) (Nat.le_of_ble_eq_true rfl) (by decide) _ (List.mem_singleton.2 rfl) _ (List.mem_singleton.2 rfl)), (D 0 7 (Nat.le_of_ble_eq_true rfl) (Nat.le_of_ble_eq_true rfl) (by decide) _ (List.mem_singleton.2 rfl) _ (List.mem_singleton.2 rfl)), (D 0 3 (Nat.le_of_ble_eq_true rfl) (Nat.le_of_ble_eq_true rfl) (by decide) _ (List.mem_singleton.2 rfl) _ (List.mem_singleton.2 rfl)), (D 0 5 (Nat.le_of_ble_eq_true rfl) (Nat.le_of_ble_eq_true rfl) (by decide) _ (List.mem_singleton.2 rfl) _ (List.mem_singleton.2 rfl))⟩)).trans mt, held_cons.2 ⟨upd_at hko (by simp only [hk_cons, z_c_g, z_c_n, z_c_w, z_c_p, z_c_q, if_true, if_false]; simp only [NT.top, ndB, NT.fr, NT.e, NT.h, NT.lc, NT.rc, NT.b, NT.uni_id, hec]; try rfl), held_app.2 ⟨held_hp.2 ⟨upd_at hko (by simp only [hk_cons, z_q_g, z_q_n, z_q_c, z_q_w, z_q_p, if_true, if_false]; try rfl), uq⟩, held_cons.2 ⟨upd_at hko (by simp only [hk_cons, z_n_g, z_n_c, z_n_w, z_n_p, z_n_q, if_true, if_false]; simp only [NT.top, ndB, NT.e, NT.h, NT.lc, NT.rc, NT.b, NT.uni_id, he]; try rfl), held_app.2 ⟨held_hp.2 ⟨upd_at hko (by simp only [hk_cons, z_w_g, z_w_n, z_w_c, z_w_p, z_w_q, if_true, if_false]; try rfl), uw⟩, held_hp.2 ⟨upd_at hko (by simp only [hk_cons, z_p_g, z_p_n, z_p_c, z_p_w, z_p_q, if_true, if_false]; try rfl), up⟩⟩⟩⟩⟩, held_cons.2 ⟨upd_at hko (by simp only [hk_cons, z_g_n, z_g_c, z_g_w, z_g_p, z_g_q, if_true, if_false]; try rfl), held_app.2 ⟨us, uz⟩⟩⟩
set_option maxHeartbeats 4000000 in
theorem rz_lR0 {nx bt bm n c : Nat} {e ec : En} {h hc : Int} {p q w : NT} {M : Nat → Option ABox} {gb : Nat} {eg : En} {hg : Int} {s : NT} {z3 : List Fr} (q_bm : bm < nx) (O : Opn nx M bt bm n e h (.nd c ec hc p q) w (⟨false, gb, eg, hg, s⟩ :: z3)) (he : e.id = 0) (hec : ec.id = 0) (b1 : 0 ≤ w.h ∧ w.h ≤ 900) (b2 : 0 ≤ p.h ∧ p.h ≤ 900) (b3 : 0 ≤ q.h ∧ q.h ≤ 900) (sw : ¬ p.h < q.h) :
    ∃ wb rb, CallS Try.prog M nx 49 [.pt bt 0, .pt n 0, .pt c 0] ⟨.pt c 0, wb, 0, rb⟩ ∧ Cls (updL M wb) bt bm (NT.rot n (.nd c ec hc p q) w) (⟨false, gb, eg, hg, s⟩ :: z3) := by
  have e0 : ([[bt], [n], [c], [p.b], p.kns, [q.b], q.kns, [w.b], w.kns, [gb], [s.b], s.kns, cns z3] : List (List Nat)).flatten = bt :: n :: ((NT.nos (.nd c ec hc p q)) ++ ((NT.nos w) ++ cns (⟨false, gb, eg, hg, s⟩ :: z3))) := by simp [NT.nos, NT.nos_eq, cns]
  have hnd : ([[bt], [n], [c], [p.b], p.kns, [q.b], q.kns, [w.b], w.kns, [gb], [s.b], s.kns, cns z3] : List (List Nat)).flatten.Nodup := by rw [e0]; exact O.fd
  have D := List.pairwise_iff_getElem.1 (List.pairwise_flatten.1 hnd).2
  have L : ∀ k ∈ ([[bt], [n], [c], [p.b], p.kns, [q.b], q.kns, [w.b], w.kns, [gb], [s.b], s.kns, cns z3] : List (List Nat)).flatten, k < nx := by rw [e0]; exact O.flt
  clear hnd e0
  have q_bt : bt < nx := L _ (by simp)
  have q_n : n < nx := L _ (by simp)
  have q_c : c < nx := L _ (by simp)
  have q_p : p.b < nx := L _ (by simp)
  have q_q : q.b < nx := L _ (by simp)
  have q_w : w.b < nx := L _ (by simp)
  have q_g : gb < nx := L _ (by simp)
  have q_s : s.b < nx := L _ (by simp)
  have Kw : ∀ k ∈ w.kns, k < nx := fun k hk => L k (by simp [hk])
  have Kp : ∀ k ∈ p.kns, k < nx := fun k hk => L k (by simp [hk])
  have Kq : ∀ k ∈ q.kns, k < nx := fun k hk => L k (by simp [hk])
  have Ks : ∀ k ∈ s.kns, k < nx := fun k hk => L k (by simp [hk])
  have Kz : ∀ k ∈ cns z3, k < nx := fun k hk => L k (by simp [hk])
  have z_g_s : (gb = s.b) = False := eq_false (D 9 10 (Nat.le_of_ble_eq_true rfl) (Nat.le_of_ble_eq_true rfl) (by decide) _ (List.mem_singleton.2 rfl) _ (List.mem_singleton.2 rfl))
  have z_g_n : (gb = n) = False := eq_false (Ne.symm (D 1 9 (Nat.le_of_ble_eq_true rfl) (Nat.le_of_ble_eq_true rfl) (by decide) _ (List.mem_singleton.2 rfl) _ (List.mem_singleton.2 rfl)))
  have z_g_c : (gb = c) = False := eq_false (Ne.symm (D 2 9 (Nat.le_of_ble_eq_true rfl) (Nat.le_of_ble_eq_true rfl) (by decide) _ (List.mem_singleton.2 rfl) _ (List.mem_singleton.2 rfl)))
  have z_g_w : (gb = w.b) = False := eq_false (Ne.symm (D 7 9 (Nat.le_of_ble_eq_true rfl) (Nat.le_of_ble_eq_true rfl) (by decide) _ (List.mem_singleton.2 rfl) _ (List.mem_singleton.2 rfl)))
  have z_g_p : (gb = p.b) = False := eq_false (Ne.symm (D 3 9 (Nat.le_of_ble_eq_true rfl) (Nat.le_of_ble_eq_true rfl) (by decide) _ (List.mem_singleton.2 rfl) _ (List.mem_singleton.2 rfl)))
  have z_g_q : (gb = q.b) = False := eq_false (Ne.symm (D 5 9 (Nat.le_of_ble_eq_true rfl) (Nat.le_of_ble_eq_true rfl) (by decide) _ (List.mem_singleton.2 rfl) _ (List.mem_singleton.2 rfl)))
  have z_s_g : (s.b = gb) = False := eq_false (Ne.symm (D 9 10 (Nat.le_of_ble_eq_true rfl) (Nat.le_of_ble_eq_true rfl) (by decide) _ (List.mem_singleton.2 rfl) _ (List.mem_singleton.2 rfl)))
  have z_s_n : (s.b = n) = False := eq_false (Ne.symm (D 1 10 (Nat.le_of_ble_eq_true rfl) (Nat.le_of_ble_eq_true rfl) (by decide) _ (List.mem_singleton.2 rfl) _ (List.mem_singleton.2 rfl)))
  have z_s_c : (s.b = c) = False := eq_false (Ne.symm (D 2 10 (Nat.le_of_ble_eq_true rfl) (Nat.le_of_ble_eq_true rfl) (by decide) _ (List.mem_singleton.2 rfl) _ (List.mem_singleton.2 rfl)))
  have z_s_w : (s.b = w.b) = False := eq_false (Ne.symm (D 7 10 (Nat.le_of_ble_eq_true rfl) (Nat.le_of_ble_eq_true rfl) (by decide) _ (List.mem_singleton.2 rfl) _ (List.mem_singleton.2 rfl)))
  have z_s_p : (s.b = p.b) = False := eq_false (Ne.symm (D 3 10 (Nat.le_of_ble_eq_true rfl) (Nat.le_of_ble_eq_true rfl) (by decide) _ (List.mem_singleton.2 rfl) _ (List.mem_singleton.2 rfl)))
  have z_s_q : (s.b = q.b) = False := eq_false (Ne.symm (D 5 10 (Nat.le_of_ble_eq_true rfl) (Nat.le_of_ble_eq_true rfl) (by decide) _ (List.mem_singleton.2 rfl) _ (List.mem_singleton.2 rfl)))
  have z_n_g : (n = gb) = False := eq_false (D 1 9 (Nat.le_of_ble_eq_true rfl) (Nat.le_of_ble_eq_true rfl) (by decide) _ (List.mem_singleton.2 rfl) _ (List.mem_singleton.2 rfl))
  have z_n_s : (n = s.b) = False := eq_false (D 1 10 (Nat.le_of_ble_eq_true rfl) (Nat.le_of_ble_eq_true rfl) (by decide) _ (List.mem_singleton.2 rfl) _ (List.mem_singleton.2 rfl))
  have z_n_c : (n = c) = False := eq_false (D 1 2 (Nat.le_of_ble_eq_true rfl) (Nat.le_of_ble_eq_true rfl) (by decide) _ (List.mem_singleton.2 rfl) _ (List.mem_singleton.2 rfl))
  have z_n_w : (n = w.b) = False := eq_false (D 1 7 (Nat.le_of_ble_eq_true rfl) (Nat.le_of_ble_eq_true rfl) (by decide) _ (List.mem_singleton.2 rfl) _ (List.mem_singleton.2 rfl))
  have z_n_p : (n = p.b) = False := eq_false (D 1 3 (Nat.le_of_ble_eq_true rfl) (Nat.le_of_ble_eq_true rfl) (by decide) _ (List.mem_singleton.2 rfl) _ (List.mem_singleton.2 rfl))
  have z_n_q : (n = q.b) = False := eq_false (D 1 5 (Nat.le_of_ble_eq_true rfl) (Nat.le_of_ble_eq_true rfl) (by decide) _ (List.mem_singleton.2 rfl) _ (List.mem_singleton.2 rfl))
  have z_c_g : (c = gb) = False := eq_false (D 2 9 (Nat.le_of_ble_eq_true rfl) (Nat.le_of_ble_eq_true rfl) (by decide) _ (List.mem_singleton.2 rfl) _ (List.mem_singleton.2 rfl))
  have z_c_s : (c = s.b) = False := eq_false (D 2 10 (Nat.le_of_ble_eq_true rfl) (Nat.le_of_ble_eq_true rfl) (by decide) _ (List.mem_singleton.2 rfl) _ (List.mem_singleton.2 rfl))
  have z_c_n : (c = n) = False := eq_false (Ne.symm (D 1 2 (Nat.le_of_ble_eq_true rfl) (Nat.le_of_ble_eq_true rfl) (by decide) _ (List.mem_singleton.2 rfl) _ (List.mem_singleton.2 rfl)))
  have z_c_w : (c = w.b) = False := eq_false (D 2 7 (Nat.le_of_ble_eq_true rfl) (Nat.le_of_ble_eq_true rfl) (by decide) _ (List.mem_singleton.2 rfl) _ (List.mem_singleton.2 rfl))
  have z_c_p : (c = p.b) = False := eq_false (D 2 3 (Nat.le_of_ble_eq_true rfl) (Nat.le_of_ble_eq_true rfl) (by decide) _ (List.mem_singleton.2 rfl) _ (List.mem_singleton.2 rfl))
  have z_c_q : (c = q.b) = False := eq_false (D 2 5 (Nat.le_of_ble_eq_true rfl) (Nat.le_of_ble_eq_true rfl) (by decide) _ (List.mem_singleton.2 rfl) _ (List.mem_singleton.2 rfl))
  have z_w_g : (w.b = gb) = False := eq_false (D 7 9 (Nat.le_of_ble_eq_true rfl) (Nat.le_of_ble_eq_true rfl) (by decide) _ (List.mem_singleton.2 rfl) _ (List.mem_singleton.2 rfl))
  have z_w_s : (w.b = s.b) = False := eq_false (D 7 10 (Nat.le_of_ble_eq_true rfl) (Nat.le_of_ble_eq_true rfl) (by decide) _ (List.mem_singleton.2 rfl) _ (List.mem_singleton.2 rfl))
  have z_w_n : (w.b = n) = False := eq_false (Ne.symm (D 1 7 (Nat.le_of_ble_eq_true rfl) (Nat.le_of_ble_eq_true rfl) (by decide) _ (List.mem_singleton.2 rfl) _ (List.mem_singleton.2 rfl)))
  have z_w_c : (w.b = c) = False := eq_false (Ne.symm (D 2 7 (Nat.le_of_ble_eq_true rfl) (Nat.le_of_ble_eq_true rfl) (by decide) _ (List.mem_singleton.2 rfl) _ (List.mem_singleton.2 rfl)))
  have z_w_p : (w.b = p.b) = False := eq_false (Ne.symm (D 3 7 (Nat.le_of_ble_eq_true rfl) (Nat.le_of_ble_eq_true rfl) (by decide) _ (List.mem_singleton.2 rfl) _ (List.mem_singleton.2 rfl)))
  have z_w_q : (w.b = q.b) = False := eq_false (Ne.symm (D 5 7 (Nat.le_of_ble_eq_true rfl) (Nat.le_of_ble_eq_true rfl) (by decide) _ (List.mem_singleton.2 rfl) _ (List.mem_singleton.2 rfl)))
  have z_p_g : (p.b = gb) = False := eq_false (D 3 9 (Nat.le_of_ble_eq_true rfl) (Nat.le_of_ble_eq_true rfl) (by decide) _ (List.mem_singleton.2 rfl) _ (List.mem_singleton.2 rfl))
  have z_p_s : (p.b = s.b) = False := eq_false (D 3 10 (Nat.le_of_ble_eq_true rfl) (Nat.le_of_ble_eq_true rfl) (by decide) _ (List.mem_singleton.2 rfl) _ (List.mem_singleton.2 rfl))
  have z_p_n : (p.b = n) = False := eq_false (Ne.symm (D 1 3 (Nat.le_of_ble_eq_true rfl) (Nat.le_of_ble_eq_true rfl) (by decide) _ (List.mem_singleton.2 rfl) _ (List.mem_singleton.2 rfl)))
  have z_p_c : (p.b = c) = False := eq_false (Ne.symm (D 2 3 (Nat.le_of_ble_eq_true rfl) (Nat.le_of_ble_eq_true rfl) (by decide) _ (List.mem_singleton.2 rfl) _ (List.mem_singleton.2 rfl)))
  have z_p_w : (p.b = w.b) = False := eq_false (D 3 7 (Nat.le_of_ble_eq_true rfl) (Nat.le_of_ble_eq_true rfl) (by decide) _ (List.mem_singleton.2 rfl) _ (List.mem_singleton.2 rfl))
  have z_p_q : (p.b = q.b) = False := eq_false (D 3 5 (Nat.le_of_ble_eq_true rfl) (Nat.le_of_ble_eq_true rfl) (by decide) _ (List.mem_singleton.2 rfl) _ (List.mem_singleton.2 rfl))
  have z_q_g : (q.b = gb) = False := eq_false (D 5 9 (Nat.le_of_ble_eq_true rfl) (Nat.le_of_ble_eq_true rfl) (by decide) _ (List.mem_singleton.2 rfl) _ (List.mem_singleton.2 rfl))
  have z_q_s : (q.b = s.b) = False := eq_false (D 5 10 (Nat.le_of_ble_eq_true rfl) (Nat.le_of_ble_eq_true rfl) (by decide) _ (List.mem_singleton.2 rfl) _ (List.mem_singleton.2 rfl))
  have z_q_n : (q.b = n) = False := eq_false (Ne.symm (D 1 5 (Nat.le_of_ble_eq_true rfl) (Nat.le_of_ble_eq_true rfl) (by decide) _ (List.mem_singleton.2 rfl) _ (List.mem_singleton.2 rfl)))
  have z_q_c : (q.b = c) = False := eq_false (Ne.symm (D 2 5 (Nat.le_of_ble_eq_true rfl) (Nat.le_of_ble_eq_true rfl) (by decide) _ (List.mem_singleton.2 rfl) _ (List.mem_singleton.2 rfl)))
  have z_q_w : (q.b = w.b) = False := eq_false (D 5 7 (Nat.le_of_ble_eq_true rfl) (Nat.le_of_ble_eq_true rfl) (by decide) _ (List.mem_singleton.2 rfl) _ (List.mem_singleton.2 rfl))
  have z_q_p : (q.b = p.b) = False := eq_false (Ne.symm (D 3 5 (Nat.le_of_ble_eq_true rfl) (Nat.le_of_ble_eq_true rfl) (by decide) _ (List.mem_singleton.2 rfl) _ (List.mem_singleton.2 rfl)))
  have mt := O.ft
  have mn := O.fn
  obtain ⟨mc, ml⟩ := held_hp.1 O.fl
  obtain ⟨mp', mq'⟩ := held_app.1 (show Held M (p.hp (.pt c 0) ++ q.hp (.pt c 0)) from ml)
  obtain ⟨mp, mpk⟩ := held_hp.1 mp'
  obtain ⟨mq, mqk⟩ := held_hp.1 mq'
  obtain ⟨mw, mwk⟩ := held_hp.1 O.fr
  obtain ⟨mg, mz⟩ := held_cons.1 (show Held M ((gb, _) :: (s.hp (.pt gb 0) ++ ctx z3 gb)) from O.fz)
  obtain ⟨msh, mz3⟩ := held_app.1 mz
  obtain ⟨ms, msk⟩ := held_hp.1 msh
  have hC := @c_rotlR0 nx gb s.b n c w.b p.b q.b bt q_bt e ec w.e p.e q.e eg s.e (.pt n 0) w.lc w.rc (.pt c 0) p.lc p.rc (.pt c 0) q.lc q.rc (paZ z3) (.pt gb 0) s.lc s.rc h e.id hc ec.id w.h w.e.id p.h p.e.id q.h q.e.id hg eg.id s.h s.e.id q_g q_s q_n q_c q_w q_p q_q (of_eq_false z_g_s) (of_eq_false z_g_n) (of_eq_false z_g_c) (of_eq_false z_g_w) (of_eq_false z_g_p) (of_eq_false z_g_q) (of_eq_false z_s_n) (of_eq_false z_s_c) (of_eq_false z_s_w) (of_eq_false z_s_p) (of_eq_false z_s_q) (of_eq_false z_n_c) (of_eq_false z_n_w) (of_eq_false z_n_p) (of_eq_false z_n_q) (of_eq_false z_c_w) (of_eq_false z_c_p) (of_eq_false z_c_q) (of_eq_false z_w_p) (of_eq_false z_w_q) (of_eq_false z_p_q) (lc_lt Kp) (lc_lt Kq) (lc_lt Ks) (lc_lt Kw) (pa_lt Kz) (Lt.pt _ _ q_c) (Lt.pt _ _ q_c) (Lt.pt _ _ q_g) (Lt.pt _ _ q_n) (rc_lt Kp) (rc_lt Kq) (rc_lt Ks) (rc_lt Kw) b1 b2 b3 sw
  have hko : keysOk ([(gb, .var (.agg [.i eg.x, .i eg.y, .i eg.u, .i eg.w, (paZ z3), .pt s.b 0, .pt c 0, .i hg, .i eg.id])), (s.b, .var (.agg [.i s.e.x, .i s.e.y, .i s.e.u, .i s.e.w, (.pt gb 0), s.lc, s.rc, .i s.h, .i s.e.id])), (n, .var (.agg [.i (uniE w.e q.e).x, .i (uniE w.e q.e).y, .i (uniE w.e q.e).u, .i (uniE w.e q.e).w, .pt c 0, .pt w.b 0, .pt q.b 0, .i (1 + imax w.h q.h), .i e.id])), (c, .var (.agg [.i (uniE p.e (uniE w.e q.e)).x, .i (uniE p.e (uniE w.e q.e)).y, .i (uniE p.e (uniE w.e q.e)).u, .i (uniE p.e (uniE w.e q.e)).w, .pt gb 0, .pt p.b 0, .pt n 0, .i (1 + imax p.h (1 + imax w.h q.h)), .i ec.id])), (w.b, .var (.agg [.i w.e.x, .i w.e.y, .i w.e.u, .i w.e.w, .pt n 0, w.lc, w.rc, .i w.h, .i w.e.id])), (p.b, .var (.agg [.i p.e.x, .i p.e.y, .i p.e.u, .i p.e.w, .pt c 0, p.lc, p.rc, .i p.h, .i p.e.id])), (q.b, .var (.agg [.i q.e.x, .i q.e.y, .i q.e.u, .i q.e.w, .pt n 0, q.lc, q.rc, .i q.h, .i q.e.id]))] : HH) = true := by simp [keysOk, z_g_s, z_g_n, z_g_c, z_g_w, z_g_p, z_g_q, z_s_n, z_s_c, z_s_w, z_s_p, z_s_q, z_n_c, z_n_w, z_n_p, z_n_q, z_c_w, z_c_p, z_c_q, z_w_p, z_w_q, z_p_q]
  refine ⟨[(gb, .var (.agg [.i eg.x, .i eg.y, .i eg.u, .i eg.w, (paZ z3), .pt s.b 0, .pt c 0, .i hg, .i eg.id])), (s.b, .var (.agg [.i s.e.x, .i s.e.y, .i s.e.u, .i s.e.w, (.pt gb 0), s.lc, s.rc, .i s.h, .i s.e.id])), (n, .var (.agg [.i (uniE w.e q.e).x, .i (uniE w.e q.e).y, .i (uniE w.e q.e).u, .i (uniE w.e q.e).w, .pt c 0, .pt w.b 0, .pt q.b 0, .i (1 + imax w.h q.h), .i e.id])), (c, .var (.agg [.i (uniE p.e (uniE w.e q.e)).x, .i (uniE p.e (uniE w.e q.e)).y, .i (uniE p.e (uniE w.e q.e)).u, .i (uniE p.e (uniE w.e q.e)).w, .pt gb 0, .pt p.b 0, .pt n 0, .i (1 + imax p.h (1 + imax w.h q.h)), .i ec.id])), (w.b, .var (.agg [.i w.e.x, .i w.e.y, .i w.e.u, .i w.e.w, .pt n 0, w.lc, w.rc, .i w.h, .i w.e.id])), (p.b, .var (.agg [.i p.e.x, .i p.e.y, .i p.e.u, .i p.e.w, .pt c 0, p.lc, p.rc, .i p.h, .i p.e.id])), (q.b, .var (.agg [.i q.e.x, .i q.e.y, .i q.e.u, .i q.e.w, .pt n 0, q.lc, q.rc, .i q.h, .i q.e.id]))], [gb, s.b, n, c, w.b, p.b, q.b], hC.congr (fun k hk' => ?_), ?_⟩
  · simp only [List.mem_cons, List.not_mem_nil, or_false] at hk'
    rcases hk' with rfl | rfl | rfl | rfl | rfl | rfl | rfl
    · refine mg.trans ?_
      simp only [hk_cons, z_g_s, z_g_n, z_g_c, z_g_w, z_g_p, z_g_q, if_true, if_false]
      try rfl
    · refine ms.trans ?_
      simp only [hk_cons, z_s_g, z_s_n, z_s_c, z_s_w, z_s_p, z_s_q, if_true, if_false]
      try rfl
    · refine mn.trans ?_
      simp only [hk_cons, z_n_g, z_n_s, z_n_c, z_n_w, z_n_p, z_n_q, if_true, if_false]
      try rfl
    · refine mc.trans ?_
      simp only [hk_cons, z_c_g, z_c_s, z_c_n, z_c_w, z_c_p, z_c_q, if_true, if_false]
      try rfl
    · refine mw.trans ?_
      simp only [hk_cons, z_w_g, z_w_s, z_w_n, z_w_c, z_w_p, z_w_q, if_true, if_false]
      try rfl
    · refine mp.trans ?_
      simp only [hk_cons, z_p_g, z_p_s, z_p_n, z_p_c, z_p_w, z_p_q, if_true, if_false]
      try rfl
    · refine mq.trans ?_
      simp only [hk_cons, z_q_g, z_q_s, z_q_n, z_q_c, z_q_w, z_q_p, if_true, if_false]
      try rfl
  · have hr : NT.rot n (.nd c ec hc p q) w = NT.fr c p (NT.fr n w q) := if_neg sw
    rw [hr]
    have up := mpk.upd (wb := [(gb, .var (.agg [.i eg.x, .i eg.y, .i eg.u, .i eg.w, (paZ z3), .pt s.b 0, .pt c 0, .i hg, .i eg.id])), (s.b, .var (.agg [.i s.e.x, .i s.e.y, .i s.e.u, .i s.e.w, (.pt gb 0), s.lc, s.rc, .i s.h, .i s.e.id])), (n, .var (.agg [.i (uniE w.e q.e).x, .i (uniE w.e q.e).y, .i (uniE w.e q.e).u, .i (uniE w.e q.e).w, .pt c 0, .pt w.b 0, .pt q.b 0, .i (1 + imax w.h q.h), .i e.id])), (c, .var (.agg [.i (uniE p.e (uniE w.e q.e)).x, .i (uniE p.e (uniE w.e q.e)).y, .i (uniE p.e (uniE w.e q.e)).u, .i (uniE p.e (uniE w.e q.e)).w, .pt gb 0, .pt p.b 0, .pt n 0, .i (1 + imax p.h (1 + imax w.h q.h)), .i ec.id])), (w.b, .var (.agg [.i w.e.x, .i w.e.y, .i w.e.u, .i w.e.w, .pt n 0, w.lc, w.rc, .i w.h, .i w.e.id])), (p.b, .var (.agg [.i p.e.x, .i p.e.y, .i p.e.u, .i p.e.w, .pt c 0, p.lc, p.rc, .i p.h, .i p.e.id])), (q.b, .var (.agg [.i q.e.x, .i q.e.y, .i q.e.u, .i q.e.w, .pt n 0, q.lc, q.rc, .i q.h, .i q.e.id]))]) (fun b hb => by
      rw [show (p.kids.map (·.1)) = p.kns from rfl] at hb
      simp only [List.map_cons, List.map_nil, List.mem_cons, List.not_mem_nil, or_false, not_or]
      exact ⟨(D 4 9 (Nat.le_of_ble_eq_true rfl) (Nat.le_of_ble_eq_true rfl) (by decide) _ hb _ (List.mem_singleton.2 rfl)), (D 4 10 (Nat.le_of_ble_eq_true rfl) (Nat.le_of_ble_eq_true rfl) (by decide) _ hb _ (List.mem_singleton.2 rfl)), (Ne.symm (D 1 4 (Nat.le_of_ble_eq_true rfl) (Nat.le_of_ble_eq_true rfl) (by decide) _ (List.mem_singleton.2 rfl) _ hb)), (Ne.symm (D 2 4 (Nat.le_of_ble_eq_true rfl) (Nat.le_of_ble_eq_true rfl) (by decide) _ (List.mem_singleton.2 rfl) _ hb)), (D 4 7 (Nat.le_of_ble_eq_true rfl) (Nat.le_of_ble_eq_true rfl) (by decide) _ hb _ (List.mem_singleton.2 rfl)), (Ne.symm (D 3 4 (Nat.le_of_ble_eq_true rfl) (Nat.le_of_ble_eq_true rfl) (by decide) _ (List.mem_singleton.2 rfl) _ hb)), (D 4 5 (Nat.le_of_ble_eq_true rfl) (Nat.le_of_ble_eq_true rfl) (by decide) _ hb _ (List.mem_singleton.2 rfl))⟩)
    have uq := mqk.upd (wb := [(gb, .var (.agg [.i eg.x, .i eg.y, .i eg.u, .i eg.w, (paZ z3), .pt s.b 0, .pt c 0, .i hg, .i eg.id])), (s.b, .var (.agg [.i s.e.x, .i s.e.y, .i s.e.u, .i s.e.w, (.pt gb 0), s.lc, s.rc, .i s.h, .i s.e.id])), (n, .var (.agg [.i (uniE w.e q.e).x, .i (uniE w.e q.e).y, .i (uniE w.e q.e).u, .i (uniE w.e q.e).w, .pt c 0, .pt w.b 0, .pt q.b 0, .i (1 + imax w.h q.h), .i e.id])), (c, .var (.agg [.i (uniE p.e (uniE w.e q.e)).x, .i (uniE p.e (uniE w.e q.e)).y, .i (uniE p.e (uniE w.e q.e)).u, .i (uniE p.e (uniE w.e q.e)).w, .pt gb 0, .pt p.b 0, .pt n 0, .i (1 + imax p.h (1 + imax w.h q.h)), .i ec.id])), (w.b, .var (.agg [.i w.e.x, .i w.e.y, .i w.e.u, .i w.e.w, .pt n 0, w.lc, w.rc, .i w.h, .i w.e.id])), (p.b, .var (.agg [.i p.e.x, .i p.e.y, .i p.e.u, .i p.e.w, .pt c 0, p.lc, p.rc, .i p.h, .i p.e.id])), (q.b, .var (.agg [.i q.e.x, .i q.e.y, .i q.e.u, .i q.e.w, .pt n 0, q.lc, q.rc, .i q.h, .i q.e.id]))]) (fun b hb => by
      rw [show (q.kids.map (·.1)) = q.kns from rfl] at hb
      simp only [List.map_cons, List.map_nil, List.mem_cons, List.not_mem_nil, or_false, not_or]
      exact ⟨(D 6 9 (Nat.le_of_ble_eq_true rfl) (Nat.le_of_ble_eq_true rfl) (by decide) _ hb _ (List.mem_singleton.2 rfl)), (D 6 10 (Nat.le_of_ble_eq_true rfl) (Nat.le_of_ble_eq_true rfl) (by decide) _ hb _ (List.mem_singleton.2 rfl)), (Ne.symm (D 1 6 (Nat.le_of_ble_eq_true rfl) (Nat.le_of_ble_eq_true rfl) (by decide) _ (List.mem_singleton.2 rfl) _ hb)), (Ne.symm (D 2 6 (Nat.le_of_ble_eq_true rfl) (Nat.le_of_ble_eq_true rfl) (by decide) _ (List.mem_singleton.2 rfl) _ hb)), (D 6 7 (Nat.le_of_ble_eq_true rfl) (Nat.le_of_ble_eq_true rfl) (by decide) _ hb _ (List.mem_singleton.2 rfl)), (Ne.symm (D 3 6 (Nat.le_of_ble_eq_true rfl) (Nat.le_of_ble_eq_true rfl) (by decide) _ (List.mem_singleton.2 rfl) _ hb)), (Ne.symm (D 5 6 (Nat.le_of_ble_eq_true rfl) (Nat.le_of_ble_eq_true rfl) (by decide) _ (List.mem_singleton.2 rfl) _ hb))⟩)
    have uw := mwk.upd (wb := [(gb, .var (.agg [.i eg.x, .i eg.y, .i eg.u, .i eg.w, (paZ z3), .pt s.b 0, .pt c 0, .i hg, .i eg.id])), (s.b, .var (.agg [.i s.e.x, .i s.e.y, .i s.e.u, .i s.e.w, (.pt gb 0), s.lc, s.rc, .i s.h, .i s.e.id])), (n, .var (.agg [.i (uniE w.e q.e).x, .i (uniE w.e q.e).y, .i (uniE w.e q.e).u, .i (uniE w.e q.e).w, .pt c 0, .pt w.b 0, .pt q.b 0, .i (1 + imax w.h q.h), .i e.id])), (c, .var (.agg [.i (uniE p.e (uniE w.e q.e)).x, .i (uniE p.e (uniE w.e q.e)).y, .i (uniE p.e (uniE w.e q.e)).u, .i (uniE p.e (uniE w.e q.e)).w, .pt gb 0, .pt p.b 0, .pt n 0, .i (1 + imax p.h (1 + imax w.h q.h)), .i ec.id])), (w.b, .var (.agg [.i w.e.x, .i w.e.y, .i w.e.u, .i w.e.w, .pt n 0, w.lc, w.rc, .i w.h, .i w.e.id])), (p.b, .var (.agg [.i p.e.x, .i p.e.y, .i p.e.u, .i p.e.w, .pt c 0, p.lc, p.rc, .i p.h, .i p.e.id])), (q.b, .var (.agg [.i q.e.x, .i q.e.y, .i q.e.u, .i q.e.w, .pt n 0, q.lc, q.rc, .i q.h, .i q.e.id]))]) (fun b hb => by
      rw [show (w.kids.map (·.1)) = w.kns from rfl] at hb
      simp only [List.map_cons, List.map_nil, List.mem_cons, List.not_mem_nil, or_false, not_or]
      exact ⟨(D 8 9 (Nat.le_of_ble_eq_true rfl) (Nat.le_of_ble_eq_true rfl) (by decide) _ hb _ (List.mem_singleton.2 rfl)), (D 8 10 (Nat.le_of_ble_eq_true rfl) (Nat.le_of_ble_eq_true rfl) (by decide) _ hb _ (List.mem_singleton.2 rfl)), (Ne.symm (D 1 8 (Nat.le_of_ble_eq_true rfl) (Nat.le_of_ble_eq_true rfl) (by decide) _ (List.mem_singleton.2 rfl) _ hb)), (Ne.symm (D 2 8 (Nat.le_of_ble_eq_true rfl) (Nat.le_of_ble_eq_true rfl) (by decide) _ (List.mem_singleton.2 rfl) _ hb)), (Ne.symm (D 7 8 (Nat.le_of_ble_eq_true rfl) (Nat.le_of_ble_eq_true rfl) (by decide) _ (List.mem_singleton.2 rfl) _ hb)), (Ne.symm (D 3 8 (Nat.le_of_ble_eq_true rfl) (Nat.le_of_ble_eq_true rfl) (by decide) _ (List.mem_singleton.2 rfl) _ hb)), (Ne.symm (D 5 8 (Nat.le_of_ble_eq_true rfl) (Nat.le_of_ble_eq_true rfl) (by decide) _ (List.mem_singleton.2 rfl) _ hb))⟩)
    have uz := mz3.upd (wb := [(gb, .var (.agg [.i eg.x, .i eg.y, .i eg.u, .i eg.w, (paZ z3), .pt s.b 0, .pt c 0, .i hg, .i eg.id])), (s.b, .var (.agg [.i s.e.x, .i s.e.y, .i s.e.u, .i s.e.w, (.pt gb 0), s.lc, s.rc, .i s.h, .i s.e.id])), (n, .var (.agg [.i (uniE w.e q.e).x, .i (uniE w.e q.e).y, .i (uniE w.e q.e).u, .i (uniE w.e q.e).w, .pt c 0, .pt w.b 0, .pt q.b 0, .i (1 + imax w.h q.h), .i e.id])), (c, .var (.agg [.i (uniE p.e (uniE w.e q.e)).x, .i (uniE p.e (uniE w.e q.e)).y, .i (uniE p.e (uniE w.e q.e)).u, .i (uniE p.e (uniE w.e q.e)).w, .pt gb 0, .pt p.b 0, .pt n 0, .i (1 + imax p.h (1 + imax w.h q.h)), .i ec.id])), (w.b, .var (.agg [.i w.e.x, .i w.e.y, .i w.e.u, .i w.e.w, .pt n 0, w.lc, w.rc, .i w.h, .i w.e.id])), (p.b, .var (.agg [.i p.e.x, .i p.e.y, .i p.e.u, .i p.e.w, .pt c 0, p.lc, p.rc, .i p.h, .i p.e.id])), (q.b, .var (.agg [.i q.e.x, .i q.e.y, .i q.e.u, .i q.e.w, .pt n 0, q.lc, q.rc, .i q.h, .i q.e.id]))]) (fun b hb => by
      rw [ctx_nos] at hb
      simp only [List.map_cons, List.map_nil, List.mem_cons, List.not_mem_nil, or_false, not_or]
      exact ⟨(Ne.symm (D 9 12 (Nat.le_of_ble_eq_true rfl) (Nat.le_of_ble_eq_true rfl) (by decide) _ (List.mem_singleton.2 rfl) _ hb)), (Ne.symm (D 10 12 (Nat.le_of_ble_eq_true rfl) (Nat.le_of_ble_eq_true rfl) (by decide) _ (List.mem_singleton.2 rfl) _ hb)), (Ne.symm (D 1 12 (Nat.le_of_ble_eq_true rfl) (Nat.le_of_ble_eq_true rfl) (by decide) _ (List.mem_singleton.2 rfl) _ hb)), (Ne.symm (D 2 12 (Nat.le_of_ble_eq_true rfl) (Nat.le_of_ble_eq_true rfl) (by decide) _ (List.mem_singleton.2 rfl) _ hb)), (Ne.symm (D 7 12 (Nat.le_of_ble_eq_true rfl) (Nat.le_of_ble_eq_true rfl) (by decide) _ (List.mem_singleton.2 rfl) _ hb)), (Ne.symm (D 3 12 (Nat.le_of_ble_eq_true rfl) (Nat.le_of_ble_eq_true rfl) (by decide) _ (List.mem_singleton.2 rfl) _ hb)), (Ne.symm (D 5 12 (Nat.le_of_ble_eq_true rfl) (Nat.le_of_ble_eq_true rfl) (by decide) _ (List.mem_singleton.2 rfl) _ hb))⟩)
    have usk := msk.upd (wb := [(gb, .var (.agg [.i eg.x, .i eg.y, .i eg.u, .i eg.w, (paZ z3), .pt s.b 0, .pt c 0, .i hg, .i eg.id])), (s.b, .var (.agg [.i s.e.x, .i s.e.y, .i s.e.u, .i s.e.w, (.pt gb 0), s.lc, s.rc, .i s.h, .i s.e.id])), (n, .var (.agg [.i (uniE w.e q.e).x, .i (uniE w.e q.e).y, .i (uniE w.e q.e).u, .i (uniE w.e q.e).w, .pt c 0, .pt w.b 0, .pt q.b 0, .i (1 + imax w.h q.h), .i e.id])), (c, .var (.agg [.i (uniE p.e (uniE w.e q.e)).x, .i (uniE p.e (uniE w.e q.e)).y, .i (uniE p.e (uniE w.e q.e)).u, .i (uniE p.e (uniE w.e q.e)).w, .pt gb 0, .pt p.b 0, .pt n 0, .i (1 + imax p.h (1 + imax w.h q.h)), .i ec.id])), (w.b, .var (.agg [.i w.e.x, .i w.e.y, .i w.e.u, .i w.e.w, .pt n 0, w.lc, w.rc, .i w.h, .i w.e.id])), (p.b, .var (.agg [.i p.e.x, .i p.e.y, .i p.e.u, .i p.e.w, .pt c 0, p.lc, p.rc, .i p.h, .i p.e.id])), (q.b, .var (.agg [.i q.e.x, .i q.e.y, .i q.e.u, .i q.e.w, .pt n 0, q.lc, q.rc, .i q.h, .i q.e.id]))]) (fun b hb => by
      rw [show (s.kids.map (·.1)) = s.kns from rfl] at hb
      simp only [List.map_cons, List.map_nil, List.mem_cons, List.not_mem_nil, or_false, not_or]
      exact ⟨(Ne.symm (D 9 11 (Nat.le_of_ble_eq_true rfl) (Nat.le_of_ble_eq_true rfl) (by decide) _ (List.mem_singleton.2 rfl) _ hb)), (Ne.symm (D 10 11 (Nat.le_of_ble_eq_true rfl) (Nat.le_of_ble_eq_true rfl) (by decide) _ (List.mem_singleton.2 rfl) _ hb)), (Ne.symm (D 1 11 (Nat.le_of_ble_eq_true rfl) (Nat.le_of_ble_eq_true rfl) (by decide) _ (List.mem_singleton.2 rfl) _ hb)), (Ne.symm (D 2 11 (Nat.le_of_ble_eq_true rfl) (Nat.le_of_ble_eq_true rfl) (by decide) _ (List.mem_singleton.2 rfl) _ hb)), (Ne.symm (D 7 11 (Nat.le_of_ble_eq_true rfl) (Nat.le_of_ble_eq_true rfl) (by decide) _ (List.mem_singleton.2 rfl) _ hb)), (Ne.symm (D 3 11 (Nat.le_of_ble_eq_true rfl) (Nat.le_of_ble_eq_true rfl) (by decide) _ (List.mem_singleton.2 rfl) _ hb)), (Ne.symm (D 5 11 (Nat.le_of_ble_eq_true rfl) (Nat.le_of_ble_eq_true rfl) (by decide) _ (List.mem_singleton.2 rfl) _ hb))⟩)
    refine ⟨(updL_other _ _ _ (by simp only [List.map_cons, List.map_nil, List.mem_cons, List.not_mem_nil, or_false, not_or]; exact ⟨(D 0 9 (Nat.le_of_ble_eq_true rfl) (Nat.le_of_ble_eq_true rfl) (by decide) _ (List.mem_singleton.2 rfl) _ (List.mem_singleton.2 rfl)), (D 0 10 (Nat.le_of_ble_eq_true rfl) (Nat.le_of_ble_eq_true rfl) (by decide) _ (List.mem_singleton.2 rfl) _ (List.mem_singleton.2 rfl)), (D 0 1 (Nat.le_of_ble_eq_true rfl) (Nat.le_of_ble_eq_true rfl) (by decide) _ (List.mem_singleton.2 rfl) _ (List.mem_singleton.2 rfl)), (D 0 2 (Nat.le_of_ble_eq_true rfl) (Nat.le_of_ble_eq_true rfl) (by decide) _ (List.mem_singleton.2 rfl) _ (List.mem_singleton.2 rfl)), (D 0 7 (Nat.le_of_ble_eq_true rfl) (Nat.le_of_ble_eq_true rfl) (by decide) _ (List.mem_singleton.2 rfl) _ (List.mem_singleton.2 rfl)), (D 0 3 (Nat.le_of_ble_eq_true rfl) (Nat.le_of_ble_eq_true rfl) (by decide) _ (List.mem_singleton.2 rfl) _ (List.mem_singleton.2 rfl)), (D 0 5 (Nat.le_of_ble_eq_true rfl) (Nat.le_of_ble_eq_true rfl) (by decide) _ (List.mem_singleton.2 rfl) _ (List.mem_singleton.2 rfl))⟩)).trans mt, held_cons.2 ⟨upd_at hko (by simp only [hk_cons, z_c_g, z_c_s, z_c_n, z_c_w, z_c_p, z_c_q, if_true, if_false]; simp only [NT.top, ndB, NT.fr, NT.e, NT.h, NT.lc, NT.rc, NT.b, NT.uni_id, hec]; try rfl), held_app.2 ⟨held_hp.2 ⟨upd_at hko (by simp only [hk_cons, z_p_g, z_p_s, z_p_n, z_p_c, z_p_w, z_p_q, if_true, if_false]; try rfl), up⟩, held_cons.2 ⟨upd_at hko (by simp only [hk_cons, z_n_g, z_n_s, z_n_c, z_n_w, z_n_p, z_n_q, if_true, if_false]; simp only [NT.top, ndB, NT.e, NT.h, NT.lc, NT.rc, NT.b, NT.uni_id, he]; try rfl), held_app.2 ⟨held_hp.2 ⟨upd_at hko (by simp only [hk_cons, z_w_g, z_w_s, z_w_n, z_w_c, z_w_p, z_w_q, if_true, if_false]; try rfl), uw⟩, held_hp.2 ⟨upd_at hko (by simp only [hk_cons, z_q_g, z_q_s, z_q_n, z_q_c, z_q_w, z_q_p, if_true, if_false]; try rfl), uq⟩⟩⟩⟩⟩, held_cons.2 ⟨upd_at hko (by simp only [hk_cons, z_g_s, z_g_n, z_g_c, z_g_w, z_g_p, z_g_q, if_true, if_false]; try rfl), held_app.2 ⟨held_hp.2 ⟨upd_at hko (by simp only [hk_cons, z_s_g, z_s_n, z_s_c, z_s_w, z_s_p, z_s_q, if_true, if_false]; try rfl), usk⟩, uz⟩⟩⟩
set_option maxHeartbeats 4000000 in
theorem rz_lR1 {nx bt bm n c : Nat} {e ec : En} {h hc : Int} {p q w : NT} {M : Nat → Option ABox} {gb : Nat} {eg : En} {hg : Int} {s : NT} {z3 : List Fr} (q_bm : bm < nx) (O : Opn nx M bt bm n e h (.nd c ec hc p q) w (⟨false, gb, eg, hg, s⟩ :: z3)) (he : e.id = 0) (hec : ec.id = 0) (b1 : 0 ≤ w.h ∧ w.h ≤ 900) (b2 : 0 ≤ p.h ∧ p.h ≤ 900) (b3 : 0 ≤ q.h ∧ q.h ≤ 900) (sw : p.h < q.h) :
    ∃ wb rb, CallS Try.prog M nx 49 [.pt bt 0, .pt n 0, .pt c 0] ⟨.pt c 0, wb, 0, rb⟩ ∧ Cls (updL M wb) bt bm (NT.rot n (.nd c ec hc p q) w) (⟨false, gb, eg, hg, s⟩ :: z3) := by
  have e0 : ([[bt], [n], [c], [p.b], p.kns, [q.b], q.kns, [w.b], w.kns, [gb], [s.b], s.kns, cns z3] : List (List Nat)).flatten = bt :: n :: ((NT.nos (.nd c ec hc p q)) ++ ((NT.nos w) ++ cns (⟨false, gb, eg, hg, s⟩ :: z3))) := by simp [NT.nos, NT.nos_eq, cns]
  have hnd : ([[bt], [n], [c], [p.b], p.kns, [q.b], q.kns, [w.b], w.kns, [gb], [s.b], s.kns, cns z3] : List (List Nat)).flatten.Nodup := by rw [e0]; exact O.fd
  have D := List.pairwise_iff_getElem.1 (List.pairwise_flatten.1 hnd).2
  have L : ∀ k ∈ ([[bt], [n], [c], [p.b], p.kns, [q.b], q.kns, [w.b], w.kns, [gb], [s.b], s.kns, cns z3] : List (List Nat)).flatten, k < nx := by rw [e0]; exact O.flt
  clear hnd e0
  have q_bt : bt < nx := L _ (by simp)
  have q_n : n < nx := L _ (by simp)
  have q_c : c < nx := L _ (by simp)
  have q_p : p.b < nx := L _ (by simp)
  have q_q : q.b < nx := L _ (by simp)
  have q_w : w.b < nx := L _ (by simp)
  have q_g : gb < nx := L _ (by simp)
  have q_s : s.b < nx := L _ (by simp)
  have Kw : ∀ k ∈ w.kns, k < nx := fun k hk => L k (by simp [hk])
  have Kp : ∀ k ∈ p.kns, k < nx := fun k hk => L k (by simp [hk])
  have Kq : ∀ k ∈ q.kns, k < nx := fun k hk => L k (by simp [hk])
  have Ks : ∀ k ∈ s.kns, k < nx := fun k hk => L k (by simp [hk])
  have Kz : ∀ k ∈ cns z3, k < nx := fun k hk => L k (by simp [hk])
  have z_g_s : (gb = s.b) = False := eq_false (D 9 10 (Nat.le_of_ble_eq_true rfl) (Nat.le_of_ble_eq_true rfl) (by decide) _ (List.mem_singleton.2 rfl) _ (List.mem_singleton.2 rfl))
  have z_g_n : (gb = n) = False := eq_false (Ne.symm (D 1 9 (Nat.le_of_ble_eq_true rfl) (Nat.le_of_ble_eq_true rfl) (by decide) _ (List.mem_singleton.2 rfl) _ (List.mem_singleton.2 rfl)))
  have z_g_c : (gb = c) = False := eq_false (Ne.symm (D 2 9 (Nat.le_of_ble_eq_true rfl) (Nat.le_of_ble_eq_true rfl) (by decide) _ (List.mem_singleton.2 rfl) _ (List.mem_singleton.2 rfl)))
  have z_g_w : (gb = w.b) = False := eq_false (Ne.symm (D 7 9 (Nat.le_of_ble_eq_true rfl) (Nat.le_of_ble_eq_true rfl) (by decide) _ (List.mem_singleton.2 rfl) _ (List.mem_singleton.2 rfl)))
  have z_g_p : (gb = p.b) = False := eq_false (Ne.symm (D 3 9 (Nat.le_of_ble_eq_true rfl) (Nat.le_of_ble_eq_true rfl) (by decide) _ (List.mem_singleton.2 rfl) _ (List.mem_singleton.2 rfl)))
  have z_g_q : (gb = q.b) = False := eq_false (Ne.symm (D 5 9 (Nat.le_of_ble_eq_true rfl) (Nat.le_of_ble_eq_true rfl) (by decide) _ (List.mem_singleton.2 rfl) _ (List.mem_singleton.2 rfl)))
  have z_s_g : (s.b = gb) = False := eq_false (Ne.symm (D 9 10 (Nat.le_of_ble_eq_true rfl) (Nat.le_of_ble_eq_true rfl) (by decide) _ (List.mem_singleton.2 rfl) _ (List.mem_singleton.2 rfl)))
  have z_s_n : (s.b = n) = False := eq_false (Ne.symm (D 1 10 (Nat.le_of_ble_eq_true rfl) (Nat.le_of_ble_eq_true rfl) (by decide) _ (List.mem_singleton.2 rfl) _ (List.mem_singleton.2 rfl)))
  have z_s_c : (s.b = c) = False := eq_false (Ne.symm (D 2 10 (Nat.le_of_ble_eq_true rfl) (Nat.le_of_ble_eq_true rfl) (by decide) _ (List.mem_singleton.2 rfl) _ (List.mem_singleton.2 rfl)))
  have z_s_w : (s.b = w.b) = False := eq_false (Ne.symm (D 7 10 (Nat.le_of_ble_eq_true rfl) (Nat.le_of_ble_eq_true rfl) (by decide) _ (List.mem_singleton.2 rfl) _ (List.mem_singleton.2 rfl)))
  have z_s_p : (s.b = p.b) = False := eq_false (Ne.symm (D 3 10 (Nat.le_of_ble_eq_true rfl) (Nat.le_of_ble_eq_true rfl) (by decide) _ (List.mem_singleton.2 rfl) _ (List.mem_singleton.2 rfl)))
  have z_s_q : (s.b = q.b) = False := eq_false (Ne.symm (D 5 10 (Nat.le_of_ble_eq_true rfl) (Nat.le_of_ble_eq_true rfl) (by decide) _ (List.mem_singleton.2 rfl) _ (List.mem_singleton.2 rfl)))
  have z_n_g : (n = gb) = False := eq_false (D 1 9 (Nat.le_of_ble_eq_true rfl) (Nat.le_of_ble_eq_true rfl) (by decide) _ (List.mem_singleton.2 rfl) _ (List.mem_singleton.2 rfl))
  have z_n_s : (n = s.b) = False := eq_false (D 1 10 (Nat.le_of_ble_eq_true rfl) (Nat.le_of_ble_eq_true rfl) (by decide) _ (List.mem_singleton.2 rfl) _ (List.mem_singleton.2 rfl))
  have z_n_c : (n = c) = False := eq_false (D 1 2 (Nat.le_of_ble_eq_true rfl) (Nat.le_of_ble_eq_true rfl) (by decide) _ (List.mem_singleton.2 rfl) _ (List.mem_singleton.2 rfl))
  have z_n_w : (n = w.b) = False := eq_false (D 1 7 (Nat.le_of_ble_eq_true rfl) (Nat.le_of_ble_eq_true rfl) (by decide) _ (List.mem_singleton.2 rfl) _ (List.mem_singleton.2 rfl))
  have z_n_p : (n = p.b) = False := eq_false (D 1 3 (Nat.le_of_ble_eq_true rfl) (Nat.le_of_ble_eq_true rfl) (by decide) _ (List.mem_singleton.2 rfl) _ (List.mem_singleton.2 rfl))
  have z_n_q : (n = q.b) = False := eq_false (D 1 5 (Nat.le_of_ble_eq_true rfl) (Nat.le_of_ble_eq_true rfl) (by decide) _ (List.mem_singleton.2 rfl) _ (List.mem_singleton.2 rfl))
  have z_c_g : (c = gb) = False := eq_false (D 2 9 (Nat.le_of_ble_eq_true rfl) (Nat.le_of_ble_eq_true rfl) (by decide) _ (List.mem_singleton.2 rfl) _ (List.mem_singleton.2 rfl))
  have z_c_s : (c = s.b) = False := eq_false (D 2 10 (Nat.le_of_ble_eq_true rfl) (Nat.le_of_ble_eq_true rfl) (by decide) _ (List.mem_singleton.2 rfl) _ (List.mem_singleton.2 rfl))
  have z_c_n : (c = n) = False := eq_false (Ne.symm (D 1 2 (Nat.le_of_ble_eq_true rfl) (Nat.le_of_ble_eq_true rfl) (by decide) _ (List.mem_singleton.2 rfl) _ (List.mem_singleton.2 rfl)))
  have z_c_w : (c = w.b) = False := eq_false (D 2 7 (Nat.le_of_ble_eq_true rfl) (Nat.le_of_ble_eq_true rfl) (by decide) _ (List.mem_singleton.2 rfl) _ (List.mem_singleton.2 rfl))
  have z_c_p : (c = p.b) = False := eq_false (D 2 3 (Nat.le_of_ble_eq_true rfl) (Nat.le_of_ble_eq_true rfl) (by decide) _ (List.mem_singleton.2 rfl) _ (List.mem_singleton.2 rfl))
  have z_c_q : (c = q.b) = False := eq_false (D 2 5 (Nat.le_of_ble_eq_true rfl) (Nat.le_of_ble_eq_true rfl) (by decide) _ (List.mem_singleton.2 rfl) _ (List.mem_singleton.2 rfl))
  have z_w_g : (w.b = gb) = False := eq_false (D 7 9 (Nat.le_of_ble_eq_true rfl) (Nat.le_of_ble_eq_true rfl) (by decide) _ (List.mem_singleton.2 rfl) _ (List.mem_singleton.2 rfl))
  have z_w_s : (w.b = s.b) = False := eq_false (D 7 10 (Nat.le_of_ble_eq_true rfl) (Nat.le_of_ble_eq_true rfl) (by decide) _ (List.mem_singleton.2 rfl) _ (List.mem_singleton.2 rfl))
  have z_w_n : (w.b = n) = False := eq_false (Ne.symm (D 1 7 (Nat.le_of_ble_eq_true rfl) (Nat.le_of_ble_eq_true rfl) (by decide) _ (List.mem_singleton.2 rfl) _ (List.mem_singleton.2 rfl)))
  have z_w_c : (w.b = c) = False := eq_false (Ne.symm (D 2 7 (Nat.le_of_ble_eq_true rfl) (Nat.le_of_ble_eq_true rfl) (by decide) _ (List.mem_singleton.2 rfl) _ (List.mem_singleton.2 rfl)))
  have z_w_p : (w.b = p.b) = False := eq_false (Ne.symm (D 3 7 (Nat.le_of_ble_eq_true rfl) (Nat.le_of_ble_eq_true rfl) (by decide) _ (List.mem_singleton.2 rfl) _ (List.mem_singleton.2 rfl)))
  have z_w_q : (w.b = q.b) = False := eq_false (Ne.symm (D 5 7 (Nat.le_of_ble_eq_true rfl) (Nat.le_of_ble_eq_true rfl) (by decide) _ (List.mem_singleton.2 rfl) _ (List.mem_singleton.2 rfl)))
  have z_p_g : (p.b = gb) = False := eq_false (D 3 9 (Nat.le_of_ble_eq_true rfl) (Nat.le_of_ble_eq_true rfl) (by decide) _ (List.mem_singleton.2 rfl) _ (List.mem_singleton.2 rfl))
  have z_p_s : (p.b = s.b) = False := eq_false (D 3 10 (Nat.le_of_ble_eq_true rfl) (Nat.le_of_ble_eq_true rfl) (by decide) _ (List.mem_singleton.2 rfl) _ (List.mem_singleton.2 rfl))
  have z_p_n : (p.b = n) = False := eq_false (Ne.symm (D 1 3 (Nat.le_of_ble_eq_true rfl) (Nat.le_of_ble_eq_true rfl) (by decide) _ (List.mem_singleton.2 rfl) _ (List.mem_singleton.2 rfl)))
  have z_p_c : (p.b = c) = False := eq_false (Ne.symm (D 2 3 (Nat.le_of_ble_eq_true rfl) (Nat.le_of_ble_eq_true rfl) (by decide) _ (List.mem_singleton.2 rfl) _ (List.mem_singleton.2 rfl)))
  have z_p_w : (p.b = w.b) = False := eq_false (D 3 7 (Nat.le_of_ble_eq_true rfl) (Nat.le_of_ble_eq_true rfl) (by decide) _ (List.mem_singleton.2 rfl) _ (List.mem_singleton.2 rfl))
  have z_p_q : (p.b = q.b) = False := eq_false (D 3 5 (Nat.le_of_ble_eq_true rfl) (Nat.le_of_ble_eq_true rfl) (by decide) _ (List.mem_singleton.2 rfl) _ (List.mem_singleton.2 rfl))
  have z_q_g : (q.b = gb) = False := eq_false (D 5 9 (Nat.le_of_ble_eq_true rfl) (Nat.le_of_ble_eq_true rfl) (by decide) _ (List.mem_singleton.2 rfl) _ (List.mem_singleton.2 rfl))
  have z_q_s : (q.b = s.b) = False := eq_false (D 5 10 (Nat.le_of_ble_eq_true rfl) (Nat.le_of_ble_eq_true rfl) (by decide) _ (List.mem_singleton.2 rfl) _ (List.mem_singleton.2 rfl))
  have z_q_n : (q.b = n) = False := eq_false (Ne.symm (D 1 5 (Nat.le_of_ble_eq_true rfl) (Nat.le_of_ble_eq_true rfl) (by decide) _ (List.mem_singleton.2 rfl) _ (List.mem_singleton.2 rfl)))
  have z_q_c : (q.b = c) = False := eq_false (Ne.symm (D 2 5 (Nat.le_of_ble_eq_true rfl) (Nat.le_of_ble_eq_true rfl) (by decide) _ (List.mem_singleton.2 rfl) _ (List.mem_singleton.2 rfl)))
  have z_q_w : (q.b = w.b) = False := eq_false (D 5 7 (Nat.le_of_ble_eq_true rfl) (Nat.le_of_ble_eq_true rfl) (by decide) _ (List.mem_singleton.2 rfl) _ (List.mem_singleton.2 rfl))
  have z_q_p : (q.b = p.b) = False := eq_false (Ne.symm (D 3 5 (Nat.le_of_ble_eq_true rfl) (Nat.le_of_ble_eq_true rfl) (by decide) _ (List.mem_singleton.2 rfl) _ (List.mem_singleton.2 rfl)))
  have mt := O.ft
  have mn := O.fn
  obtain ⟨mc, ml⟩ := held_hp.1 O.fl
  obtain ⟨mp', mq'⟩ := held_app.1 (show Held M (p.hp (.pt c 0) ++ q.hp (.pt c 0)) from ml)
  obtain ⟨mp, mpk⟩ := held_hp.1 mp'
  obtain ⟨mq, mqk⟩ := held_hp.1 mq'
  obtain ⟨mw, mwk⟩ := held_hp.1 O.fr
  obtain ⟨mg, mz⟩ := held_cons.1 (show Held M ((gb, _) :: (s.hp (.pt gb 0) ++ ctx z3 gb)) from O.fz)
  obtain ⟨msh, mz3⟩ := held_app.1 mz
  obtain ⟨ms, msk⟩ := held_hp.1 msh
  have hC := @c_rotlR1 nx gb s.b n c w.b p.b q.b bt q_bt e ec w.e p.e q.e eg s.e (.pt n 0) w.lc w.rc (.pt c 0) p.lc p.rc (.pt c 0) q.lc q.rc (paZ z3) (.pt gb 0) s.lc s.rc h e.id hc ec.id w.h w.e.id p.h p.e.id q.h q.e.id hg eg.id s.h s.e.id q_g q_s q_n q_c q_w q_p q_q (of_eq_false z_g_s) (of_eq_false z_g_n) (of_eq_false z_g_c) (of_eq_false z_g_w) (of_eq_false z_g_p) (of_eq_false z_g_q) (of_eq_false z_s_n) (of_eq_false z_s_c) (of_eq_false z_s_w) (of_eq_false z_s_p) (of_eq_false z_s_q) (of_eq_false z_n_c) (of_eq_false z_n_w) (of_eq_false z_n_p) (of_eq_false z_n_q) (of_eq_false z_c_w) (of_eq_false z_c_p) (of_eq_false z_c_q) (of_eq_false z_w_p) (of_eq_false z_w_q) (of_eq_false z_p_q) (lc_lt Kp) (lc_lt Kq) (lc_lt Ks) (lc_lt Kw) (pa_lt Kz) (Lt.pt _ _ q_c) (Lt.pt _ _ q_c) (Lt.pt _ _ q_g) (Lt.pt _ _ q_n) (rc_lt Kp) (rc_lt Kq) (rc_lt Ks) (rc_lt Kw) b1 b2 b3 sw
  have hko : keysOk ([(gb, .var (.agg [.i eg.x, .i eg.y, .i eg.u, .i eg.w, (paZ z3), .pt s.b 0, .pt c 0, .i hg, .i eg.id])), (s.b, .var (.agg [.i s.e.x, .i s.e.y, .i s.e.u, .i s.e.w, (.pt gb 0), s.lc, s.rc, .i s.h, .i s.e.id])), (n, .var (.agg [.i (uniE w.e p.e).x, .i (uniE w.e p.e).y, .i (uniE w.e p.e).u, .i (uniE w.e p.e).w, .pt c 0, .pt w.b 0, .pt p.b 0, .i (1 + imax w.h p.h), .i e.id])), (c, .var (.agg [.i (uniE q.e (uniE w.e p.e)).x, .i (uniE q.e (uniE w.e p.e)).y, .i (uniE q.e (uniE w.e p.e)).u, .i (uniE q.e (uniE w.e p.e)).w, .pt gb 0, .pt q.b 0, .pt n 0, .i (1 + imax q.h (1 + imax w.h p.h)), .i ec.id])), (w.b, .var (.agg [.i w.e.x, .i w.e.y, .i w.e.u, .i w.e.w, .pt n 0, w.lc, w.rc, .i w.h, .i w.e.id])), (p.b, .var (.agg [.i p.e.x, .i p.e.y, .i p.e.u, .i p.e.w, .pt n 0, p.lc, p.rc, .i p.h, .i p.e.id])), (q.b, .var (.agg [.i q.e.x, .i q.e.y, .i q.e.u, .i q.e.w, .pt c 0, q.lc, q.rc, .i q.h, .i q.e.id]))] : HH) = true := by simp [keysOk, z_g_s, z_g_n, z_g_c, z_g_w, z_g_p, z_g_q, z_s_n, z_s_c, z_s_w, z_s_p, z_s_q, z_n_c, z_n_w, z_n_p, z_n_q, z_c_w, z_c_p, z_c_q, z_w_p, z_w_q, z_p_q]
  refine ⟨[(gb, .var (.agg [.i eg.x, .i eg.y, .i eg.u, .i eg.w, (paZ z3), .pt s.b 0, .pt c 0, .i hg, .i eg.id])), (s.b, .var (.agg [.i s.e.x, .i s.e.y, .i s.e.u, .i s.e.w, (.pt gb 0), s.lc, s.rc, .i s.h, .i s.e.id])), (n, .var (.agg [.i (uniE w.e p.e).x, .i (uniE w.e p.e).y, .i (uniE w.e p.e).u, .i (uniE w.e p.e).w, .pt c 0, .pt w.b 0, .pt p.b 0, .i (1 + imax w.h p.h), .i e.id])), (c, .var (.agg [.i (uniE q.e (uniE w.e p.e)).x, .i (uniE q.e (uniE w.e p.e)).y, .i (uniE q.e (uniE w.e p.e)).u, .i (uniE q.e (uniE w.e p.e)).w, .pt gb 0, .pt q.b 0, .pt n 0, .i (1 + imax q.h (1 + imax w.h p.h)), .i ec.id])), (w.b, .var (.agg [.i w.e.x, .i w.e.y, .i w.e.u, .i w.e.w, .pt n 0, w.lc, w.rc, .i w.h, .i w.e.id])), (p.b, .var (.agg [.i p.e.x, .i p.e.y, .i p.e.u, .i p.e.w, .pt n 0, p.lc, p.rc, .i p.h, .i p.e.id])), (q.b, .var (.agg [.i q.e.x, .i q.e.y, .i q.e.u, .i q.e.w, .pt c 0, q.lc, q.rc, .i q.h, .i q.e.id]))], [gb, s.b, n, c, w.b, p.b, q.b], hC.congr (fun k hk' => ?_), ?_⟩
  · simp only [List.mem_cons, List.not_mem_nil, or_false] at hk'
    rcases hk' with rfl | rfl | rfl | rfl | rfl | rfl | rfl
    · refine mg.trans ?_
      simp only [hk_cons, z_g_s, z_g_n, z_g_c, z_g_w, z_g_p, z_g_q, if_true, if_false]
      try rfl
    · refine ms.trans ?_
      simp only [hk_cons, z_s_g, z_s_n, z_s_c, z_s_w, z_s_p, z_s_q, if_true, if_false]
      try rfl
    · refine mn.trans ?_
      simp only [hk_cons, z_n_g, z_n_s, z_n_c, z_n_w, z_n_p, z_n_q, if_true, if_false]
      try rfl
    · refine mc.trans ?_
      simp only [hk_cons, z_c_g, z_c_s, z_c_n, z_c_w, z_c_p, z_c_q, if_true, if_false]
      try rfl
    · refine mw.trans ?_
      simp only [hk_cons, z_w_g, z_w_s, z_w_n, z_w_c, z_w_p, z_w_q, if_true, if_false]
      try rfl
    · refine mp.trans ?_
      simp only [hk_cons, z_p_g, z_p_s, z_p_n, z_p_c, z_p_w, z_p_q, if_true, if_false]
      try rfl
    · refine mq.trans ?_
      simp only [hk_cons, z_q_g, z_q_s, z_q_n, z_q_c, z_q_w, z_q_p, if_true, if_false]
      try rfl
  · have hr : NT.rot n (.nd c ec hc p q) w = NT.fr c q (NT.fr n w p) := if_pos sw
    rw [hr]
    have up := mpk.upd (wb := [(gb, .var (.agg [.i eg.x, .i eg.y, .i eg.u, .i eg.w, (paZ z3), .pt s.b 0, .pt c 0, .i hg, .i eg.id])), (s.b, .var (.agg [.i s.e.x, .i s.e.y, .i s.e.u, .i s.e.w, (.pt gb 0), s.lc, s.rc, .i s.h, .i s.e.id])), (n, .var (.agg [.i (uniE w.e p.e).x, .i (uniE w.e p.e).y, .i (uniE w.e p.e).u, .i (uniE w.e p.e).w, .pt c 0, .pt w.b 0, .pt p.b 0, .i (1 + imax w.h p.h), .i e.id])), (c, .var (.agg [.i (uniE q.e (uniE w.e p.e)).x, .i (uniE q.e (uniE w.e p.e)).y, .i (uniE q.e (uniE w.e p.e)).u, .i (uniE q.e (uniE w.e p.e)).w, .pt gb 0, .pt q.b 0, .pt n 0, .i (1 + imax q.h (1 + imax w.h p.h)), .i ec.id])), (w.b, .var (.agg [.i w.e.x, .i w.e.y, .i w.e.u, .i w.e.w, .pt n 0, w.lc, w.rc, .i w.h, .i w.e.id])), (p.b, .var (.agg [.i p.e.x, .i p.e.y, .i p.e.u, .i p.e.w, .pt n 0, p.lc, p.rc, .i p.h, .i p.e.id])), (q.b, .var (.agg [.i q.e.x, .i q.e.y, .i q.e.u, .i q.e.w, .pt c 0, q.lc, q.rc, .i q.h, .i q.e.id]))]) (fun b hb => by
      rw [show (p.kids.map (·.1)) = p.kns from rfl] at hb
      simp only [List.map_cons, List.map_nil, List.mem_cons, List.not_mem_nil, or_false, not_or]
      exact ⟨(D 4 9 (Nat.le_of_ble_eq_true rfl) (Nat.le_of_ble_eq_true rfl) (by decide) _ hb _ (List.mem_singleton.2 rfl)), (D 4 10 (Nat.le_of_ble_eq_true rfl) (Nat.le_of_ble_eq_true rfl) (by decide) _ hb _ (List.mem_singleton.2 rfl)), (Ne.symm (D 1 4 (Nat.le_of_ble_eq_true rfl) (Nat.le_of_ble_eq_true rfl) (by decide) _ (List.mem_singleton.2 rfl) _ hb)), (Ne.symm (D 2 4 (Nat.le_of_ble_eq_true rfl) (Nat.le_of_ble_eq_true rfl) (by decide) _ (List.mem_singleton.2 rfl) _ hb)), (D 4 7 (Nat.le_of_ble_eq_true rfl) (Nat.le_of_ble_eq_true rfl) (by decide) _ hb _ (List.mem_singleton.2 rfl)), (Ne.symm (D 3 4 (Nat.le_of_ble_eq_true rfl) (Nat.le_of_ble_eq_true rfl) (by decide) _ (List.mem_singleton.2 rfl) _ hb)), (D 4 5 (Nat.le_of_ble_eq_true rfl) (Nat.le_of_ble_eq_true rfl) (by decide) _ hb _ (List.mem_singleton.2 rfl))⟩)
    have uq := mqk.upd (wb := [(gb, .var (.agg [.i eg.x, .i eg.y, .i eg.u, .i eg.w, (paZ z3), .pt s.b 0, .pt c 0, .i hg, .i eg.id])), (s.b, .var (.agg [.i s.e.x, .i s.e.y, .i s.e.u, .i s.e.w, (.pt gb 0), s.lc, s.rc, .i s.h, .i s.e.id])), (n, .var (.agg [.i (uniE w.e p.e).x, .i (uniE w.e p.e).y, .i (uniE w.e p.e).u, .i (uniE w.e p.e).w, .pt c 0, .pt w.b 0, .pt p.b 0, .i (1 + imax w.h p.h), .i e.id])), (c, .var (.agg [.i (uniE q.e (uniE w.e p.e)).x, .i (uniE q.e (uniE w.e p.e)).y, .i (uniE q.e (uniE w.e p.e)).u, .i (uniE q.e (uniE w.e p.e)).w, .pt gb 0, .pt q.b 0, .pt n 0, .i (1 + imax q.h (1 + imax w.h p.h)), .i ec.id])), (w.b, .var (.agg [.i w.e.x, .i w.e.y, .i w.e.u, .i w.e.w, .pt n 0, w.lc, w.rc, .i w.h, .i w.e.id])), (p.b, .var (.agg [.i p.e.x, .i p.e.y, .i p.e.u, .i p.e.w, .pt n 0, p.lc, p.rc, .i p.h, .i p.e.id])), (q.b, .var (.agg [.i q.e.x, .i q.e.y, .i q.e.u, .i q.e.w, .pt c 0, q.lc, q.rc, .i q.h, .i q.e.id]))]) (fun b hb => by
      rw [show (q.kids.map (·.1)) = q.kns from rfl] at hb
      simp only [List.map_cons, List.map_nil, List.mem_cons, List.not_mem_nil, or_false, not_or]
      exact ⟨(D 6 9 (Nat.le_of_ble_eq_true rfl) (Nat.le_of_ble_eq_true rfl) (by decide) _ hb _ (List.mem_singleton.2 rfl)), (D 6 10 (Nat.le_of_ble_eq_true rfl) (Nat.le_of_ble_eq_true rfl) (by decide) _ hb _ (List.mem_singleton.2 rfl)), (Ne.symm (D 1 6 (Nat.le_of_ble_eq_true rfl) (Nat.le_of_ble_eq_true rfl) (by decide) _ (List.mem_singleton.2 rfl) _ hb)), (Ne.symm (D 2 6 (Nat.le_of_ble_eq_true rfl) (Nat.le_of_ble_eq_true rfl) (by decide) _ (List.mem_singleton.2 rfl) _ hb)), (D 6 7 (Nat.le_of_ble_eq_true rfl) (Nat.le_of_ble_eq_true rfl) (by decide) _ hb _ (List.mem_singleton.2 rfl)), (Ne.symm (D 3 6 (Nat.le_of_ble_eq_true rfl) (Nat.le_of_ble_eq_true rfl) (by decide) _ (List.mem_singleton.2 rfl) _ hb)), (Ne.symm (D 5 6 (Nat.le_of_ble_eq_true rfl) (Nat.le_of_ble_eq_true rfl) (by decide) _ (List.mem_singleton.2 rfl) _ hb))⟩)
    have uw := mwk.upd (wb := [(gb, .var (.agg [.i eg.x, .i eg.y, .i eg.u, .i eg.w, (paZ z3), .pt s.b 0, .pt c 0, .i hg, .i eg.id])), (s.b, .var (.agg [.i s.e.x, .i s.e.y, .i s.e.u, .i s.e.w, (.pt gb 0), s.lc, s.rc, .i s.h, .i s.e.id])), (n, .var (.agg [.i (uniE w.e p.e).x, .i (uniE w.e p.e).y, .i (uniE w.e p.e).u, .i (uniE w.e p.e).w, .pt c 0, .pt w.b 0, .pt p.b 0, .i (1 + imax w.h p.h), .i e.id])), (c, .var (.agg [.i (uniE q.e (uniE w.e p.e)).x, .i (uniE q.e (uniE w.e p.e)).y, .i (uniE q.e (uniE w.e p.e)).u, .i (uniE q.e (uniE w.e p.e)).w, .pt gb 0, .pt q.b 0, .pt n 0, .i (1 + imax q.h (1 + imax w.h p.h)), .i ec.id])), (w.b, .var (.agg [.i w.e.x, .i w.e.y, .i w.e.u, .i w.e.w, .pt n 0, w.lc, w.rc, .i w.h, .i w.e.id])), (p.b, .var (.agg [.i p.e.x, .i p.e.y, .i p.e.u, .i p.e.w, .pt n 0, p.lc, p.rc, .i p.h, .i p.e.id])), (q.b, .var (.agg [.i q.e.x, .i q.e.y, .i q.e.u, .i q.e.w, .pt c 0, q.lc, q.rc, .i q.h, .i q.e.id]))]) (fun b hb => by
      rw [show (w.kids.map (·.1)) = w.kns from rfl] at hb
      simp only [List.map_cons, List.map_nil, List.mem_cons, List.not_mem_nil, or_false, not_or]
      exact ⟨(D 8 9 (Nat.le_of_ble_eq_true rfl) (Nat.le_of_ble_eq_true rfl) (by decide) _ hb _ (List.mem_singleton.2 rfl)), (D 8 10 (Nat.le_of_ble_eq_true rfl) (Nat.le_of_ble_eq_true rfl) (by decide) _ hb _ (List.mem_singleton.2 rfl)), (Ne.symm (D 1 8 (Nat.le_of_ble_eq_true rfl) (Nat.le_of_ble_eq_true rfl) (by decide) _ (List.mem_singleton.2 rfl) _ hb)), (Ne.symm (D 2 8 (Nat.le_of_ble_eq_true rfl) (Nat.le_of_ble_eq_true rfl) (by decide) _ (List.mem_singleton.2 rfl) _ hb)), (Ne.symm (D 7 8 (Nat.le_of_ble_eq_true rfl) (Nat.le_of_ble_eq_true rfl) (by decide) _ (List.mem_singleton.2 rfl) _ hb)), (Ne.symm (D 3 8 (Nat.le_of_ble_eq_true rfl) (Nat.le_of_ble_eq_true rfl) (by decide) _ (List.mem_singleton.2 rfl) _ hb)), (Ne.symm (D 5 8 (Nat.le_of_ble_eq_true rfl) (Nat.le_of_ble_eq_true rfl) (by decide) _ (List.mem_singleton.2 rfl) _ hb))⟩)
    have uz := mz3.upd (wb := [(gb, .var (.agg [.i eg.x, .i eg.y, .i eg.u, .i eg.w, (paZ z3), .pt s.b 0, .pt c 0, .i hg, .i eg.id])), (s.b, .var (.agg [.i s.e.x, .i s.e.y, .i s.e.u, .i s.e.w, (.pt gb 0), s.lc, s.rc, .i s.h, .i s.e.id])), (n, .var (.agg [.i (uniE w.e p.e).x, .i (uniE w.e p.e).y, .i (uniE w.e p.e).u, .i (uniE w.e p.e).w, .pt c 0, .pt w.b 0, .pt p.b 0, .i (1 + imax w.h p.h), .i e.id])), (c, .var (.agg [.i (uniE q.e (uniE w.e p.e)).x, .i (uniE q.e (uniE w.e p.e)).y, .i (uniE q.e (uniE w.e p.e)).u, .i (uniE q.e (uniE w.e p.e)).w, .pt gb 0, .pt q.b 0, .pt n 0, .i (1 + imax q.h (1 + imax w.h p.h)), .i ec.id])), (w.b, .var (.agg [.i w.e.x, .i w.e.y, .i w.e.u, .i w.e.w, .pt n 0, w.lc, w.rc, .i w.h, .i w.e.id])), (p.b, .var (.agg [.i p.e.x, .i p.e.y, .i p.e.u, .i p.e.w, .pt n 0, p.lc, p.rc, .i p.h, .i p.e.id])), (q.b, .var (.agg [.i q.e.x, .i q.e.y, .i q.e.u, .i q.e.w, .pt c 0, q.lc, q.rc, .i q.h, .i q.e.id]))]) (fun b hb => by
      rw [ctx_nos] at hb
      simp only [List.map_cons, List.map_nil, List.mem_cons, List.not_mem_nil, or_false, not_or]
      exact ⟨(Ne.symm (D 9 12 (Nat.le_of_ble_eq_true rfl) (Nat.le_of_ble_eq_true rfl) (by decide) _ (List.mem_singleton.2 rfl) _ hb)), (Ne.symm (D 10 12 (Nat.le_of_ble_eq_true rfl) (Nat.le_of_ble_eq_true rfl) (by decide) _ (List.mem_singleton.2 rfl) _ hb)), (Ne.symm (D 1 12 (Nat.le_of_ble_eq_true rfl) (Nat.le_of_ble_eq_true rfl) (by decide) _ (List.mem_singleton.2 rfl) _ hb)), (Ne.symm (D 2 12 (Nat.le_of_ble_eq_true rfl) (Nat.le_of_ble_eq_true rfl) (by decide) _ (List.mem_singleton.2 rfl) _ hb)), (Ne.symm (D 7 12 (Nat.le_of_ble_eq_true rfl) (Nat.le_of_ble_eq_true rfl) (by decide) _ (List.mem_singleton.2 rfl) _ hb)), (Ne.symm (D 3 12 (Nat.le_of_ble_eq_true rfl) (Nat.le_of_ble_eq_true rfl) (by decide) _ (List.mem_singleton.2 rfl) _ hb)), (Ne.symm (D 5 12 (Nat.le_of_ble_eq_true rfl) (Nat.le_of_ble_eq_true rfl) (by decide) _ (List.mem_singleton.2 rfl) _ hb))⟩)
    have usk := msk.upd (wb := [(gb, .var (.agg [.i eg.x, .i eg.y, .i eg.u, .i eg.w, (paZ z3), .pt s.b 0, .pt c 0, .i hg, .i eg.id])), (s.b, .var (.agg [.i s.e.x, .i s.e.y, .i s.e.u, .i s.e.w, (.pt gb 0), s.lc, s.rc, .i s.h, .i s.e.id])), (n, .var (.agg [.i (uniE w.e p.e).x, .i (uniE w.e p.e).y, .i (uniE w.e p.e).u, .i (uniE w.e p.e).w, .pt c 0, .pt w.b 0, .pt p.b 0, .i (1 + imax w.h p.h), .i e.id])), (c, .var (.agg [.i (uniE q.e (uniE w.e p.e)).x, .i (uniE q.e (uniE w.e p.e)).y, .i (uniE q.e (uniE w.e p.e)).u, .i (uniE q.e (uniE w.e p.e)).w, .pt gb 0, .pt q.b 0, .pt n 0, .i (1 + imax q.h (1 + imax w.h p.h)), .i ec.id])), (w.b, .var (.agg [.i w.e.x, .i w.e.y, .i w.e.u, .i w.e.w, .pt n 0, w.lc, w.rc, .i w.h, .i w.e.id])), (p.b, .var (.agg [.i p.e.x, .i p.e.y, .i p.e.u, .i p.e.w, .pt n 0, p.lc, p.rc, .i p.h, .i p.e.id])), (q.b, .var (.agg [.i q.e.x, .i q.e.y, .i q.e.u, .i q.e.w, .pt c 0, q.lc, q.rc, .i q.h, .i q.e.id]))]) (fun b hb => by
      rw [show (s.kids.map (·.1)) = s.kns from rfl] at hb
      simp only [List.map_cons, List.map_nil, List.mem_cons, List.not_mem_nil, or_false, not_or]
      exact ⟨(Ne.symm (D 9 11 (Nat.le_of_ble_eq_true rfl) (Nat.le_of_ble_eq_true rfl) (by decide) _ (List.mem_singleton.2 rfl) _ hb)), (Ne.symm (D 10 11 (Nat.le_of_ble_eq_true rfl) (Nat.le_of_ble_eq_true rfl) (by decide) _ (List.mem_singleton.2 rfl) _ hb)), (Ne.symm (D 1 11 (Nat.le_of_ble_eq_true rfl) (Nat.le_of_ble_eq_true rfl) (by decide) _ (List.mem_singleton.2 rfl) _ hb)), (Ne.symm (D 2 11 (Nat.le_of_ble_eq_true rfl) (Nat.le_of_ble_eq_true rfl) (by decide) _ (List.mem_singleton.2 rfl) _ hb)), (Ne.symm (D 7 11 (Nat.le_of_ble_eq_true rfl) (Nat.le_of_ble_eq_true rfl) (by decide) _ (List.mem_singleton.2 rfl) _ hb)), (Ne.symm (D 3 11 (Nat.le_of_ble_eq_true rfl) (Nat.le_of_ble_eq_true rfl) (by decide) _ (List.mem_singleton.2 rfl) _ hb)), (Ne.symm (D 5 11 (Nat.le_of_ble_eq_true rfl) (Nat.le_of_ble_eq_true rfl) (by decide) _ (List.mem_singleton.2 rfl) _ hb))⟩)
    refine ⟨(updL_other _ _ _ (by simp only [List.map_cons, List.map_nil, List.mem_cons, List.not_mem_nil, or_false, not_or]; exact ⟨(D 0 9 (Nat.le_of_ble_eq_true rfl) (Nat.le_of_ble_eq_true rfl) (by decide) _ (List.mem_singleton.2 rfl) _ (List.mem_singleton.2 rfl)), (D 0 10 (Nat.le_of_ble_eq_true rfl) (Nat.le_of_ble_eq_true rfl) (by decide) _ (List.mem_singleton.2 rfl) _ (List.mem_singleton.2 rfl)), (D 0 1 (Nat.le_of_ble_eq_true rfl) (Nat.le_of_ble_eq_true rfl) (by decide) _ (List.mem_singleton.2 rfl) _ (List.mem_singleton.2 rfl)), (D 0 2 (Nat.le_of_ble_eq_true rfl) (Nat.le_of_ble_eq_true rfl) (by decide) _ (List.mem_singleton.2 rfl) _ (List.mem_singleton.2 rfl)), (D 0 7 (Nat.le_of_ble_eq_true rfl) (Nat.le_of_ble_eq_true rfl) (by decide) _ (List.mem_singleton.2 rfl) _ (List.mem_singleton.2 rfl)), (D 0 3 (Nat.le_of_ble_eq_true rfl) (Nat.le_of_ble_eq_true rfl) (by decide) _ (List.mem_singleton.2 rfl) _ (List.mem_singleton.2 rfl)), (D 0 5 (Nat.le_of_ble_eq_true rfl) (Nat.le_of_ble_eq_true rfl) (by decide) _ (List.mem_singleton.2 rfl) _ (List.mem_singleton.2 rfl))⟩)).trans mt, held_cons.2 ⟨upd_at hko (by simp only [hk_cons, z_c_g, z_c_s, z_c_n, z_c_w, z_c_p, z_c_q, if_true, if_false]; simp only [NT.top, ndB, NT.fr, NT.e, NT.h, NT.lc, NT.rc, NT.b, NT.uni_id, hec]; try rfl), held_app.2 ⟨held_hp.2 ⟨upd_at hko (by simp only [hk_cons, z_q_g, z_q_s, z_q_n, z_q_c, z_q_w, z_q_p, if_true, if_false]; try rfl), uq⟩, held_cons.2 ⟨upd_at hko (by simp only [hk_cons, z_n_g, z_n_s, z_n_c, z_n_w, z_n_p, z_n_q, if_true, if_false]; simp only [NT.top, ndB, NT.e, NT.h, NT.lc, NT.rc, NT.b, NT.uni_id, he]; try rfl), held_app.2 ⟨held_hp.2 ⟨upd_at hko (by simp only [hk_cons, z_w_g, z_w_s, z_w_n, z_w_c, z_w_p, z_w_q, if_true, if_false]; try rfl), uw⟩, held_hp.2 ⟨upd_at hko (by simp only [hk_cons, z_p_g, z_p_s, z_p_n, z_p_c, z_p_w, z_p_q, if_true, if_false]; try rfl), up⟩⟩⟩⟩⟩, held_cons.2 ⟨upd_at hko (by simp only [hk_cons, z_g_s, z_g_n, z_g_c, z_g_w, z_g_p, z_g_q, if_true, if_false]; try rfl), held_app.2 ⟨held_hp.2 ⟨upd_at hko (by simp only [hk_cons, z_s_g, z_s_n, z_s_c, z_s_w, z_s_p, z_s_q, if_true, if_false]; try rfl), usk⟩, uz⟩⟩⟩
set_option maxHeartbeats 4000000 in
theorem rz_r00 {nx bt bm n c : Nat} {e ec : En} {h hc : Int} {p q w : NT} {M : Nat → Option ABox} (q_bm : bm < nx) (O : Opn nx M bt bm n e h w (.nd c ec hc p q) []) (he : e.id = 0) (hec : ec.id = 0) (b1 : 0 ≤ w.h ∧ w.h ≤ 900) (b2 : 0 ≤ p.h ∧ p.h ≤ 900) (b3 : 0 ≤ q.h ∧ q.h ≤ 900) (sw : ¬ p.h < q.h) :
    ∃ wb rb, CallS Try.prog M nx 49 [.pt bt 0, .pt n 0, .pt c 0] ⟨.pt c 0, wb, 0, rb⟩ ∧ Cls (updL M wb) bt bm (NT.rot n (.nd c ec hc p q) w) [] := by
  have e0 : ([[bt], [n], [w.b], w.kns, [c], [p.b], p.kns, [q.b], q.kns] : List (List Nat)).flatten = bt :: n :: ((NT.nos w) ++ ((NT.nos (.nd c ec hc p q)) ++ cns [])) := by simp [NT.nos, NT.nos_eq, cns]
  have hnd : ([[bt], [n], [w.b], w.kns, [c], [p.b], p.kns, [q.b], q.kns] : List (List Nat)).flatten.Nodup := by rw [e0]; exact O.fd
  have D := List.pairwise_iff_getElem.1 (List.pairwise_flatten.1 hnd).2
  have L : ∀ k ∈ ([[bt], [n], [w.b], w.kns, [c], [p.b], p.kns, [q.b], q.kns] : List (List Nat)).flatten, k < nx := by rw [e0]; exact O.flt
  clear hnd e0
  have q_bt : bt < nx := L _ (by simp)
  have q_n : n < nx := L _ (by simp)
  have q_w : w.b < nx := L _ (by simp)
  have q_c : c < nx := L _ (by simp)
  have q_p : p.b < nx := L _ (by simp)
  have q_q : q.b < nx := L _ (by simp)
  have Kw : ∀ k ∈ w.kns, k < nx := fun k hk => L k (by simp [hk])
  have Kp : ∀ k ∈ p.kns, k < nx := fun k hk => L k (by simp [hk])
  have Kq : ∀ k ∈ q.kns, k < nx := fun k hk => L k (by simp [hk])
  have z_bt_n : (bt = n) = False := eq_false (D 0 1 (Nat.le_of_ble_eq_true rfl) (Nat.le_of_ble_eq_true rfl) (by decide) _ (List.mem_singleton.2 rfl) _ (List.mem_singleton.2 rfl))
  have z_bt_c : (bt = c) = False := eq_false (D 0 4 (Nat.le_of_ble_eq_true rfl) (Nat.le_of_ble_eq_true rfl) (by decide) _ (List.mem_singleton.2 rfl) _ (List.mem_singleton.2 rfl))
  have z_bt_w : (bt = w.b) = False := eq_false (D 0 2 (Nat.le_of_ble_eq_true rfl) (Nat.le_of_ble_eq_true rfl) (by decide) _ (List.mem_singleton.2 rfl) _ (List.mem_singleton.2 rfl))
  have z_bt_p : (bt = p.b) = False := eq_false (D 0 5 (Nat.le_of_ble_eq_true rfl) (Nat.le_of_ble_eq_true rfl) (by decide) _ (List.mem_singleton.2 rfl) _ (List.mem_singleton.2 rfl))
  have z_bt_q : (bt = q.b) = False := eq_false (D 0 7 (Nat.le_of_ble_eq_true rfl) (Nat.le_of_ble_eq_true rfl) (by decide) _ (List.mem_singleton.2 rfl) _ (List.mem_singleton.2 rfl))
  have z_n_bt : (n = bt) = False := eq_false (Ne.symm (D 0 1 (Nat.le_of_ble_eq_true rfl) (Nat.le_of_ble_eq_true rfl) (by decide) _ (List.mem_singleton.2 rfl) _ (List.mem_singleton.2 rfl)))
  have z_n_c : (n = c) = False := eq_false (D 1 4 (Nat.le_of_ble_eq_true rfl) (Nat.le_of_ble_eq_true rfl) (by decide) _ (List.mem_singleton.2 rfl) _ (List.mem_singleton.2 rfl))
  have z_n_w : (n = w.b) = False := eq_false (D 1 2 (Nat.le_of_ble_eq_true rfl) (Nat.le_of_ble_eq_true rfl) (by decide) _ (List.mem_singleton.2 rfl) _ (List.mem_singleton.2 rfl))
  have z_n_p : (n = p.b) = False := eq_false (D 1 5 (Nat.le_of_ble_eq_true rfl) (Nat.le_of_ble_eq_true rfl) (by decide) _ (List.mem_singleton.2 rfl) _ (List.mem_singleton.2 rfl))
  have z_n_q : (n = q.b) = False := eq_false (D 1 7 (Nat.le_of_ble_eq_true rfl) (Nat.le_of_ble_eq_true rfl) (by decide) _ (List.mem_singleton.2 rfl) _ (List.mem_singleton.2 rfl))
  have z_c_bt : (c = bt) = False := eq_false (Ne.symm (D 0 4 (Nat.le_of_ble_eq_true rfl) (Nat.le_of_ble_eq_true rfl) (by decide) _ (List.mem_singleton.2 rfl) _ (List.mem_singleton.2 rfl)))
  have z_c_n : (c = n) = False := eq_false (Ne.symm (D 1 4 (Nat.le_of_ble_eq_true rfl) (Nat.le_of_ble_eq_true rfl) (by decide) _ (List.mem_singleton.2 rfl) _ (List.mem_singleton.2 rfl)))
  have z_c_w : (c = w.b) = False := eq_false (Ne.symm (D 2 4 (Nat.le_of_ble_eq_true rfl) (Nat.le_of_ble_eq_true rfl) (by decide) _ (List.mem_singleton.2 rfl) _ (List.mem_singleton.2 rfl)))
  have z_c_p : (c = p.b) = False := eq_false (D 4 5 (Nat.le_of_ble_eq_true rfl) (Nat.le_of_ble_eq_true rfl) (by decide) _ (List.mem_singleton.2 rfl) _ (List.mem_singleton.2 rfl))
  have z_c_q : (c = q.b) = False := eq_false (D 4 7 (Nat.le_of_ble_eq_true rfl) (Nat.le_of_ble_eq_true rfl) (by decide) _ (List.mem_singleton.2 rfl) _ (List.mem_singleton.2 rfl))
  have z_w_bt : (w.b = bt) = False := eq_false (Ne.symm (D 0 2 (Nat.le_of_ble_eq_true rfl) (Nat.le_of_ble_eq_true rfl) (by decide) _ (List.mem_singleton.2 rfl) _ (List.mem_singleton.2 rfl)))
  have z_w_n : (w.b = n) = False := eq_false (Ne.symm (D 1 2 (Nat.le_of_ble_eq_true rfl) (Nat.le_of_ble_eq_true rfl) (by decide) _ (List.mem_singleton.2 rfl) _ (List.mem_singleton.2 rfl)))
  have z_w_c : (w.b = c) = False := eq_false (D 2 4 (Nat.le_of_ble_eq_true rfl) (Nat.le_of_ble_eq_true rfl) (by decide) _ (List.mem_singleton.2 rfl) _ (List.mem_singleton.2 rfl))
  have z_w_p : (w.b = p.b) = False := eq_false (D 2 5 (Nat.le_of_ble_eq_true rfl) (Nat.le_of_ble_eq_true rfl) (by decide) _ (List.mem_singleton.2 rfl) _ (List.mem_singleton.2 rfl))
  have z_w_q : (w.b = q.b) = False := eq_false (D 2 7 (Nat.le_of_ble_eq_true rfl) (Nat.le_of_ble_eq_true rfl) (by decide) _ (List.mem_singleton.2 rfl) _ (List.mem_singleton.2 rfl))
  have z_p_bt : (p.b = bt) = False := eq_false (Ne.symm (D 0 5 (Nat.le_of_ble_eq_true rfl) (Nat.le_of_ble_eq_true rfl) (by decide) _ (List.mem_singleton.2 rfl) _ (List.mem_singleton.2 rfl)))
  have z_p_n : (p.b = n) = False := eq_false (Ne.symm (D 1 5 (Nat.le_of_ble_eq_true rfl) (Nat.le_of_ble_eq_true rfl) (by decide) _ (List.mem_singleton.2 rfl) _ (List.mem_singleton.2 rfl)))
  have z_p_c : (p.b = c) = False := eq_false (Ne.symm (D 4 5 (Nat.le_of_ble_eq_true rfl) (Nat.le_of_ble_eq_true rfl) (by decide) _ (List.mem_singleton.2 rfl) _ (List.mem_singleton.2 rfl)))
  have z_p_w : (p.b = w.b) = False := eq_false (Ne.symm (D 2 5 (Nat.le_of_ble_eq_true rfl) (Nat.le_of_ble_eq_true rfl) (by decide) _ (List.mem_singleton.2 rfl) _ (List.mem_singleton.2 rfl)))
  have z_p_q : (p.b = q.b) = False := eq_false (D 5 7 (Nat.le_of_ble_eq_true rfl) (Nat.le_of_ble_eq_true rfl) (by decide) _ (List.mem_singleton.2 rfl) _ (List.mem_singleton.2 rfl))
  have z_q_bt : (q.b = bt) = False := eq_false (Ne.symm (D 0 7 (Nat.le_of_ble_eq_true rfl) (Nat.le_of_ble_eq_true rfl) (by decide) _ (List.mem_singleton.2 rfl) _ (List.mem_singleton.2 rfl)))
  have z_q_n : (q.b = n) = False := eq_false (Ne.symm (D 1 7 (Nat.le_of_ble_eq_true rfl) (Nat.le_of_ble_eq_true rfl) (by decide) _ (List.mem_singleton.2 rfl) _ (List.mem_singleton.2 rfl)))
  have z_q_c : (q.b = c) = False := eq_false (Ne.symm (D 4 7 (Nat.le_of_ble_eq_true rfl) (Nat.le_of_ble_eq_true rfl) (by decide) _ (List.mem_singleton.2 rfl) _ (List.mem_singleton.2 rfl)))
  have z_q_w : (q.b = w.b) = False := eq_false (Ne.symm (D 2 7 (Nat.le_of_ble_eq_true rfl) (Nat.le_of_ble_eq_true rfl) (by decide) _ (List.mem_singleton.2 rfl) _ (List.mem_singleton.2 rfl)))
  have z_q_p : (q.b = p.b) = False := eq_false (Ne.symm (D 5 7 (Nat.le_of_ble_eq_true rfl) (Nat.le_of_ble_eq_true rfl) (by decide) _ (List.mem_singleton.2 rfl) _ (List.mem_singleton.2 rfl)))
  have mt := O.ft
  have mn := O.fn
  obtain ⟨mc, ml⟩ := held_hp.1 O.fr
  obtain ⟨mp', mq'⟩ := held_app.1 (show Held M (p.hp (.pt c 0) ++ q.hp (.pt c 0)) from ml)
  obtain ⟨mp, mpk⟩ := held_hp.1 mp'
  obtain ⟨mq, mqk⟩ := held_hp.1 mq'
  obtain ⟨mw, mwk⟩ := held_hp.1 O.fl
  have hC := @c_rotr00 nx bt n c w.b p.b q.b bm q_bm e ec w.e p.e q.e (.pt n 0) w.lc w.rc (.pt c 0) p.lc p.rc (.pt c 0) q.lc q.rc (.pt n 0) h e.id hc ec.id w.h w.e.id p.h p.e.id q.h q.e.id q_bt q_n q_c q_w q_p q_q (of_eq_false z_bt_n) (of_eq_false z_bt_c) (of_eq_false z_bt_w) (of_eq_false z_bt_p) (of_eq_false z_bt_q) (of_eq_false z_n_c) (of_eq_false z_n_w) (of_eq_false z_n_p) (of_eq_false z_n_q) (of_eq_false z_c_w) (of_eq_false z_c_p) (of_eq_false z_c_q) (of_eq_false z_w_p) (of_eq_false z_w_q) (of_eq_false z_p_q) (lc_lt Kp) (lc_lt Kq) (lc_lt Kw) (Lt.pt _ _ q_c) (Lt.pt _ _ q_c) (Lt.pt _ _ q_n) (rc_lt Kp) (rc_lt Kq) (Lt.pt _ _ q_n) (rc_lt Kw) b1 b2 b3 sw
  have hko : keysOk ([(bt, .var (.agg [.pt c 0, .mp bm])), (n, .var (.agg [.i (uniE w.e q.e).x, .i (uniE w.e q.e).y, .i (uniE w.e q.e).u, .i (uniE w.e q.e).w, .pt c 0, .pt w.b 0, .pt q.b 0, .i (1 + imax w.h q.h), .i e.id])), (c, .var (.agg [.i (uniE p.e (uniE w.e q.e)).x, .i (uniE p.e (uniE w.e q.e)).y, .i (uniE p.e (uniE w.e q.e)).u, .i (uniE p.e (uniE w.e q.e)).w, .sc (.pointer none), .pt p.b 0, .pt n 0, .i (1 + imax p.h (1 + imax w.h q.h)), .i ec.id])), (w.b, .var (.agg [.i w.e.x, .i w.e.y, .i w.e.u, .i w.e.w, .pt n 0, w.lc, w.rc, .i w.h, .i w.e.id])), (p.b, .var (.agg [.i p.e.x, .i p.e.y, .i p.e.u, .i p.e.w, .pt c 0, p.lc, p.rc, .i p.h, .i p.e.id])), (q.b, .var (.agg [.i q.e.x, .i q.e.y, .i q.e.u, .i q.e.w, .pt n 0, q.lc, q.rc, .i q.h, .i q.e.id]))] : HH) = true := by simp [keysOk, z_bt_n, z_bt_c, z_bt_w, z_bt_p, z_bt_q, z_n_c, z_n_w, z_n_p, z_n_q, z_c_w, z_c_p, z_c_q, z_w_p, z_w_q, z_p_q]
  refine ⟨[(bt, .var (.agg [.pt c 0, .mp bm])), (n, .var (.agg [.i (uniE w.e q.e).x, .i (uniE w.e q.e).y, .i (uniE w.e q.e).u, .i (uniE w.e q.e).w, .pt c 0, .pt w.b 0, .pt q.b 0, .i (1 + imax w.h q.h), .i e.id])), (c, .var (.agg [.i (uniE p.e (uniE w.e q.e)).x, .i (uniE p.e (uniE w.e q.e)).y, .i (uniE p.e (uniE w.e q.e)).u, .i (uniE p.e (uniE w.e q.e)).w, .sc (.pointer none), .pt p.b 0, .pt n 0, .i (1 + imax p.h (1 + imax w.h q.h)), .i ec.id])), (w.b, .var (.agg [.i w.e.x, .i w.e.y, .i w.e.u, .i w.e.w, .pt n 0, w.lc, w.rc, .i w.h, .i w.e.id])), (p.b, .var (.agg [.i p.e.x, .i p.e.y, .i p.e.u, .i p.e.w, .pt c 0, p.lc, p.rc, .i p.h, .i p.e.id])), (q.b, .var (.agg [.i q.e.x, .i q.e.y, .i q.e.u, .i q.e.w, .pt n 0, q.lc, q.rc, .i q.h, .i q.e.id]))], [bt, n, c, w.b, p.b, q.b], hC.congr (fun k hk' => ?_), ?_⟩
  · simp only [List.mem_cons, List.not_mem_nil, or_false] at hk'
    rcases hk' with rfl | rfl | rfl | rfl | rfl | rfl
    · refine mt.trans ?_
      simp only [hk_cons, z_bt_n, z_bt_c, z_bt_w, z_bt_p, z_bt_q, if_true, if_false]
      try rfl
    · refine mn.trans ?_
      simp only [hk_cons, z_n_bt, z_n_c, z_n_w, z_n_p, z_n_q, if_true, if_false]
      try rfl
    · refine mc.trans ?_
      simp only [hk_cons, z_c_bt, z_c_n, z_c_w, z_c_p, z_c_q, if_true, if_false]
      try rfl
    · refine mw.trans ?_
      simp only [hk_cons, z_w_bt, z_w_n, z_w_c, z_w_p, z_w_q, if_true, if_false]
      try rfl
    · refine mp.trans ?_
      simp only [hk_cons, z_p_bt, z_p_n, z_p_c, z_p_w, z_p_q, if_true, if_false]
      try rfl
    · refine mq.trans ?_
      simp only [hk_cons, z_q_bt, z_q_n, z_q_c, z_q_w, z_q_p, if_true, if_false]
      try rfl
  · have hr : NT.rot n (.nd c ec hc p q) w = NT.fr c p (NT.fr n w q) := if_neg sw
    rw [hr]
    have up := mpk.upd (wb := [(bt, .var (.agg [.pt c 0, .mp bm])), (n, .var (.agg [.i (uniE w.e q.e).x, .i (uniE w.e q.e).y, .i (uniE w.e q.e).u, .i (uniE w.e q.e).w, .pt c 0, .pt w.b 0, .pt q.b 0, .i (1 + imax w.h q.h), .i e.id])), (c, .var (.agg [.i (uniE p.e (uniE w.e q.e)).x, .i (uniE p.e (uniE w.e q.e)).y, .i (uniE p.e (uniE w.e q.e)).u, .i (uniE p.e (uniE w.e q.e)).w, .sc (.pointer none), .pt p.b 0, .pt n 0, .i (1 + imax p.h (1 + imax w.h q.h)), .i ec.id])), (w.b, .var (.agg [.i w.e.x, .i w.e.y, .i w.e.u, .i w.e.w, .pt n 0, w.lc, w.rc, .i w.h, .i w.e.id])), (p.b, .var (.agg [.i p.e.x, .i p.e.y, .i p.e.u, .i p.e.w, .pt c 0, p.lc, p.rc, .i p.h, .i p.e.id])), (q.b, .var (.agg [.i q.e.x, .i q.e.y, .i q.e.u, .i q.e.w, .pt n 0, q.lc, q.rc, .i q.h, .i q.e.id]))]) (fun b hb => by
      rw [show (p.kids.map (·.1)) = p.kns from rfl] at hb
      simp only [List.map_cons, List.map_nil, List.mem_cons, List.not_mem_nil, or_false, not_or]
      exact ⟨(Ne.symm (D 0 6 (Nat.le_of_ble_eq_true rfl) (Nat.le_of_ble_eq_true rfl) (by decide) _ (List.mem_singleton.2 rfl) _ hb)), (Ne.symm (D 1 6 (Nat.le_of_ble_eq_true rfl) (Nat.le_of_ble_eq_true rfl) (by decide) _ (List.mem_singleton.2 rfl) _ hb)), (Ne.symm (D 4 6 (Nat.le_of_ble_eq_true rfl) (Nat.le_of_ble_eq_true rfl) (by decide) _ (List.mem_singleton.2 rfl) _ hb)), (Ne.symm (D 2 6 (Nat.le_of_ble_eq_true rfl) (Nat.le_of_ble_eq_true rfl) (by decide) _ (List.mem_singleton.2 rfl) _ hb)), (Ne.symm (D 5 6 (Nat.le_of_ble_eq_true rfl) (Nat.le_of_ble_eq_true rfl) (by decide) _ (List.mem_singleton.2 rfl) _ hb)), (D 6 7 (Nat.le_of_ble_eq_true rfl) (Nat.le_of_ble_eq_true rfl) (by decide) _ hb _ (List.mem_singleton.2 rfl))⟩)
    have uq := mqk.upd (wb := [(bt, .var (.agg [.pt c 0, .mp bm])), (n, .var (.agg [.i (uniE w.e q.e).x, .i (uniE w.e q.e).y, .i (uniE w.e q.e).u, .i (uniE w.e q.e).w, .pt c 0, .pt w.b 0, .pt q.b 0, .i (1 + imax w.h q.h), .i e.id])), (c, .var (.agg [.i (uniE p.e (uniE w.e q.e)).x, .i (uniE p.e (uniE w.e q.e)).y, .i (uniE p.e (uniE w.e q.e)).u, .i (uniE p.e (uniE w.e q.e)).w, .sc (.pointer none), .pt p.b 0, .pt n 0, .i (1 + imax p.h (1 + imax w.h q.h)), .i ec.id])), (w.b, .var (.agg [.i w.e.x, .i w.e.y, .i w.e.u, .i w.e.w, .pt n 0, w.lc, w.rc, .i w.h, .i w.e.id])), (p.b, .var (.agg [.i p.e.x, .i p.e.y, .i p.e.u, .i p.e.w, .pt c 0, p.lc, p.rc, .i p.h, .i p.e.id])), (q.b, .var (.agg [.i q.e.x, .i q.e.y, .i q.e.u, .i q.e.w, .pt n 0, q.lc, q.rc, .i q.h, .i q.e.id]))]) (fun b hb => by
      rw [show (q.kids.map (·.1)) = q.kns from rfl] at hb
      simp only [List.map_cons, List.map_nil, List.mem_cons, List.not_mem_nil, or_false, not_or]
      exact ⟨(Ne.symm (D 0 8 (Nat.le_of_ble_eq_true rfl) (Nat.le_of_ble_eq_true rfl) (by decide) _ (List.mem_singleton.2 rfl) _ hb)), (Ne.symm (D 1 8 (Nat.le_of_ble_eq_true rfl) (Nat.le_of_ble_eq_true rfl) (by decide) _ (List.mem_singleton.2 rfl) _ hb)), (Ne.symm (D 4 8 (Nat.le_of_ble_eq_true rfl) (Nat.le_of_ble_eq_true rfl) (by decide) _ (List.mem_singleton.2 rfl) _ hb)), (Ne.symm (D 2 8 (Nat.le_of_ble_eq_true rfl) (Nat.le_of_ble_eq_true rfl) (by decide) _ (List.mem_singleton.2 rfl) _ hb)), (Ne.symm (D 5 8 (Nat.le_of_ble_eq_true rfl) (Nat.le_of_ble_eq_true rfl) (by decide) _ (List.mem_singleton.2 rfl) _ hb)), (Ne.symm (D 7 8 (Nat.le_of_ble_eq_true rfl) (Nat.le_of_ble_eq_true rfl) (by decide) _ (List.mem_singleton.2 rfl) _ hb))⟩)
    have uw := mwk.upd (wb := [(bt, .var (.agg [.pt c 0, .mp bm])), (n, .var (.agg [.i (uniE w.e q.e).x, .i (uniE w.e q.e).y, .i (uniE w.e q.e).u, .i (uniE w.e q.e).w, .pt c 0, .pt w.b 0, .pt q.b 0, .i (1 + imax w.h q.h), .i e.id])), (c, .var (.agg [.i (uniE p.e (uniE w.e q.e)).x, .i (uniE p.e (uniE w.e q.e)).y, .i (uniE p.e (uniE w.e q.e)).u, .i (uniE p.e (uniE w.e q.e)).w, .sc (.pointer none), .pt p.b 0, .pt n 0, .i (1 + imax p.h (1 + imax w.h q.h)), .i ec.id])), (w.b, .var (.agg [.i w.e.x, .i w.e.y, .i w.e.u, .i w.e.w, .pt n 0, w.lc, w.rc, .i w.h, .i w.e.id])), (p.b, .var (.agg [.i p.e.x, .i p.e.y, .i p.e.u, .i p.e.w, .pt c 0, p.lc, p.rc, .i p.h, .i p.e.id])), (q.b, .var (.agg [.i q.e.x, .i q.e.y, .i q.e.u, .i q.e.w, .pt n 0, q.lc, q.rc, .i q.h, .i q.e.id]))]) (fun b hb => by
      rw [show (w.kids.map (·.1)) = w.kns from rfl] at hb
      simp only [List.map_cons, List.map_nil, List.mem_cons, List.not_mem_nil, or_false, not_or]
      exact ⟨(Ne.symm (D 0 3 (Nat.le_of_ble_eq_true rfl) (Nat.le_of_ble_eq_true rfl) (by decide) _ (List.mem_singleton.2 rfl) _ hb)), (Ne.symm (D 1 3 (Nat.le_of_ble_eq_true rfl) (Nat.le_of_ble_eq_true rfl) (by decide) _ (List.mem_singleton.2 rfl) _ hb)), (D 3 4 (Nat.le_of_ble_eq_true rfl) (Nat.le_of_ble_eq_true rfl) (by decide) _ hb _ (List.mem_singleton.2 rfl)), (Ne.symm (D 2 3 (Nat.le_of_ble_eq_true rfl) (Nat.le_of_ble_eq_true rfl) (by decide) _ (List.mem_singleton.2 rfl) _ hb)), (D 3 5 (Nat.le_of_ble_eq_true rfl) (Nat.le_of_ble_eq_true rfl) (by decide) _ hb _ (List.mem_singleton.2 rfl)), (D 3 7 (Nat.le_of_ble_eq_true rfl) (Nat.le_of_ble_eq_true rfl) (by decide) _ hb _ (List.mem_singleton.2 rfl))⟩)
    refine ⟨upd_at hko (by simp only [hk_cons, z_bt_n, z_bt_c, z_bt_w, z_bt_p, z_bt_q, if_true, if_false]; try rfl), held_cons.2 ⟨upd_at hko (by simp only [hk_cons, z_c_bt, z_c_n, z_c_w, z_c_p, z_c_q, if_true, if_false]; simp only [NT.top, ndB, NT.fr, NT.e, NT.h, NT.lc, NT.rc, NT.b, NT.uni_id, hec]; try rfl), held_app.2 ⟨held_hp.2 ⟨upd_at hko (by simp only [hk_cons, z_p_bt, z_p_n, z_p_c, z_p_w, z_p_q, if_true, if_false]; try rfl), up⟩, held_cons.2 ⟨upd_at hko (by simp only [hk_cons, z_n_bt, z_n_c, z_n_w, z_n_p, z_n_q, if_true, if_false]; simp only [NT.top, ndB, NT.e, NT.h, NT.lc, NT.rc, NT.b, NT.uni_id, he]; try rfl), held_app.2 ⟨held_hp.2 ⟨upd_at hko (by simp only [hk_cons, z_w_bt, z_w_n, z_w_c, z_w_p, z_w_q, if_true, if_false]; try rfl), uw⟩, held_hp.2 ⟨upd_at hko (by simp only [hk_cons, z_q_bt, z_q_n, z_q_c, z_q_w, z_q_p, if_true, if_false]; try rfl), uq⟩⟩⟩⟩⟩, held_nil⟩
set_option maxHeartbeats 4000000 in
theorem rz_r01 {nx bt bm n c : Nat} {e ec : En} {h hc : Int} {p q w : NT} {M : Nat → Option ABox} (q_bm : bm < nx) (O : Opn nx M bt bm n e h w (.nd c ec hc p q) []) (he : e.id = 0) (hec : ec.id = 0) (b1 : 0 ≤ w.h ∧ w.h ≤ 900) (b2 : 0 ≤ p.h ∧ p.h ≤ 900) (b3 : 0 ≤ q.h ∧ q.h ≤ 900) (sw : p.h < q.h) :
    ∃ wb rb, CallS Try.prog M nx 49 [.pt bt 0, .pt n 0, .pt c 0] ⟨.pt c 0, wb, 0, rb⟩ ∧ Cls (updL M wb) bt bm (NT.rot n (.nd c ec hc p q) w) [] := by
  have e0 : ([[bt], [n], [w.b], w.kns, [c], [p.b], p.kns, [q.b], q.kns] : List (List Nat)).flatten = bt :: n :: ((NT.nos w) ++ ((NT.nos (.nd c ec hc p q)) ++ cns [])) := by simp [NT.nos, NT.nos_eq, cns]
  have hnd : ([[bt], [n], [w.b], w.kns, [c], [p.b], p.kns, [q.b], q.kns] : List (List Nat)).flatten.Nodup := by rw [e0]; exact O.fd
  have D := List.pairwise_iff_getElem.1 (List.pairwise_flatten.1 hnd).2
  have L : ∀ k ∈ ([[bt], [n], [w.b], w.kns, [c], [p.b], p.kns, [q.b], q.kns] : List (List Nat)).flatten, k < nx := by rw [e0]; exact O.flt
  clear hnd e0
  have q_bt : bt < nx := L _ (by simp)
  have q_n : n < nx := L _ (by simp)
  have q_w : w.b < nx := L _ (by simp)
  have q_c : c < nx := L _ (by simp)
  have q_p : p.b < nx := L _ (by simp)
  have q_q : q.b < nx := L _ (by simp)
  have Kw : ∀ k ∈ w.kns, k < nx := fun k hk => L k (by simp [hk])
  have Kp : ∀ k ∈ p.kns, k < nx := fun k hk => L k (by simp [hk])
  have Kq : ∀ k ∈ q.kns, k < nx := fun k hk => L k (by simp [hk])
  have z_bt_n : (bt = n) = False := eq_false (D 0 1 (Nat.le_of_ble_eq_true rfl) (Nat.le_of_ble_eq_true rfl) (by decide) _ (List.mem_singleton.2 rfl) _ (List.mem_singleton.2 rfl))
  have z_bt_c : (bt = c) = False := eq_false (D 0 4 (Nat.le_of_ble_eq_true rfl) (Nat.le_of_ble_eq_true rfl) (by decide) _ (List.mem_singleton.2 rfl) _ (List.mem_singleton.2 rfl))
  have z_bt_w : (bt = w.b) = False := eq_false (D 0 2 (Nat.le_of_ble_eq_true rfl) (Nat.le_of_ble_eq_true rfl) (by decide) _ (List.mem_singleton.2 rfl) _ (List.mem_singleton.2 rfl))
  have z_bt_p : (bt = p.b) = False := eq_false (D 0 5 (Nat.le_of_ble_eq_true rfl) (Nat.le_of_ble_eq_true rfl) (by decide) _ (List.mem_singleton.2 rfl) _ (List.mem_singleton.2 rfl))
  have z_bt_q : (bt = q.b) = False := eq_false (D 0 7 (Nat.le_of_ble_eq_true rfl) (Nat.le_of_ble_eq_true rfl) (by decide) _ (List.mem_singleton.2 rfl) _ (List.mem_singleton.2 rfl))
  have z_n_bt : (n = bt) = False := eq_false (Ne.symm (D 0 1 (Nat.le_of_ble_eq_true rfl) (Nat.le_of_ble_eq_true rfl) (by decide) _ (List.mem_singleton.2 rfl) _ (List.mem_singleton.2 rfl)))
  have z_n_c : (n = c) = False := eq_false (D 1 4 (Nat.le_of_ble_eq_true rfl) (Nat.le_of_ble_eq_true rfl) (by decide) _ (List.mem_singleton.2 rfl) _ (List.mem_singleton.2 rfl))
  have z_n_w : (n = w.b) = False := eq_false (D 1 2 (Nat.le_of_ble_eq_true rfl) (Nat.le_of_ble_eq_true rfl) (by decide) _ (List.mem_singleton.2 rfl) _ (List.mem_singleton.2 rfl))
  have z_n_p : (n = p.b) = False := eq_false (D 1 5 (Nat.le_of_ble_eq_true rfl) (Nat.le_of_ble_eq_true rfl) (by decide) _ (List.mem_singleton.2 rfl) _ (List.mem_singleton.2 rfl))
  have z_n_q : (n = q.b) = False := eq_false (D 1 7 (Nat.le_of_ble_eq_true rfl) (Nat.le_of_ble_eq_true rfl) (by decide) _ (List.mem_singleton.2 rfl) _ (List.mem_singleton.2 rfl))
  have z_c_bt : (c = bt) = False := eq_false (Ne.symm (D 0 4 (Nat.le_of_ble_eq_true rfl) (Nat.le_of_ble_eq_true rfl) (by decide) _ (List.mem_singleton.2 rfl) _ (List.mem_singleton.2 rfl)))
  have z_c_n : (c = n) = False := eq_false (Ne.symm (D 1 4 (Nat.le_of_ble_eq_true rfl) (Nat.le_of_ble_eq_true rfl) (by decide) _ (List.mem_singleton.2 rfl) _ (List.mem_singleton.2 rfl)))
  have z_c_w : (c = w.b) = False := eq_false (Ne.symm (D 2 4 (Nat.le_of_ble_eq_true rfl) (Nat.le_of_ble_eq_true rfl) (by decide) _ (List.mem_singleton.2 rfl) _ (List.mem_singleton.2 rfl)))
  have z_c_p : (c = p.b) = False := eq_false (D 4 5 (Nat.le_of_ble_eq_true rfl) (Nat.le_of_ble_eq_true rfl) (by decide) _ (List.mem_singleton.2 rfl) _ (List.mem_singleton.2 rfl))
  have z_c_q : (c = q.b) = False := eq_false (D 4 7 (Nat.le_of_ble_eq_true rfl) (Nat.le_of_ble_eq_true rfl) (by decide) _ (List.mem_singleton.2 rfl) _ (List.mem_singleton.2 rfl))
  have z_w_bt : (w.b = bt) = False := eq_false (Ne.symm (D 0 2 (Nat.le_of_ble_eq_true rfl) (Nat.le_of_ble_eq_true rfl) (by decide) _ (List.mem_singleton.2 rfl) _ (List.mem_singleton.2 rfl)))
  have z_w_n : (w.b = n) = False := eq_false (Ne.symm (D 1 2 (Nat.le_of_ble_eq_true rfl) (Nat.le_of_ble_eq_true rfl) (by decide) _ (List.mem_singleton.2 rfl) _ (List.mem_singleton.2 rfl)))
  have z_w_c : (w.b = c) = False := eq_false (D 2 4 (Nat.le_of_ble_eq_true rfl) (Nat.le_of_ble_eq_true rfl) (by decide) _ (List.mem_singleton.2 rfl) _ (List.mem_singleton.2 rfl))
  have z_w_p : (w.b = p.b) = False := eq_false (D 2 5 (Nat.le_of_ble_eq_true rfl) (Nat.le_of_ble_eq_true rfl) (by decide) _ (List.mem_singleton.2 rfl) _ (List.mem_singleton.2 rfl))
  have z_w_q : (w.b = q.b) = False := eq_false (D 2 7 (Nat.le_of_ble_eq_true rfl) (Nat.le_of_ble_eq_true rfl) (by decide) _ (List.mem_singleton.2 rfl) _ (List.mem_singleton.2 rfl))
  have z_p_bt : (p.b = bt) = False := eq_false (Ne.symm (D 0 5 (Nat.le_of_ble_eq_true rfl) (Nat.le_of_ble_eq_true rfl) (by decide) _ (List.mem_singleton.2 rfl) _ (List.mem_singleton.2 rfl)))
  have z_p_n : (p.b = n) = False := eq_false (Ne.symm (D 1 5 (Nat.le_of_ble_eq_true rfl) (Nat.le_of_ble_eq_true rfl) (by decide) _ (List.mem_singleton.2 rfl) _ (List.mem_singleton.2 rfl)))
  have z_p_c : (p.b = c) = False := eq_false (Ne.symm (D 4 5 (Nat.le_of_ble_eq_true rfl) (Nat.le_of_ble_eq_true rfl) (by decide) _ (List.mem_singleton.2 rfl) _ (List.mem_singleton.2 rfl)))
  have z_p_w : (p.b = w.b) = False := eq_false (Ne.symm (D 2 5 (Nat.le_of_ble_eq_true rfl) (Nat.le_of_ble_eq_true rfl) (by decide) _ (List.mem_singleton.2 rfl) _ (List.mem_singleton.2 rfl)))
  have z_p_q : (p.b = q.b) = False := eq_false (D 5 7 (Nat.le_of_ble_eq_true rfl) (Nat.le_of_ble_eq_true rfl) (by decide) _ (List.mem_singleton.2 rfl) _ (List.mem_singleton.2 rfl))
  have z_q_bt : (q.b = bt) = False := eq_false (Ne.symm (D 0 7 (Nat.le_of_ble_eq_true rfl) (Nat.le_of_ble_eq_true rfl) (by decide) _ (List.mem_singleton.2 rfl) _ (List.mem_singleton.2 rfl)))
  have z_q_n : (q.b = n) = False := eq_false (Ne.symm (D 1 7 (Nat.le_of_ble_eq_true rfl) (Nat.le_of_ble_eq_true rfl) (by decide) _ (List.mem_singleton.2 rfl) _ (List.mem_singleton.2 rfl)))
  have z_q_c : (q.b = c) = False := eq_false (Ne.symm (D 4 7 (Nat.le_of_ble_eq_true rfl) (Nat.le_of_ble_eq_true rfl) (by decide) _ (List.mem_singleton.2 rfl) _ (List.mem_singleton.2 rfl)))
  have z_q_w : (q.b = w.b) = False := eq_false (Ne.symm (D 2 7 (Nat.le_of_ble_eq_true rfl) (Nat.le_of_ble_eq_true rfl) (by decide) _ (List.mem_singleton.2 rfl) _ (List.mem_singleton.2 rfl)))
  have z_q_p : (q.b = p.b) = False := eq_false (Ne.symm (D 5 7 (Nat.le_of_ble_eq_true rfl) (Nat.le_of_ble_eq_true rfl) (by decide) _ (List.mem_singleton.2 rfl) _ (List.mem_singleton.2 rfl)))
  have mt := O.ft
  have mn := O.fn
  obtain ⟨mc, ml⟩ := held_hp.1 O.fr
  obtain ⟨mp', mq'⟩ := held_app.1 (show Held M (p.hp (.pt c 0) ++ q.hp (.pt c 0)) from ml)
  obtain ⟨mp, mpk⟩ := held_hp.1 mp'
  obtain ⟨mq, mqk⟩ := held_hp.1 mq'
  obtain ⟨mw, mwk⟩ := held_hp.1 O.fl
  have hC := @c_rotr01 nx bt n c w.b p.b q.b bm q_bm e ec w.e p.e q.e (.pt n 0) w.lc w.rc (.pt c 0) p.lc p.rc (.pt c 0) q.lc q.rc (.pt n 0) h e.id hc ec.id w.h w.e.id p.h p.e.id q.h q.e.id q_bt q_n q_c q_w q_p q_q (of_eq_false z_bt_n) (of_eq_false z_bt_c) (of_eq_false z_bt_w) (of_eq_false z_bt_p) (of_eq_false z_bt_q) (of_eq_false z_n_c) (of_eq_false z_n_w) (of_eq_false z_n_p) (of_eq_false z_n_q) (of_eq_false z_c_w) (of_eq_false z_c_p) (of_eq_false z_c_q) (of_eq_false z_w_p) (of_eq_false z_w_q) (of_eq_false z_p_q) (lc_lt Kp) (lc_lt Kq) (lc_lt Kw) (Lt.pt _ _ q_c) (Lt.pt _ _ q_c) (Lt.pt _ _ q_n) (rc_lt Kp) (rc_lt Kq) (Lt.pt _ _ q_n) (rc_lt Kw) b1 b2 b3 sw
  have hko : keysOk ([(bt, .var (.agg [.pt c 0, .mp bm])), (n, .var (.agg [.i (uniE w.e p.e).x, .i (uniE w.e p.e).y, .i (uniE w.e p.e).u, .i (uniE w.e p.e).w, .pt c 0, .pt w.b 0, .pt p.b 0, .i (1 + imax w.h p.h), .i e.id])), (c, .var (.agg [.i (uniE q.e (uniE w.e p.e)).x, .i (uniE q.e (uniE w.e p.e)).y, .i (uniE q.e (uniE w.e p.e)).u, .i (uniE q.e (uniE w.e p.e)).w, .sc (.pointer none), .pt q.b 0, .pt n 0, .i (1 + imax q.h (1 + imax w.h p.h)), .i ec.id])), (w.b, .var (.agg [.i w.e.x, .i w.e.y, .i w.e.u, .i w.e.w, .pt n 0, w.lc, w.rc, .i w.h, .i w.e.id])), (p.b, .var (.agg [.i p.e.x, .i p.e.y, .i p.e.u, .i p.e.w, .pt n 0, p.lc, p.rc, .i p.h, .i p.e.id])), (q.b, .var (.agg [.i q.e.x, .i q.e.y, .i q.e.u, .i q.e.w, .pt c 0, q.lc, q.rc, .i q.h, .i q.e.id]))] : HH) = true := by simp [keysOk, z_bt_n, z_bt_c, z_bt_w, z_bt_p, z_bt_q, z_n_c, z_n_w, z_n_p, z_n_q, z_c_w, z_c_p, z_c_q, z_w_p, z_w_q, z_p_q]
  refine ⟨[(bt, .var (.agg [.pt c 0, .mp bm])), (n, .var (.agg [.i (uniE w.e p.e).x, .i (uniE w.e p.e).y, .i (uniE w.e p.e).u, .i (uniE w.e p.e).w, .pt c 0, .pt w.b 0, .pt p.b 0, .i (1 + imax w.h p.h), .i e.id])), (c, .var (.agg [.i (uniE q.e (uniE w.e p.e)).x, .i (uniE q.e (uniE w.e p.e)).y, .i (uniE q.e (uniE w.e p.e)).u, .i (uniE q.e (uniE w.e p.e)).w, .sc (.pointer none), .pt q.b 0, .pt n 0, .i (1 + imax q.h (1 + imax w.h p.h)), .i ec.id])), (w.b, .var (.agg [.i w.e.x, .i w.e.y, .i w.e.u, .i w.e.w, .pt n 0, w.lc, w.rc, .i w.h, .i w.e.id])), (p.b, .var (.agg [.i p.e.x, .i p.e.y, .i p.e.u, .i p.e.w, .pt n 0, p.lc, p.rc, .i p.h, .i p.e.id])), (q.b, .var (.agg [.i q.e.x, .i q.e.y, .i q.e.u, .i q.e.w, .pt c 0, q.lc, q.rc, .i q.h, .i q.e.id]))], [bt, n, c, w.b, p.b, q.b], hC.congr (fun k hk' => ?_), ?_⟩
  · simp only [List.mem_cons, List.not_mem_nil, or_false] at hk'
    rcases hk' with rfl | rfl | rfl | rfl | rfl | rfl
    · refine mt.trans ?_
      simp only [hk_cons, z_bt_n, z_bt_c, z_bt_w, z_bt_p, z_bt_q, if_true, if_false]
      try rfl
    · refine mn.trans ?_
      simp only [hk_cons, z_n_bt, z_n_c, z_n_w, z_n_p, z_n_q, if_true, if_false]
      try rfl
    · refine mc.trans ?_
      simp only [hk_cons, z_c_bt, z_c_n, z_c_w, z_c_p, z_c_q, if_true, if_false]
      try rfl
    · refine mw.trans ?_
      simp only [hk_cons, z_w_bt, z_w_n, z_w_c, z_w_p, z_w_q, if_true, if_false]
      try rfl
    · refine mp.trans ?_
      simp only [hk_cons, z_p_bt, z_p_n, z_p_c, z_p_w, z_p_q, if_true, if_false]
      try rfl
    · refine mq.trans ?_
      simp only [hk_cons, z_q_bt, z_q_n, z_q_c, z_q_w, z_q_p, if_true, if_false]
      try rfl
  · have hr : NT.rot n (.nd c ec hc p q) w = NT.fr c q (NT.fr n w p) := if_pos sw
    rw [hr]
    have up := mpk.upd (wb := [(bt, .var (.agg [.pt c 0, .mp bm])), (n, .var (.agg [.i (uniE w.e p.e).x, .i (uniE w.e p.e).y, .i (uniE w.e p.e).u, .i (uniE w.e p.e).w, .pt c 0, .pt w.b 0, .pt p.b 0, .i (1 + imax w.h p.h), .i e.id])), (c, .var (.agg [.i (uniE q.e (uniE w.e p.e)).x, .i (uniE q.e (uniE w.e p.e)).y, .i (uniE q.e (uniE w.e p.e)).u, .i (uniE q.e (uniE w.e p.e)).w, .sc (.pointer none), .pt q.b 0, .pt n 0, .i (1 + imax q.h (1 + imax w.h p.h)), .i ec.id])), (w.b, .var (.agg [.i w.e.x, .i w.e.y, .i w.e.u, .i w.e.w, .pt n 0, w.lc, w.rc, .i w.h, .i w.e.id])), (p.b, .var (.agg [.i p.e.x, .i p.e.y, .i p.e.u, .i p.e.w, .pt n 0, p.lc, p.rc, .i p.h, .i p.e.id])), (q.b, .var (.agg [.i q.e.x, .i q.e.y, .i q.e.u, .i q.e.w, .pt c 0, q.lc, q.rc, .i q.h, .i q.e.id]))]) (fun b hb => by
      rw [show (p.kids.map (·.1)) = p.kns from rfl] at hb
      simp only [List.map_cons, List.map_nil, List.mem_cons, List.not_mem_nil, or_false, not_or]
      exact ⟨(Ne.symm (D 0 6 (Nat.le_of_ble_eq_true rfl) (Nat.le_of_ble_eq_true rfl) (by decide) _ (List.mem_singleton.2 rfl) _ hb)), (Ne.symm (D 1 6 (Nat.le_of_ble_eq_true rfl) (Nat.le_of_ble_eq_true rfl) (by decide) _ (List.mem_singleton.2 rfl) _ hb)), (Ne.symm (D 4 6 (Nat.le_of_ble_eq_true rfl) (Nat.le_of_ble_eq_true rfl) (by decide) _ (List.mem_singleton.2 rfl) _ hb)), (Ne.symm (D 2 6 (Nat.le_of_ble_eq_true rfl) (Nat.le_of_ble_eq_true rfl) (by decide) _ (List.mem_singleton.2 rfl) _ hb)), (Ne.symm (D 5 6 (Nat.le_of_ble_eq_true rfl) (Nat.le_of_ble_eq_true rfl) (by decide) _ (List.mem_singleton.2 rfl) _ hb)), (D 6 7 (Nat.le_of_ble_eq_true rfl) (Nat.le_of_ble_eq_true rfl) (by decide) _ hb _ (List.mem_singleton.2 rfl))⟩)
    have uq := mqk.upd (wb := [(bt, .var (.agg [.pt c 0, .mp bm])), (n, .var (.agg [.i (uniE w.e p.e).x, .i (uniE w.e p.e).y, .i (uniE w.e p.e).u, .i (uniE w.e p.e).w, .pt c 0, .pt w.b 0, .pt p.b 0, .i (1 + imax w.h p.h), .i e.id])), (c, .var (.agg [.i (uniE q.e (uniE w.e p.e)).x, .i (uniE q.e (uniE w.e p.e)).y, .i (uniE q.e (uniE w.e p.e)).u, .i (uniE q.e (uniE w.e p.e)).w, .sc (.pointer none), .pt q.b 0, .pt n 0, .i (1 + imax q.h (1 + imax w.h p.h)), .i ec.id])), (w.b, .var (.agg [.i w.e.x, .i w.e.y, .i w.e.u, .i w.e.w, .pt n 0, w.lc, w.rc, .i w.h, .i w.e.id])), (p.b, .var (.agg [.i p.e.x, .i p.e.y, .i p.e.u, .i p.e.w, .pt n 0, p.lc, p.rc, .i p.h, .i p.e.id])), (q.b, .var (.agg [.i q.e.x, .i q.e.y, .i q.e.u, .i q.e.w, .pt c 0, q.lc, q.rc, .i q.h, .i q.e.id]))]) (fun b hb => by
      rw [show (q.kids.map (·.1)) = q.kns from rfl] at hb
      simp only [List.map_cons, List.map_nil, List.mem_cons, List.not_mem_nil, or_false, not_or]
      exact ⟨(Ne.symm (D 0 8 (Nat.le_of_ble_eq_true rfl) (Nat.le_of_ble_eq_true rfl) (by decide) _ (List.mem_singleton.2 rfl) _ hb)), (Ne.symm (D 1 8 (Nat.le_of_ble_eq_true rfl) (Nat.le_of_ble_eq_true rfl) (by decide) _ (List.mem_singleton.2 rfl) _ hb)), (Ne.symm (D 4 8 (Nat.le_of_ble_eq_true rfl) (Nat.le_of_ble_eq_true rfl) (by decide) _ (List.mem_singleton.2 rfl) _ hb)), (Ne.symm (D 2 8 (Nat.le_of_ble_eq_true rfl) (Nat.le_of_ble_eq_true rfl) (by decide) _ (List.mem_singleton.2 rfl) _ hb)), (Ne.symm (D 5 8 (Nat.le_of_ble_eq_true rfl) (Nat.le_of_ble_eq_true rfl) (by decide) _ (List.mem_singleton.2 rfl) _ hb)), (Ne.symm (D 7 8 (Nat.le_of_ble_eq_true rfl) (Nat.le_of_ble_eq_true rfl) (by decide) _ (List.mem_singleton.2 rfl) _ hb))⟩)
    have uw := mwk.upd (wb := [(bt, .var (.agg [.pt c 0, .mp bm])), (n, .var (.agg [.i (uniE w.e p.e).x, .i (uniE w.e p.e).y, .i (uniE w.e p.e).u, .i (uniE w.e p.e).w, .pt c 0, .pt w.b 0, .pt p.b 0, .i (1 + imax w.h p.h), .i e.id])), (c, .var (.agg [.i (uniE q.e (uniE w.e p.e)).x, .i (uniE q.e (uniE w.e p.e)).y, .i (uniE q.e (uniE w.e p.e)).u, .i (uniE q.e (uniE w.e p.e)).w, .sc (.pointer none), .pt q.b 0, .pt n 0, .i (1 + imax q.h (1 + imax w.h p.h)), .i ec.id])), (w.b, .var (.agg [.i w.e.x, .i w.e.y, .i w.e.u, .i w.e.w, .pt n 0, w.lc, w.rc, .i w.h, .i w.e.id])), (p.b, .var (.agg [.i p.e.x, .i p.e.y, .i p.e.u, .i p.e.w, .pt n 0, p.lc, p.rc, .i p.h, .i p.e.id])), (q.b, .var (.agg [.i q.e.x, .i q.e.y, .i q.e.u, .i q.e.w, .pt c 0, q.lc, q.rc, .i q.h, .i q.e.id]))]) (fun b hb => by
      rw [show (w.kids.map (·.1)) = w.kns from rfl] at hb
      simp only [List.map_cons, List.map_nil, List.mem_cons, List.not_mem_nil, or_false, not_or]
      exact ⟨(Ne.symm (D 0 3 (Nat.le_of_ble_eq_true rfl) (Nat.le_of_ble_eq_true rfl) (by decide) _ (List.mem_singleton.2 rfl) _ hb)), (Ne.symm (D 1 3 (Nat.le_of_ble_eq_true rfl) (Nat.le_of_ble_eq_true rfl) (by decide) _ (List.mem_singleton.2 rfl) _ hb)), (D 3 4 (Nat.le_of_ble_eq_true rfl) (Nat.le_of_ble_eq_true rfl) (by decide) _ hb _ (List.mem_singleton.2 rfl)), (Ne.symm (D 2 3 (Nat.le_of_ble_eq_true rfl) (Nat.le_of_ble_eq_true rfl) (by decide) _ (List.mem_singleton.2 rfl) _ hb)), (D 3 5 (Nat.le_of_ble_eq_true rfl) (Nat.le_of_ble_eq_true rfl) (by decide) _ hb _ (List.mem_singleton.2 rfl)), (D 3 7 (Nat.le_of_ble_eq_true rfl) (Nat.le_of_ble_eq_true rfl) (by decide) _ hb _ (List.mem_singleton.2 rfl))⟩)
    refine ⟨upd_at hko (by simp only [hk_cons, z_bt_n, z_bt_c, z_bt_w, z_bt_p, z_bt_q, if_true, if_false]; try rfl), held_cons.2 ⟨upd_at hko (by simp only [hk_cons, z_c_bt, z_c_n, z_c_w, z_c_p, z_c_q, if_true, if_false]; simp only [NT.top, ndB, NT.fr, NT.e, NT.h, NT.lc, NT.rc, NT.b, NT.uni_id, hec]; try rfl), held_app.2 ⟨held_hp.2 ⟨upd_at hko (by simp only [hk_cons, z_q_bt, z_q_n, z_q_c, z_q_w, z_q_p, if_true, if_false]; try rfl), uq⟩, held_cons.2 ⟨upd_at hko (by simp only [hk_cons, z_n_bt, z_n_c, z_n_w, z_n_p, z_n_q, if_true, if_false]; simp only [NT.top, ndB, NT.e, NT.h, NT.lc, NT.rc, NT.b, NT.uni_id, he]; try rfl), held_app.2 ⟨held_hp.2 ⟨upd_at hko (by simp only [hk_cons, z_w_bt, z_w_n, z_w_c, z_w_p, z_w_q, if_true, if_false]; try rfl), uw⟩, held_hp.2 ⟨upd_at hko (by simp only [hk_cons, z_p_bt, z_p_n, z_p_c, z_p_w, z_p_q, if_true, if_false]; try rfl), up⟩⟩⟩⟩⟩, held_nil⟩
set_option maxHeartbeats 4000000 in
theorem rz_rL0 {nx bt bm n c : Nat} {e ec : En} {h hc : Int} {p q w : NT} {M : Nat → Option ABox} {gb : Nat} {eg : En} {hg : Int} {s : NT} {z3 : List Fr} (q_bm : bm < nx) (O : Opn nx M bt bm n e h w (.nd c ec hc p q) (⟨true, gb, eg, hg, s⟩ :: z3)) (he : e.id = 0) (hec : ec.id = 0) (b1 : 0 ≤ w.h ∧ w.h ≤ 900) (b2 : 0 ≤ p.h ∧ p.h ≤ 900) (b3 : 0 ≤ q.h ∧ q.h ≤ 900) (sw : ¬ p.h < q.h) :
    ∃ wb rb, CallS Try.prog M nx 49 [.pt bt 0, .pt n 0, .pt c 0] ⟨.pt c 0, wb, 0, rb⟩ ∧ Cls (updL M wb) bt bm (NT.rot n (.nd c ec hc p q) w) (⟨true, gb, eg, hg, s⟩ :: z3) := by
  have e0 : ([[bt], [n], [w.b], w.kns, [c], [p.b], p.kns, [q.b], q.kns, [gb], [s.b], s.kns, cns z3] : List (List Nat)).flatten = bt :: n :: ((NT.nos w) ++ ((NT.nos (.nd c ec hc p q)) ++ cns (⟨true, gb, eg, hg, s⟩ :: z3))) := by simp [NT.nos, NT.nos_eq, cns]
  have hnd : ([[bt], [n], [w.b], w.kns, [c], [p.b], p.kns, [q.b], q.kns, [gb], [s.b], s.kns, cns z3] : List (List Nat)).flatten.Nodup := by rw [e0]; exact O.fd
  have D := List.pairwise_iff_getElem.1 (List.pairwise_flatten.1 hnd).2
  have L : ∀ k ∈ ([[bt], [n], [w.b], w.kns, [c], [p.b], p.kns, [q.b], q.kns, [gb], [s.b], s.kns, cns z3] : List (List Nat)).flatten, k < nx := by rw [e0]; exact O.flt
  clear hnd e0
  have q_bt : bt < nx := L _ (by simp)
  have q_n : n < nx := L _ (by simp)
  have q_w : w.b < nx := L _ (by simp)
  have q_c : c < nx := L _ (by simp)
  have q_p : p.b < nx := L _ (by simp)
  have q_q : q.b < nx := L _ (by simp)
  have q_g : gb < nx := L _ (by simp)
  have q_s : s.b < nx := L _ (by simp)
  have Kw : ∀ k ∈ w.kns, k < nx := fun k hk => L k (by simp [hk])
  have Kp : ∀ k ∈ p.kns, k < nx := fun k hk => L k (by simp [hk])
  have Kq : ∀ k ∈ q.kns, k < nx := fun k hk => L k (by simp [hk])
  have Ks : ∀ k ∈ s.kns, k < nx := fun k hk => L k (by simp [hk])
  have Kz : ∀ k ∈ cns z3, k < nx := fun k hk => L k (by simp [hk])
  have z_g_n : (gb = n) = False := eq_false (Ne.symm (D 1 9 (Nat.le_of_ble_eq_true rfl) (Nat.le_of_ble_eq_true rfl) (by decide) _ (List.mem_singleton.2 rfl) _ (List.mem_singleton.2 rfl)))
  have z_g_c : (gb = c) = False := eq_false (Ne.symm (D 4 9 (Nat.le_of_ble_eq_true rfl) (Nat.le_of_ble_eq_true rfl) (by decide) _ (List.mem_singleton.2 rfl) _ (List.mem_singleton.2 rfl)))
  have z_g_w : (gb = w.b) = False := eq_false (Ne.symm (D 2 9 (Nat.le_of_ble_eq_true rfl) (Nat.le_of_ble_eq_true rfl) (by decide) _ (List.mem_singleton.2 rfl) _ (List.mem_singleton.2 rfl)))
  have z_g_p : (gb = p.b) = False := eq_false (Ne.symm (D 5 9 (Nat.le_of_ble_eq_true rfl) (Nat.le_of_ble_eq_true rfl) (by decide) _ (List.mem_singleton.2 rfl) _ (List.mem_singleton.2 rfl)))
  have z_g_q : (gb = q.b) = False := eq_false (Ne.symm (D 7 9 (Nat.le_of_ble_eq_true rfl) (Nat.le_of_ble_eq_true rfl) (by decide) _ (List.mem_singleton.2 rfl) _ (List.mem_singleton.2 rfl)))
  have z_n_g : (n = gb) = False := eq_false (D 1 9 (Nat.le_of_ble_eq_true rfl) (Nat.le_of_ble_eq_true rfl) (by decide) _ (List.mem_singleton.2 rfl) _ (List.mem_singleton.2 rfl))
  have z_n_c : (n = c) = False := eq_false (D 1 4 (Nat.le_of_ble_eq_true rfl) (Nat.le_of_ble_eq_true rfl) (by decide) _ (List.mem_singleton.2 rfl) _ (List.mem_singleton.2 rfl))
  have z_n_w : (n = w.b) = False := eq_false (D 1 2 (Nat.le_of_ble_eq_true rfl) (Nat.le_of_ble_eq_true rfl) (by decide) _ (List.mem_singleton.2 rfl) _ (List.mem_singleton.2 rfl))
  have z_n_p : (n = p.b) = False := eq_false (D 1 5 (Nat.le_of_ble_eq_true rfl) (Nat.le_of_ble_eq_true rfl) (by decide) _ (List.mem_singleton.2 rfl) _ (List.mem_singleton.2 rfl))
  have z_n_q : (n = q.b) = False := eq_false (D 1 7 (Nat.le_of_ble_eq_true rfl) (Nat.le_of_ble_eq_true rfl) (by decide) _ (List.mem_singleton.2 rfl) _ (List.mem_singleton.2 rfl))
  have z_c_g : (c = gb) = False := eq_false (D 4 9 (Nat.le_of_ble_eq_true rfl) (Nat.le_of_ble_eq_true rfl) (by decide) _ (List.mem_singleton.2 rfl) _ (List.mem_singleton.2 rfl))
  have z_c_n : (c = n) = False := eq_false (Ne.symm (D 1 4 (Nat.le_of_ble_eq_true rfl) (Nat.le_of_ble_eq_true rfl) (by decide) _ (List.mem_singleton.2 rfl) _ (List.mem_singleton.2 rfl)))
  have z_c_w : (c = w.b) = False := eq_false (Ne.symm (D 2 4 (Nat.le_of_ble_eq_true rfl) (Nat.le_of_ble_eq_true rfl) (by decide) _ (List.mem_singleton.2 rfl) _ (List.mem_singleton.2 rfl)))
  have z_c_p : (c = p.b) = False := eq_false (D 4 5 (Nat.le_of_ble_eq_true rfl) (Nat.le_of_ble_eq_true rfl) (by decide) _ (List.mem_singleton.2 rfl) _ (List.mem_singleton.2 rfl))
  have z_c_q : (c = q.b) = False := eq_false (D 4 7 (Nat.le_of_ble_eq_true rfl) (Nat.le_of_ble_eq_true rfl) (by decide) _ (List.mem_singleton.2 rfl) _ (List.mem_singleton.2 rfl))
  have z_w_g : (w.b = gb) = False := eq_false (D 2 9 (Nat.le_of_ble_eq_true rfl) (Nat.le_of_ble_eq_true rfl) (by decide) _ (List.mem_singleton.2 rfl) _ (List.mem_singleton.2 rfl))
  have z_w_n : (w.b = n) = False := eq_false (Ne.symm (D 1 2 (Nat.le_of_ble_eq_true rfl) (Nat.le_of_ble_eq_true rfl) (by decide) _ (List.mem_singleton.2 rfl) _ (List.mem_singleton.2 rfl)))
  have z_w_c : (w.b = c) = False := eq_false (D 2 4 (Nat.le_of_ble_eq_true rfl) (Nat.le_of_ble_eq_true rfl) (by decide) _ (List.mem_singleton.2 rfl) _ (List.mem_singleton.2 rfl))
  have z_w_p : (w.b = p.b) = False := eq_false (D 2 5 (Nat.le_of_ble_eq_true rfl) (Nat.le_of_ble_eq_true rfl) (by decide) _ (List.mem_singleton.2 rfl) _ (List.mem_singleton.2 rfl))
  have z_w_q : (w.b = q.b) = False := eq_false (D 2 7 (Nat.le_of_ble_eq_true rfl) (Nat.le_of_ble_eq_true rfl) (by decide) _ (List.mem_singleton.2 rfl) _ (List.mem_singleton.2 rfl))
  have z_p_g : (p.b = gb) = False := eq_false (D 5 9 (Nat.le_of_ble_eq_true rfl) (Nat.le_of_ble_eq_true rfl) (by decide) _ (List.mem_singleton.2 rfl) _ (List.mem_singleton.2 rfl))
  have z_p_n : (p.b = n) = False := eq_false (Ne.symm (D 1 5 (Nat.le_of_ble_eq_true rfl) (Nat.le_of_ble_eq_true rfl) (by decide) _ (List.mem_singleton.2 rfl) _ (List.mem_singleton.2 rfl)))
  have z_p_c : (p.b = c) = False := eq_false (Ne.symm (D 4 5 (Nat.le_of_ble_eq_true rfl) (Nat.le_of_ble_eq_true rfl) (by decide) _ (List.mem_singleton.2 rfl) _ (List.mem_singleton.2 rfl)))
  have z_p_w : (p.b = w.b) = False := eq_false (Ne.symm (D 2 5 (Nat.le_of_ble_eq_true rfl) (Nat.le_of_ble_eq_true rfl) (by decide) _ (List.mem_singleton.2 rfl) _ (List.mem_singleton.2 rfl)))
  have z_p_q : (p.b = q.b) = False := eq_false (D 5 7 (Nat.le_of_ble_eq_true rfl) (Nat.le_of_ble_eq_true rfl) (by decide) _ (List.mem_singleton.2 rfl) _ (List.mem_singleton.2 rfl))
  have z_q_g : (q.b = gb) = False := eq_false (D 7 9 (Nat.le_of_ble_eq_true rfl) (Nat.le_of_ble_eq_true rfl) (by decide) _ (List.mem_singleton.2 rfl) _ (List.mem_singleton.2 rfl))
  have z_q_n : (q.b = n) = False := eq_false (Ne.symm (D 1 7 (Nat.le_of_ble_eq_true rfl) (Nat.le_of_ble_eq_true rfl) (by decide) _ (List.mem_singleton.2 rfl) _ (List.mem_singleton.2 rfl)))
  have z_q_c : (q.b = c) = False := eq_false (Ne.symm (D 4 7 (Nat.le_of_ble_eq_true rfl) (Nat.le_of_ble_eq_true rfl) (by decide) _ (List.mem_singleton.2 rfl) _ (List.mem_singleton.2 rfl)))
  have z_q_w : (q.b = w.b) = False := eq_false (Ne.symm (D 2 7 (Nat.le_of_ble_eq_true rfl) (Nat.le_of_ble_eq_true rfl) (by decide) _ (List.mem_singleton.2 rfl) _ (List.mem_singleton.2 rfl)))
  have z_q_p : (q.b = p.b) = False := eq_false (Ne.symm (D 5 7 (Nat.le_of_ble_eq_true rfl) (Nat.le_of_ble_eq_true rfl) (by decide) _ (List.mem_singleton.2 rfl) _ (List.mem_singleton.2 rfl)))
  have mt := O.ft
  have mn := O.fn
  obtain ⟨mc, ml⟩ := held_hp.1 O.fr
  obtain ⟨mp', mq'⟩ := held_app.1 (show Held M (p.hp (.pt c 0) ++ q.hp (.pt c 0)) from ml)
  obtain ⟨mp, mpk⟩ := held_hp.1 mp'
  obtain ⟨mq, mqk⟩ := held_hp.1 mq'
  obtain ⟨mw, mwk⟩ := held_hp.1 O.fl
  obtain ⟨mg, mz⟩ := held_cons.1 (show Held M ((gb, _) :: (s.hp (.pt gb 0) ++ ctx z3 gb)) from O.fz)
  obtain ⟨msh, mz3⟩ := held_app.1 mz
  have hC := @c_rotrL0 nx gb n c w.b p.b q.b bt q_bt e ec w.e p.e q.e eg (.pt n 0) w.lc w.rc (.pt c 0) p.lc p.rc (.pt c 0) q.lc q.rc (paZ z3) (.pt s.b 0) h e.id hc ec.id w.h w.e.id p.h p.e.id q.h q.e.id hg eg.id q_g q_n q_c q_w q_p q_q (of_eq_false z_g_n) (of_eq_false z_g_c) (of_eq_false z_g_w) (of_eq_false z_g_p) (of_eq_false z_g_q) (of_eq_false z_n_c) (of_eq_false z_n_w) (of_eq_false z_n_p) (of_eq_false z_n_q) (of_eq_false z_c_w) (of_eq_false z_c_p) (of_eq_false z_c_q) (of_eq_false z_w_p) (of_eq_false z_w_q) (of_eq_false z_p_q) (lc_lt Kp) (lc_lt Kq) (lc_lt Kw) (pa_lt Kz) (Lt.pt _ _ q_c) (Lt.pt _ _ q_c) (Lt.pt _ _ q_n) (Lt.pt _ _ q_s) (rc_lt Kp) (rc_lt Kq) (rc_lt Kw) b1 b2 b3 sw
  have hko : keysOk ([(gb, .var (.agg [.i eg.x, .i eg.y, .i eg.u, .i eg.w, (paZ z3), .pt c 0, (.pt s.b 0), .i hg, .i eg.id])), (n, .var (.agg [.i (uniE w.e q.e).x, .i (uniE w.e q.e).y, .i (uniE w.e q.e).u, .i (uniE w.e q.e).w, .pt c 0, .pt w.b 0, .pt q.b 0, .i (1 + imax w.h q.h), .i e.id])), (c, .var (.agg [.i (uniE p.e (uniE w.e q.e)).x, .i (uniE p.e (uniE w.e q.e)).y, .i (uniE p.e (uniE w.e q.e)).u, .i (uniE p.e (uniE w.e q.e)).w, .pt gb 0, .pt p.b 0, .pt n 0, .i (1 + imax p.h (1 + imax w.h q.h)), .i ec.id])), (w.b, .var (.agg [.i w.e.x, .i w.e.y, .i w.e.u, .i w.e.w, .pt n 0, w.lc, w.rc, .i w.h, .i w.e.id])), (p.b, .var (.agg [.i p.e.x, .i p.e.y, .i p.e.u, .i p.e.w, .pt c 0, p.lc, p.rc, .i p.h, .i p.e.id])), (q.b, .var (.agg [.i q.e.x, .i q.e.y, .i q.e.u, .i q.e.w, .pt n 0, q.lc, q.rc, .i q.h, .i q.e.id]))] : HH) = true := by simp [keysOk, z_g_n, z_g_c, z_g_w, z_g_p, z_g_q, z_n_c, z_n_w, z_n_p, z_n_q, z_c_w, z_c_p, z_c_q, z_w_p, z_w_q, z_p_q]
  refine ⟨[(gb, .var (.agg [.i eg.x, .i eg.y, .i eg.u, .i eg.w, (paZ z3), .pt c 0, (.pt s.b 0), .i hg, .i eg.id])), (n, .var (.agg [.i (uniE w.e q.e).x, .i (uniE w.e q.e).y, .i (uniE w.e q.e).u, .i (uniE w.e q.e).w, .pt c 0, .pt w.b 0, .pt q.b 0, .i (1 + imax w.h q.h), .i e.id])), (c, .var (.agg [.i (uniE p.e (uniE w.e q.e)).x, .i (uniE p.e (uniE w.e q.e)).y, .i (uniE p.e (uniE w.e q.e)).u, .i (uniE p.e (uniE w.e q.e)).w, .pt gb 0, .pt p.b 0, .pt n 0, .i (1 + imax p.h (1 + imax w.h q.h)), .i ec.id])), (w.b, .var (.agg [.i w.e.x, .i w.e.y, .i w.e.u, .i w.e.w, .pt n 0, w.lc, w.rc, .i w.h, .i w.e.id])), (p.b, .var (.agg [.i p.e.x, .i p.e.y, .i p.e.u, .i p.e.w, .pt c 0, p.lc, p.rc, .i p.h, .i p.e.id])), (q.b, .var (.agg [.i q.e.x, .i q.e.y, .i q.e.u, .i q.e.w, .pt n 0, q.lc, q.rc, .i q.h, .i q.e.id]))], [gb, n, c, w.b, p.b, q.b], hC.congr (fun k hk' => ?_), ?_⟩
  · simp only [List.mem_cons, List.not_mem_nil, or_false] at hk'
    rcases hk' with rfl | rfl | rfl | rfl | rfl | rfl
    · refine mg.trans ?_
      simp only [hk_cons, z_g_n, z_g_c, z_g_w, z_g_p, z_g_q, if_true, if_false]
      try rfl
    · refine mn.trans ?_
      simp only [hk_cons, z_n_g, z_n_c, z_n_w, z_n_p, z_n_q, if_true, if_false]
      try rfl
    · refine mc.trans ?_
      simp only [hk_cons, z_c_g, z_c_n, z_c_w, z_c_p, z_c_q, if_true, if_false]
      try rfl
    · refine mw.trans ?_
      simp only [hk_cons, z_w_g, z_w_n, z_w_c, z_w_p, z_w_q, if_true, if_false]
      try rfl
    · refine mp.trans ?_
      simp only [hk_cons, z_p_g, z_p_n, z_p_c, z_p_w, z_p_q, if_true, if_false]
      try rfl
    · refine mq.trans ?_
      simp only [hk_cons, z_q_g, z_q_n, z_q_c, z_q_w, z_q_p, if_true, if_false]
      try rfl
  · have hr : NT.rot n (.nd c ec hc p q) w = NT.fr c p (NT.fr n w q) := if_neg sw
    rw [hr]
    have up := mpk.upd (wb := [(gb, .var (.agg [.i eg.x, .i eg.y, .i eg.u, .i eg.w, (paZ z3), .pt c 0, (.pt s.b 0), .i hg, .i eg.id])), (n, .var (.agg [.i (uniE w.e q.e).x, .i (uniE w.e q.e).y, .i (uniE w.e q.e).u, .i (uniE w.e q.e).w, .pt c 0, .pt w.b 0, .pt q.b 0, .i (1 + imax w.h q.h), .i e.id])), (c, .var (.agg [.i (uniE p.e (uniE w.e q.e)).x, .i (uniE p.e (uniE w.e q.e)).y, .i (uniE p.e (uniE w.e q.e)).u, .i (uniE p.e (uniE w.e q.e)).w, .pt gb 0, .pt p.b 0, .pt n 0, .i (1 + imax p.h (1 + imax w.h q.h)), .i ec.id])), (w.b, .var (.agg [.i w.e.x, .i w.e.y, .i w.e.u, .i w.e.w, .pt n 0, w.lc, w.rc, .i w.h, .i w.e.id])), (p.b, .var (.agg [.i p.e.x, .i p.e.y, .i p.e.u, .i p.e.w, .pt c 0, p.lc, p.rc, .i p.h, .i p.e.id])), (q.b, .var (.agg [.i q.e.x, .i q.e.y, .i q.e.u, .i q.e.w, .pt n 0, q.lc, q.rc, .i q.h, .i q.e.id]))]) (fun b hb => by
      rw [show (p.kids.map (·.1)) = p.kns from rfl] at hb
      simp only [List.map_cons, List.map_nil, List.mem_cons, List.not_mem_nil, or_false, not_or]
      exact ⟨(D 6 9 (Nat.le_of_ble_eq_true rfl) (Nat.le_of_ble_eq_true rfl) (by decide) _ hb _ (List.mem_singleton.2 rfl)), (Ne.symm (D 1 6 (Nat.le_of_ble_eq_true rfl) (Nat.le_of_ble_eq_true rfl) (by decide) _ (List.mem_singleton.2 rfl) _ hb)), (Ne.symm (D 4 6 (Nat.le_of_ble_eq_true rfl) (Nat.le_of_ble_eq_true rfl) (by decide) _ (List.mem_singleton.2 rfl) _ hb)), (Ne.symm (D 2 6 (Nat.le_of_ble_eq_true rfl) (Nat.le_of_ble_eq_true rfl) (by decide) _ (List.mem_singleton.2 rfl) _ hb)), (Ne.symm (D 5 6 (Nat.le_of_ble_eq_true rfl) (Nat.le_of_ble_eq_true rfl) (by decide) _ (List.mem_singleton.2 rfl) _ hb)), (D 6 7 (Nat.le_of_ble_eq_true rfl) (Nat.le_of_ble_eq_true rfl) (by decide) _ hb _ (List.mem_singleton.2 rfl))⟩)
    have uq := mqk.upd (wb := [(gb, .var (.agg [.i eg.x, .i eg.y, .i eg.u, .i eg.w, (paZ z3), .pt c 0, (.pt s.b 0), .i hg, .i eg.id])), (n, .var (.agg [.i (uniE w.e q.e).x, .i (uniE w.e q.e).y, .i (uniE w.e q.e).u, .i (uniE w.e q.e).w, .pt c 0, .pt w.b 0, .pt q.b 0, .i (1 + imax w.h q.h), .i e.id])), (c, .var (.agg [.i (uniE p.e (uniE w.e q.e)).x, .i (uniE p.e (uniE w.e q.e)).y, .i (uniE p.e (uniE w.e q.e)).u, .i (uniE p.e (uniE w.e q.e)).w, .pt gb 0, .pt p.b 0, .pt n 0, .i (1 + imax p.h (1 + imax w.h q.h)), .i ec.id])), (w.b, .var (.agg [.i w.e.x, .i w.e.y, .i w.e.u, .i w.e.w, .pt n 0, w.lc, w.rc, .i w.h, .i w.e.id])), (p.b, .var (.agg [.i p.e.x, .i p.e.y, .i p.e.u, .i p.e.w, .pt c 0, p.lc, p.rc, .i p.h, .i p.e.id])), (q.b, .var (.agg [.i q.e.x, .i q.e.y, .i q.e.u, .i q.e.w, .pt n 0, q.lc, q.rc, .i q.h, .i q.e.id]))]) (fun b hb => by
      rw [show (q.kids.map (·.1)) = q.kns from rfl] at hb
      simp only [List.map_cons, List.map_nil, List.mem_cons, List.not_mem_nil, or_false, not_or]
      exact ⟨(D 8 9 (Nat.le_of_ble_eq_true rfl) (Nat.le_of_ble_eq_true rfl) (by decide) _ hb _ (List.mem_singleton.2 rfl)), (Ne.symm (D 1 8 (Nat.le_of_ble_eq_true rfl) (Nat.le_of_ble_eq_true rfl) (by decide) _ (List.mem_singleton.2 rfl) _ hb)), (Ne.symm (D 4 8 (Nat.le_of_ble_eq_true rfl) (Nat.le_of_ble_eq_true rfl) (by decide) _ (List.mem_singleton.2 rfl) _ hb)), (Ne.symm (D 2 8 (Nat.le_of_ble_eq_true rfl) (Nat.le_of_ble_eq_true rfl) (by decide) _ (List.mem_singleton.2 rfl) _ hb)), (Ne.symm (D 5 8 (Nat.le_of_ble_eq_true rfl) (Nat.le_of_ble_eq_true rfl) (by decide) _ (List.mem_singleton.2 rfl) _ hb)), (Ne.symm (D 7 8 (Nat.le_of_ble_eq_true rfl) (Nat.le_of_ble_eq_true rfl) (by decide) _ (List.mem_singleton.2 rfl) _ hb))⟩)
    have uw := mwk.upd (wb := [(gb, .var (.agg [.i eg.x, .i eg.y, .i eg.u, .i eg.w, (paZ z3), .pt c 0, (.pt s.b 0), .i hg, .i eg.id])), (n, .var (.agg [.i (uniE w.e q.e).x, .i (uniE w.e q.e).y, .i (uniE w.e q.e).u, .i (uniE w.e q.e).w, .pt c 0, .pt w.b 0, .pt q.b 0, .i (1 + imax w.h q.h), .i e.id])), (c, .var (.agg [.i (uniE p.e (uniE w.e q.e)).x, .i (uniE p.e (uniE w.e q.e)).y, .i (uniE p.e (uniE w.e q.e)).u, .i (uniE p.e (uniE w.e q.e)).w, .pt gb 0, .pt p.b 0, .pt n 0, .i (1 + imax p.h (1 + imax w.h q.h)), .i ec.id])), (w.b, .var (.agg [.i w.e.x, .i w.e.y, .i w.e.u, .i w.e.w, .pt n 0, w.lc, w.rc, .i w.h, .i w.e.id])), (p.b, .var (.agg [.i p.e.x, .i p.e.y, .i p.e.u, .i p.e.w, .pt c 0, p.lc, p.rc, .i p.h, .i p.e.id])), (q.b, .var (.agg [.i q.e.x, .i q.e.y, .i q.e.u, .i q.e.w, .pt n 0, q.lc, q.rc, .i q.h, .i q.e.id]))]) (fun b hb => by
      rw [show (w.kids.map (·.1)) = w.kns from rfl] at hb
      simp only [List.map_cons, List.map_nil, List.mem_cons, List.not_mem_nil, or_false, not_or]
      exact ⟨(D 3 9 (Nat.le_of_ble_eq_true rfl) (Nat.le_of_ble_eq_true rfl) (by decide) _ hb _ (List.mem_singleton.2 rfl)), (Ne.symm (D 1 3 (Nat.le_of_ble_eq_true rfl) (Nat.le_of_ble_eq_true rfl) (by decide) _ (List.mem_singleton.2 rfl) _ hb)), (D 3 4 (Nat.le_of_ble_eq_true rfl) (Nat.le_of_ble_eq_true rfl) (by decide) _ hb _ (List.mem_singleton.2 rfl)), (Ne.symm (D 2 3 (Nat.le_of_ble_eq_true rfl) (Nat.le_of_ble_eq_true rfl) (by decide) _ (List.mem_singleton.2 rfl) _ hb)), (D 3 5 (Nat.le_of_ble_eq_true rfl) (Nat.le_of_ble_eq_true rfl) (by decide) _ hb _ (List.mem_singleton.2 rfl)), (D 3 7 (Nat.le_of_ble_eq_true rfl) (Nat.le_of_ble_eq_true rfl) (by decide) _ hb _ (List.mem_singleton.2 rfl))⟩)
    have uz := mz3.upd (wb := [(gb, .var (.agg [.i eg.x, .i eg.y, .i eg.u, .i eg.w, (paZ z3), .pt c 0, (.pt s.b 0), .i hg, .i eg.id])), (n, .var (.agg [.i (uniE w.e q.e).x, .i (uniE w.e q.e).y, .i (uniE w.e q.e).u, .i (uniE w.e q.e).w, .pt c 0, .pt w.b 0, .pt q.b 0, .i (1 + imax w.h q.h), .i e.id])), (c, .var (.agg [.i (uniE p.e (uniE w.e q.e)).x, .i (uniE p.e (uniE w.e q.e)).y, .i (uniE p.e (uniE w.e q.e)).u, .i (uniE p.e (uniE w.e q.e)).w, .pt gb 0, .pt p.b 0, .pt n 0, .i (1 + imax p.h (1 + imax w.h q.h)), .i ec.id])), (w.b, .var (.agg [.i w.e.x, .i w.e.y, .i w.e.u, .i w.e.w, .pt n 0, w.lc, w.rc, .i w.h, .i w.e.id])), (p.b, .var (.agg [.i p.e.x, .i p.e.y, .i p.e.u, .i p.e.w, .pt c 0, p.lc, p.rc, .i p.h, .i p.e.id])), (q.b, .var (.agg [.i q.e.x, .i q.e.y, .i q.e.u, .i q.e.w, .pt n 0, q.lc, q.rc, .i q.h, .i q.e.id]))]) (fun b hb => by
      rw [ctx_nos] at hb
      simp only [List.map_cons, List.map_nil, List.mem_cons, List.not_mem_nil, or_false, not_or]
      exact ⟨(Ne.symm (D 9 12 (Nat.le_of_ble_eq_true rfl) (Nat.le_of_ble_eq_true rfl) (by decide) _ (List.mem_singleton.2 rfl) _ hb)), (Ne.symm (D 1 12 (Nat.le_of_ble_eq_true rfl) (Nat.le_of_ble_eq_true rfl) (by decide) _ (List.mem_singleton.2 rfl) _ hb)), (Ne.symm (D 4 12 (Nat.le_of_ble_eq_true rfl) (Nat.le_of_ble_eq_true rfl) (by decide) _ (List.mem_singleton.2 rfl) _ hb)), (Ne.symm (D 2 12 (Nat.le_of_ble_eq_true rfl) (Nat.le_of_ble_eq_true rfl) (by decide) _ (List.mem_singleton.2 rfl) _ hb)), (Ne.symm (D 5 12 (Nat.le_of_ble_eq_true rfl) (Nat.le_of_ble_eq_true rfl) (by decide) _ (List.mem_singleton.2 rfl) _ hb)), (Ne.symm (D 7 12 (Nat.le_of_ble_eq_true rfl) (Nat.le_of_ble_eq_true rfl) (by decide) _ (List.mem_singleton.2 rfl) _ hb))⟩)
    have us := msh.upd (wb := [(gb, .var (.agg [.i eg.x, .i eg.y, .i eg.u, .i eg.w, (paZ z3), .pt c 0, (.pt s.b 0), .i hg, .i eg.id])), (n, .var (.agg [.i (uniE w.e q.e).x, .i (uniE w.e q.e).y, .i (uniE w.e q.e).u, .i (uniE w.e q.e).w, .pt c 0, .pt w.b 0, .pt q.b 0, .i (1 + imax w.h q.h), .i e.id])), (c, .var (.agg [.i (uniE p.e (uniE w.e q.e)).x, .i (uniE p.e (uniE w.e q.e)).y, .i (uniE p.e (uniE w.e q.e)).u, .i (uniE p.e (uniE w.e q.e)).w, .pt gb 0, .pt p.b 0, .pt n 0, .i (1 + imax p.h (1 + imax w.h q.h)), .i ec.id])), (w.b, .var (.agg [.i w.e.x, .i w.e.y, .i w.e.u, .i w.e.w, .pt n 0, w.lc, w.rc, .i w.h, .i w.e.id])), (p.b, .var (.agg [.i p.e.x, .i p.e.y, .i p.e.u, .i p.e.w, .pt c 0, p.lc, p.rc, .i p.h, .i p.e.id])), (q.b, .var (.agg [.i q.e.x, .i q.e.y, .i q.e.u, .i q.e.w, .pt n 0, q.lc, q.rc, .i q.h, .i q.e.id]))]) (fun b hb => by
      rw [NT.hp_nos, NT.nos_eq, List.mem_cons] at hb
      simp only [List.map_cons, List.map_nil, List.mem_cons, List.not_mem_nil, or_false, not_or]
      rcases hb with rfl | hb
      · exact ⟨(Ne.symm (D 9 10 (Nat.le_of_ble_eq_true rfl) (Nat.le_of_ble_eq_true rfl) (by decide) _ (List.mem_singleton.2 rfl) _ (List.mem_singleton.2 rfl))), (Ne.symm (D 1 10 (Nat.le_of_ble_eq_true rfl) (Nat.le_of_ble_eq_true rfl) (by decide) _ (List.mem_singleton.2 rfl) _ (List.mem_singleton.2 rfl))), (Ne.symm (D 4 10 (Nat.le_of_ble_eq_true rfl) (Nat.le_of_ble_eq_true rfl) (by decide) _ (List.mem_singleton.2 rfl) _ (List.mem_singleton.2 rfl))), (Ne.symm (D 2 10 (Nat.le_of_ble_eq_true rfl) (Nat.le_of_ble_eq_true rfl) (by decide) _ (List.mem_singleton.2 rfl) _ (List.mem_singleton.2 rfl))), (Ne.symm (D 5 10 (Nat.le_of_ble_eq_true rfl) (Nat.le_of_ble_eq_true rfl) (by decide) _ (List.mem_singleton.2 rfl) _ (List.mem_singleton.2 rfl))), (Ne.symm (D 7 10 (Nat.le_of_ble_eq_true rfl) (Nat.le_of_ble_eq_true rfl) (by decide) _ (List.mem_singleton.2 rfl) _ (List.mem_singleton.2 rfl)))⟩
      · exact ⟨(Ne.symm (D 9 11 (Nat.le_of_ble_eq_true rfl) (Nat.le_of_ble_eq_true rfl) (by decide) _ (List.mem_singleton.2 rfl) _ hb)), (Ne.symm (D 1 11 (Nat.le_of_ble_eq_true rfl) (Nat.le_of_ble_eq_true rfl) (by decide) _ (List.mem_singleton.2 rfl) _ hb)), (Ne.symm (D 4 11 (Nat.le_of_ble_eq_true rfl) (Nat.le_of_ble_eq_true rfl) (by decide) _ (List.mem_singleton.2 rfl) _ hb)), (Ne.symm (D 2 11 (Nat.le_of_ble_eq_true rfl) (Nat.le_of_ble_eq_true rfl) (by decide) _ (List.mem_singleton.2 rfl) _ hb)), (Ne.symm (D 5 11 (Nat.le_of_ble_eq_true rfl) (Nat.le_of_ble_eq_true rfl) (by decide) _ (List.mem_singleton.2 rfl) _ hb)), (Ne.symm (D 7 11 (Nat.le_of_ble_eq_true rfl) (Nat.le_of_ble_eq_true rfl) (by decide) _ (List.mem_singleton.2 rfl) _ hb))⟩)
    refine ⟨(updL_other _ _ _ (by simp only [List.map_cons, List.map_nil, List.mem_cons, List.not_mem_nil, or_false, not_or]; exact ⟨(D 0 9 (Nat.le_of_ble_eq_true rfl) (Nat.le_of_ble_eq_true rfl) (by decide) _ (List.mem_singleton.2 rfl) _ (List.mem_singleton.2 rfl)), (D 0 1 (Nat.le_of_ble_eq_true rfl) (Nat.le_of_ble_eq_true rfl) (by decide) _ (List.mem_singleton.2 rfl) _ (List.mem_singleton.2 rfl)), (D 0 4 (Nat.le_of_ble_eq_true rfl) (Nat.le_of_ble_eq_true rfl) (by decide) _ (List.mem_singleton.2 rfl) _ (List.mem_singleton.2 rfl)), (D 0 2 (Nat.le_of_ble_eq_true rfl) (Nat.le_of_ble_eq_true rfl) (by decide) _ (List.mem_singleton.2 rfl) _ (List.mem_singleton.2 rfl)), (D 0 5 (Nat.le_of_ble_eq_true rfl) (Nat.le_of_ble_eq_true rfl) (by decide) _ (List.mem_singleton.2 rfl) _ (List.mem_singleton.2 rfl)), (D 0 7 (Nat.le_of_ble_eq_true rfl) (Nat.le_of_ble_eq_true rfl) (by decide) _ (List.mem_singleton.2 rfl) _ (List.mem_singleton.2 rfl))⟩)).trans mt, held_cons.2 ⟨upd_at hko (by simp only [hk_cons, z_c_g, z_c_n, z_c_w, z_c_p, z_c_q, if_true, if_false]; simp only [NT.top, ndB, NT.fr, NT.e, NT.h, NT.lc, NT.rc, NT.b, NT.uni_id, hec]; try rfl), held_app.2 ⟨held_hp.2 ⟨upd_at hko (by simp only [hk_cons, z_p_g, z_p_n, z_p_c, z_p_w, z_p_q, if_true, if_false]; try rfl), up⟩, held_cons.2 ⟨upd_at hko (by simp only [hk_cons, z_n_g, z_n_c, z_n_w, z_n_p, z_n_q, if_true, if_false]; simp only [NT.top, ndB, NT.e, NT.h, NT.lc, NT.rc, NT.b, NT.uni_id, he]; try rfl), held_app.2 ⟨held_hp.2 ⟨upd_at hko (by simp only [hk_cons, z_w_g, z_w_n, z_w_c, z_w_p, z_w_q, if_true, if_false]; try rfl), uw⟩, held_hp.2 ⟨upd_at hko (by simp only [hk_cons, z_q_g, z_q_n, z_q_c, z_q_w, z_q_p, if_true, if_false]; try rfl), uq⟩⟩⟩⟩⟩, held_cons.2 ⟨upd_at hko (by simp only [hk_cons, z_g_n, z_g_c, z_g_w, z_g_p, z_g_q, if_true, if_false]; try rfl), held_app.2 ⟨us, uz⟩⟩⟩
set_option maxHeartbeats 4000000 in
theorem rz_rL1 {nx bt bm n c : Nat} {e ec : En} {h hc : Int} {p q w : NT} {M : Nat → Option ABox} {gb : Nat} {eg : En} {hg : Int} {s : NT} {z3 : List Fr} (q_bm : bm < nx) (O : Opn nx M bt bm n e h w (.nd c ec hc p q) (⟨true, gb, eg, hg, s⟩ :: z3)) (he : e.id = 0) (hec : ec.id = 0) (b1 : 0 ≤ w.h ∧ w.h ≤ 900) (b2 : 0 ≤ p.h ∧ p.h ≤ 900) (b3 : 0 ≤ q.h ∧ q.h ≤ 900) (sw : p.h < q.h) :
    ∃ wb rb, CallS Try.prog M nx 49 [.pt bt 0, .pt n 0, .pt c 0] ⟨.pt c 0, wb, 0, rb⟩ ∧ Cls (updL M wb) bt bm (NT.rot n (.nd c ec hc p q) w) (⟨true, gb, eg, hg, s⟩ :: z3) := by
  have e0 : ([[bt], [n], [w.b], w.kns, [c], [p.b], p.kns, [q.b], q.kns, [gb], [s.b], s.kns, cns z3] : List (List Nat)).flatten = bt :: n :: ((NT.nos w) ++ ((NT.nos (.nd c ec hc p q)) ++ cns (⟨true, gb, eg, hg, s⟩ :: z3))) := by simp [NT.nos, NT.nos_eq, cns]
  have hnd : ([[bt], [n], [w.b], w.kns, [c], [p.b], p.kns, [q.b], q.kns, [gb], [s.b], s.kns, cns z3] : List (List Nat)).flatten.Nodup := by rw [e0]; exact O.fd
  have D := List.pairwise_iff_getElem.1 (List.pairwise_flatten.1 hnd).2
  have L : ∀ k ∈ ([[bt], [n], [w.b], w.kns, [c], [p.b], p.kns, [q.b], q.kns, [gb], [s.b], s.kns, cns z3] : List (List Nat)).flatten, k < nx := by rw [e0]; exact O.flt
  clear hnd e0
  have q_bt : bt < nx := L _ (by simp)
  have q_n : n < nx := L _ (by simp)
  have q_w : w.b < nx := L _ (by simp)
  have q_c : c < nx := L _ (by simp)
  have q_p : p.b < nx := L _ (by simp)
  have q_q : q.b < nx := L _ (by simp)
  have q_g : gb < nx := L _ (by simp)
  have q_s : s.b < nx := L _ (by simp)
  have Kw : ∀ k ∈ w.kns, k < nx := fun k hk => L k (by simp [hk])
  have Kp : ∀ k ∈ p.kns, k < nx := fun k hk => L k (by simp [hk])
  have Kq : ∀ k ∈ q.kns, k < nx := fun k hk => L k (by simp [hk])
  have Ks : ∀ k ∈ s.kns, k < nx := fun k hk => L k (by simp [hk])
  have Kz : ∀ k ∈ cns z3, k < nx := fun k hk => L k (by simp [hk])
  have z_g_n : (gb = n) = False := eq_false (Ne.symm (D 1 9 (Nat.le_of_ble_eq_true rfl) (Nat.le_of_ble_eq_true rfl) (by decide) _ (List.mem_singleton.2 rfl) _ (List.mem_singleton.2 rfl)))
  have z_g_c : (gb = c) = False := eq_false (Ne.symm (D 4 9 (Nat.le_of_ble_eq_true rfl) (Nat.le_of_ble_eq_true rfl) (by decide) _ (List.mem_singleton.2 rfl) _ (List.mem_singleton.2 rfl)))
  have z_g_w : (gb = w.b) = False := eq_false (Ne.symm (D 2 9 (Nat.le_of_ble_eq_true rfl) (Nat.le_of_ble_eq_true rfl) (by decide) _ (List.mem_singleton.2 rfl) _ (List.mem_singleton.2 rfl)))
  have z_g_p : (gb = p.b) = False := eq_false (Ne.symm (D 5 9 (Nat.le_of_ble_eq_true rfl) (Nat.le_of_ble_eq_true rfl) (by decide) _ (List.mem_singleton.2 rfl) _ (List.mem_singleton.2 rfl)))
  have z_g_q : (gb = q.b) = False := eq_false (Ne.symm (D 7 9 (Nat.le_of_ble_eq_true rfl) (Nat.le_of_ble_eq_true rfl) (by decide) _ (List.mem_singleton.2 rfl) _ (List.mem_singleton.2 rfl)))
  have z_n_g : (n = gb) = False := eq_false (D 1 9 (Nat.le_of_ble_eq_true rfl) (Nat.le_of_ble_eq_true rfl) (by decide) _ (List.mem_singleton.2 rfl) _ (List.mem_singleton.2 rfl))
  have z_n_c : (n = c) = False := eq_false (D 1 4 (Nat.le_of_ble_eq_true rfl) (Nat.le_of_ble_eq_true rfl) (by decide) _ (List.mem_singleton.2 rfl) _ (List.mem_singleton.2 rfl))
  have z_n_w : (n = w.b) = False := eq_false (D 1 2 (Nat.le_of_ble_eq_true rfl) (Nat.le_of_ble_eq_true rfl) (by decide) _ (List.mem_singleton.2 rfl) _ (List.mem_singleton.2 rfl))
  have z_n_p : (n = p.b) = False := eq_false (D 1 5 (Nat.le_of_ble_eq_true rfl) (Nat.le_of_ble_eq_true rfl) (by decide) _ (List.mem_singleton.2 rfl) _ (List.mem_singleton.2 rfl))
  have z_n_q : (n = q.b) = False := eq_false (D 1 7 (Nat.le_of_ble_eq_true rfl) (Nat.le_of_ble_eq_true rfl) (by decide) _ (List.mem_singleton.2 rfl) _ (List.mem_singleton.2 rfl))
  have z_c_g : (c = gb) = False := eq_false (D 4 9 (Nat.le_of_ble_eq_true rfl) (Nat.le_of_ble_eq_true rfl) (by decide) _ (List.mem_singleton.2 rfl) _ (List.mem_singleton.2 rfl))
  have z_c_n : (c = n) = False := eq_false (Ne.symm (D 1 4 (Nat.le_of_ble_eq_true rfl) (Nat.le_of_ble_eq_true rfl) (by decide) _ (List.mem_singleton.2 rfl) _ (List.mem_singleton.2 rfl)))
  have z_c_w : (c = w.b) = False := eq_false (Ne.symm (D 2 4 (Nat.le_of_ble_eq_true rfl) (Nat.le_of_ble_eq_true rfl) (by decide) _ (List.mem_singleton.2 rfl) _ (List.mem_singleton.2 rfl)))
  have z_c_p : (c = p.b) = False := eq_false (D 4 5 (Nat.le_of_ble_eq_true rfl) (Nat.le_of_ble_eq_true rfl) (by decide) _ (List.mem_singleton.2 rfl) _ (List.mem_singleton.2 rfl))
  have z_c_q : (c = q.b) = False := eq_false (D 4 7 (Nat.le_of_ble_eq_true rfl) (Nat.le_of_ble_eq_true rfl) (by decide) _ (List.mem_singleton.2 rfl) _ (List.mem_singleton.2 rfl))
  have z_w_g : (w.b = gb) = False := eq_false (D 2 9 (Nat.le_of_ble_eq_true rfl) (Nat.le_of_ble_eq_true rfl) (by decide) _ (List.mem_singleton.2 rfl) _ (List.mem_singleton.2 rfl))
  have z_w_n : (w.b = n) = False := eq_false (Ne.symm (D 1 2 (Nat.le_of_ble_eq_true rfl) (Nat.le_of_ble_eq_true rfl) (by decide) _ (List.mem_singleton.2 rfl) _ (List.mem_singleton.2 rfl)))
  have z_w_c : (w.b = c) = False := eq_false (D 2 4 (Nat.le_of_ble_eq_true rfl) (Nat.le_of_ble_eq_true rfl) (by decide) _ (List.mem_singleton.2 rfl) _ (List.mem_singleton.2 rfl))
  have z_w_p : (w.b = p.b) = False := eq_false (D 2 5 (Nat.le_of_ble_eq_true rfl) (Nat.le_of_ble_eq_true rfl) (by decide) _ (List.mem_singleton.2 rfl) _ (List.mem_singleton.2 rfl))
  have z_w_q : (w.b = q.b) = False := eq_false (D 2 7 (Nat.le_of_ble_eq_true rfl) (Nat.le_of_ble_eq_true rfl) (by decide) _ (List.mem_singleton.2 rfl) _ (List.mem_singleton.2 rfl))
  have z_p_g : (p.b = gb) = False := eq_false (D 5 9 (Nat.le_of_ble_eq_true rfl) (Nat.le_of_ble_eq_true rfl) (by decide) _ (List.mem_singleton.2 rfl) _ (List.mem_singleton.2 rfl))
  have z_p_n : (p.b = n) = False := eq_false (Ne.symm (D 1 5 (Nat.le_of_ble_eq_true rfl) (Nat.le_of_ble_eq_true rfl) (by decide) _ (List.mem_singleton.2 rfl) _ (List.mem_singleton.2 rfl)))
  have z_p_c : (p.b = c) = False := eq_false (Ne.symm (D 4 5 (Nat.le_of_ble_eq_true rfl) (Nat.le_of_ble_eq_true rfl) (by decide) _ (List.mem_singleton.2 rfl) _ (List.mem_singleton.2 rfl)))
  have z_p_w : (p.b = w.b) = False := eq_false (Ne.symm (D 2 5 (Nat.le_of_ble_eq_true rfl) (Nat.le_of_ble_eq_true rfl) (by decide) _ (List.mem_singleton.2 rfl) _ (List.mem_singleton.2 rfl)))
  have z_p_q : (p.b = q.b) = False := eq_false (D 5 7 (Nat.le_of_ble_eq_true rfl) (Nat.le_of_ble_eq_true rfl) (by decide) _ (List.mem_singleton.2 rfl) _ (List.mem_singleton.2 rfl))
  have z_q_g : (q.b = gb) = False := eq_false (D 7 9 (Nat.le_of_ble_eq_true rfl) (Nat.le_of_ble_eq_true rfl) (by decide) _ (List.mem_singleton.2 rfl) _ (List.mem_singleton.2 rfl))
  have z_q_n : (q.b = n) = False := eq_false (Ne.symm (D 1 7 (Nat.le_of_ble_eq_true rfl) (Nat.le_of_ble_eq_true rfl) (by decide) _ (List.mem_singleton.2 rfl) _ (List.mem_singleton.2 rfl)))
  have z_q_c : (q.b = c) = False := eq_false (Ne.symm (D 4 7 (Nat.le_of_ble_eq_true rfl) (Nat.le_of_ble_eq_true rfl) (by decide) _ (List.mem_singleton.2 rfl) _ (List.mem_singleton.2 rfl)))
  have z_q_w : (q.b = w.b) = False := eq_false (Ne.symm (D 2 7 (Nat.le_of_ble_eq_true rfl) (Nat.le_of_ble_eq_true rfl) (by decide) _ (List.mem_singleton.2 rfl) _ (List.mem_singleton.2 rfl)))
  have z_q_p : (q.b = p.b) = False := eq_false (Ne.symm (D 5 7 (Nat.le_of_ble_eq_true rfl) (Nat.le_of_ble_eq_true rfl) (by decide) _ (List.mem_singleton.2 rfl) _ (List.mem_singleton.2 rfl)))
  have mt := O.ft
  have mn := O.fn
  obtain ⟨mc, ml⟩ := held_hp.1 O.fr
  obtain ⟨mp', mq'⟩ := held_app.1 (show Held M (p.hp (.pt c 0) ++ q.hp (.pt c 0)) from ml)
  obtain ⟨mp, mpk⟩ := held_hp.1 mp'
  obtain ⟨mq, mqk⟩ := held_hp.1 mq'
  obtain ⟨mw, mwk⟩ := held_hp.1 O.fl
  obtain ⟨mg, mz⟩ := held_cons.1 (show Held M ((gb, _) :: (s.hp (.pt gb 0) ++ ctx z3 gb)) from O.fz)
  obtain ⟨msh, mz3⟩ := held_app.1 mz
  have hC := @c_rotrL1 nx gb n c w.b p.b q.b bt q_bt e ec w.e p.e q.e eg (.pt n 0) w.lc w.rc (.pt c 0) p.lc p.rc (.pt c 0) q.lc q.rc (paZ z3) (.pt s.b 0) h e.id hc ec.id w.h w.e.id p.h p.e.id q.h q.e.id hg eg.id q_g q_n q_c q_w q_p q_q (of_eq_false z_g_n) (of_eq_false z_g_c) (of_eq_false z_g_w) (of_eq_false z_g_p) (of_eq_false z_g_q) (of_eq_false z_n_c) (of_eq_false z_n_w) (of_eq_false z_n_p) (of_eq_false z_n_q) (of_eq_false z_c_w) (of_eq_false z_c_p) (of_eq_false z_c_q) (of_eq_false z_w_p) (of_eq_false z_w_q) (of_eq_false z_p_q) (lc_lt Kp) (lc_lt Kq) (lc_lt Kw) (pa_lt Kz) (Lt.pt _ _ q_c) (Lt.pt _ _ q_c) (Lt.pt _ _ q_n) (Lt.pt _ _ q_s) (rc_lt Kp) (rc_lt Kq) (rc_lt Kw) b1 b2 b3 sw
  have hko : keysOk ([(gb, .var (.agg [.i eg.x, .i eg.y, .i eg.u, .i eg.w, (paZ z3), .pt c 0, (.pt s.b 0), .i hg, .i eg.id])), (n, .var (.agg [.i (uniE w.e p.e).x, .i (uniE w.e p.e).y, .i (uniE w.e p.e).u, .i (uniE w.e p.e).w, .pt c 0, .pt w.b 0, .pt p.b 0, .i (1 + imax w.h p.h), .i e.id])), (c, .var (.agg [.i (uniE q.e (uniE w.e p.e)).x, .i (uniE q.e (uniE w.e p.e)).y, .i (uniE q.e (uniE w.e p.e)).u, .i (uniE q.e (uniE w.e p.e)).w, .pt gb 0, .pt q.b 0, .pt n 0, .i (1 + imax q.h (1 + imax w.h p.h)), .i ec.id])), (w.b, .var (.agg [.i w.e.x, .i w.e.y, .i w.e.u, .i w.e.w, .pt n 0, w.lc, w.rc, .i w.h, .i w.e.id])), (p.b, .var (.agg [.i p.e.x, .i p.e.y, .i p.e.u, .i p.e.w, .pt n 0, p.lc, p.rc, .i p.h, .i p.e.id])), (q.b, .var (.agg [.i q.e.x, .i q.e.y, .i q.e.u, .i q.e.w, .pt c 0, q.lc, q.rc, .i q.h, .i q.e.id]))] : HH) = true := by simp [keysOk, z_g_n, z_g_c, z_g_w, z_g_p, z_g_q, z_n_c, z_n_w, z_n_p, z_n_q, z_c_w, z_c_p, z_c_q, z_w_p, z_w_q, z_p_q]
  refine ⟨[(gb, .var (.agg [.i eg.x, .i eg.y, .i eg.u, .i eg.w, (paZ z3), .pt c 0, (.pt s.b 0), .i hg, .i eg.id])), (n, .var (.agg [.i (uniE w.e p.e).x, .i (uniE w.e p.e).y, .i (uniE w.e p.e).u, .i (uniE w.e p.e).w, .pt c 0, .pt w.b 0, .pt p.b 0, .i (1 + imax w.h p.h), .i e.id])), (c, .var (.agg [.i (uniE q.e (uniE w.e p.e)).x, .i (uniE q.e (uniE w.e p.e)).y, .i (uniE q.e (uniE w.e p.e)).u, .i (uniE q.e (uniE w.e p.e)).w, .pt gb 0, .pt q.b 0, .pt n 0, .i (1 + imax q.h (1 + imax w.h p.h)), .i ec.id])), (w.b, .var (.agg [.i w.e.x, .i w.e.y, .i w.e.u, .i w.e.w, .pt n 0, w.lc, w.rc, .i w.h, .i w.e.id])), (p.b, .var (.agg [.i p.e.x, .i p.e.y, .i p.e.u, .i p.e.w, .pt n 0, p.lc, p.rc, .i p.h, .i p.e.id])), (q.b, .var (.agg [.i q.e.x, .i q.e.y, .i q.e.u, .i q.e.w, .pt c 0, q.lc, q.rc, .i q.h, .i q.e.id]))], [gb, n, c, w.b, p.b, q.b], hC.congr (fun k hk' => ?_), ?_⟩
  · simp only [List.mem_cons, List.not_mem_nil, or_false] at hk'
    rcases hk' with rfl | rfl | rfl | rfl | rfl | rfl
    · refine mg.trans ?_
      simp only [hk_cons, z_g_n, z_g_c, z_g_w, z_g_p, z_g_q, if_true, if_false]
      try rfl
    · refine mn.trans ?_
      simp only [hk_cons, z_n_g, z_n_c, z_n_w, z_n_p, z_n_q, if_true, if_false]
      try rfl
    · refine mc.trans ?_
      simp only [hk_cons, z_c_g, z_c_n, z_c_w, z_c_p, z_c_q, if_true, if_false]
      try rfl
    · refine mw.trans ?_
      simp only [hk_cons, z_w_g, z_w_n, z_w_c, z_w_p, z_w_q, if_true, if_false]
      try rfl
    · refine mp.trans ?_
      simp only [hk_cons, z_p_g, z_p_n, z_p_c, z_p_w, z_p_q, if_true, if_false]
      try rfl
    · refine mq.trans ?_
      simp only [hk_cons, z_q_g, z_q_n, z_q_c, z_q_w, z_q_p, if_true, if_false]
      try rfl
  · have hr : NT.rot n (.nd c ec hc p q) w = NT.fr c q (NT.fr n w p) := if_pos sw
    rw [hr]
    have up := mpk.upd (wb := [(gb, .var (.agg [.i eg.x, .i eg.y, .i eg.u, .i eg.w, (paZ z3), .pt c 0, (.pt s.b 0), .i hg, .i eg.id])), (n, .var (.agg [.i (uniE w.e p.e).x, .i (uniE w.e p.e).y, .i (uniE w.e p.e).u, .i (uniE w.e p.e).w, .pt c 0, .pt w.b 0, .pt p.b 0, .i (1 + imax w.h p.h), .i e.id])), (c, .var (.agg [.i (uniE q.e (uniE w.e p.e)).x, .i (uniE q.e (uniE w.e p.e)).y, .i (uniE q.e (uniE w.e p.e)).u, .i (uniE q.e (uniE w.e p.e)).w, .pt gb 0, .pt q.b 0, .pt n 0, .i (1 + imax q.h (1 + imax w.h p.h)), .i ec.id])), (w.b, .var (.agg [.i w.e.x, .i w.e.y, .i w.e.u, .i w.e.w, .pt n 0, w.lc, w.rc, .i w.h, .i w.e.id])), (p.b, .var (.agg [.i p.e.x, .i p.e.y, .i p.e.u, .i p.e.w, .pt n 0, p.lc, p.rc, .i p.h, .i p.e.id])), (q.b, .var (.agg [.i q.e.x, .i q.e.y, .i q.e.u, .i q.e.w, .pt c 0, q.lc, q.rc, .i q.h, .i q.e.id]))]) (fun b hb => by
      rw [show (p.kids.map (·.1)) = p.kns from rfl] at hb
      simp only [List.map_cons, List.map_nil, List.mem_cons, List.not_mem_nil, or_false, not_or]
      exact ⟨(D 6 9 (Nat.le_of_ble_eq_true rfl) (Nat.le_of_ble_eq_true rfl) (by decide) _ hb _ (List.mem_singleton.2 rfl)), (Ne.symm (D 1 6 (Nat.le_of_ble_eq_true rfl) (Nat.le_of_ble_eq_true rfl) (by decide) _ (List.mem_singleton.2 rfl) _ hb)), (Ne.symm (D 4 6 (Nat.le_of_ble_eq_true rfl) (Nat.le_of_ble_eq_true rfl) (by decide) _ (List.mem_singleton.2 rfl) _ hb)), (Ne.symm (D 2 6 (Nat.le_of_ble_eq_true rfl) (Nat.le_of_ble_eq_true rfl) (by decide) _ (List.mem_singleton.2 rfl) _ hb)), (Ne.symm (D 5 6 (Nat.le_of_ble_eq_true rfl) (Nat.le_of_ble_eq_true rfl) (by decide) _ (List.mem_singleton.2 rfl) _ hb)), (D 6 7 (Nat.le_of_ble_eq_true rfl) (Nat.le_of_ble_eq_true rfl) (by decide) _ hb _ (List.mem_singleton.2 rfl))⟩)
    have uq := mqk.upd (wb := [(gb, .var (.agg [.i eg.x, .i eg.y, .i eg.u, .i eg.w, (paZ z3), .pt c 0, (.pt s.b 0), .i hg, .i eg.id])), (n, .var (.agg [.i (uniE w.e p.e).x, .i (uniE w.e p.e).y, .i (uniE w.e p.e).u, .i (uniE w.e p.e).w, .pt c 0, .pt w.b 0, .pt p.b 0, .i (1 + imax w.h p.h), .i e.id])), (c, .var (.agg [.i (uniE q.e (uniE w.e p.e)).x, .i (uniE q.e (uniE w.e p.e)).y, .i (uniE q.e (uniE w.e p.e)).u, .i (uniE q.e (uniE w.e p.e)).w, .pt gb 0, .pt q.b 0, .pt n 0, .i (1 + imax q.h (1 + imax w.h p.h)), .i ec.id])), (w.b, .var (.agg [.i w.e.x, .i w.e.y, .i w.e.u, .i w.e.w, .pt n 0, w.lc, w.rc, .i w.h, .i w.e.id])), (p.b, .var (.agg [.i p.e.x, .i p.e.y, .i p.e.u, .i p.e.w, .pt n 0, p.lc, p.rc, .i p.h, .i p.e.id])), (q.b, .var (.agg [.i q.e.x, .i q.e.y, .i q.e.u, .i q.e.w, .pt c 0, q.lc, q.rc, .i q.h, .i q.e.id]))]) (fun b hb => by
      rw [show (q.kids.map (·.1)) = q.kns from rfl] at hb
      simp only [List.map_cons, List.map_nil, List.mem_cons, List.not_mem_nil, or_false, not_or]
      exact ⟨(D 8 9 (Nat.le_of_ble_eq_true rfl) (Nat.le_of_ble_eq_true rfl) (by decide) _ hb _ (List.mem_singleton.2 rfl)), (Ne.symm (D 1 8 (Nat.le_of_ble_eq_true rfl) (Nat.le_of_ble_eq_true rfl) (by decide) _ (List.mem_singleton.2 rfl) _ hb)), (Ne.symm (D 4 8 (Nat.le_of_ble_eq_true rfl) (Nat.le_of_ble_eq_true rfl) (by decide) _ (List.mem_singleton.2 rfl) _ hb)), (Ne.symm (D 2 8 (Nat.le_of_ble_eq_true rfl) (Nat.le_of_ble_eq_true rfl) (by decide) _ (List.mem_singleton.2 rfl) _ hb)), (Ne.symm (D 5 8 (Nat.le_of_ble_eq_true rfl) (Nat.le_of_ble_eq_true rfl) (by decide) _ (List.mem_singleton.2 rfl) _ hb)), (Ne.symm (D 7 8 (Nat.le_of_ble_eq_true rfl) (Nat.le_of_ble_eq_true rfl) (by decide) _ (List.mem_singleton.2 rfl) _ hb))⟩)
    have uw := mwk.upd (wb := [(gb, .var (.agg [.i eg.x, .i eg.y, .i eg.u, .i eg.w, (paZ z3), .pt c 0, (.pt s.b 0), .i hg, .i eg.id])), (n, .var (.agg [.i (uniE w.e p.e).x, .i (uniE w.e p.e).y, .i (uniE w.e p.e).u, .i (uniE w.e p.e).w, .pt c 0, .pt w.b 0, .pt p.b 0, .i (1 + imax w.h p.h), .i e.id])), (c, .var (.agg [.i (uniE q.e (uniE w.e p.e)).x, .i (uniE q.e (uniE w.e p.e)).y, .i (uniE q.e (uniE w.e p.e)).u, .i (uniE q.e (uniE w.e p.e)).w, .pt gb 0, .pt q.b 0, .pt n 0, .i (1 + imax q.h (1 + imax w.h p.h)), .i ec.id])), (w.b, .var (.agg [.i w.e.x, .i w.e.y, .i w.e.u, .i w.e.w, .pt n 0, w.lc, w.rc, .i w.h, .i w.e.id])), (p.b, .var (.agg [.i p.e.x, .i p.e.y, .i p.e.u, .i p.e.w, .pt n 0, p.lc, p.rc, .i p.h, .i p.e.id])), (q.b, .var (.agg [.i q.e.x, .i q.e.y, .i q.e.u, .i q.e.w, .pt c 0, q.lc, q.rc, .i q.h, .i q.e.id]))]) (fun b hb => by
      rw [show (w.kids.map (·.1)) = w.kns from rfl] at hb
      simp only [List.map_cons, List.map_nil, List.mem_cons, List.not_mem_nil, or_false, not_or]
      exact ⟨(D 3 9 (Nat.le_of_ble_eq_true rfl) (Nat.le_of_ble_eq_true rfl) (by decide) _ hb _ (List.mem_singleton.2 rfl)), (Ne.symm (D 1 3 (Nat.le_of_ble_eq_true rfl) (Nat.le_of_ble_eq_true rfl) (by decide) _ (List.mem_singleton.2 rfl) _ hb)), (D 3 4 (Nat.le_of_ble_eq_true rfl) (Nat.le_of_ble_eq_true rfl) (by decide) _ hb _ (List.mem_singleton.2 rfl)), (Ne.symm (D 2 3 (Nat.le_of_ble_eq_true rfl) (Nat.le_of_ble_eq_true rfl) (by decide) _ (List.mem_singleton.2 rfl) _ hb)), (D 3 5 (Nat.le_of_ble_eq_true rfl) (Nat.le_of_ble_eq_true rfl) (by decide) _ hb _ (List.mem_singleton.2 rfl)), (D 3 7 (Nat.le_of_ble_eq_true rfl) (Nat.le_of_ble_eq_true rfl) (by decide) _ hb _ (List.mem_singleton.2 rfl))⟩)
    have uz := mz3.upd (wb := [(gb, .var (.agg [.i eg.x, .i eg.y, .i eg.u, .i eg.w, (paZ z3), .pt c 0, (.pt s.b 0), .i hg, .i eg.id])), (n, .var (.agg [.i (uniE w.e p.e).x, .i (uniE w.e p.e).y, .i (uniE w.e p.e).u, .i (uniE w.e p.e).w, .pt c 0, .pt w.b 0, .pt p.b 0, .i (1 + imax w.h p.h), .i e.id])), (c, .var (.agg [.i (uniE q.e (uniE w.e p.e)).x, .i (uniE q.e (uniE w.e p.e)).y, .i (uniE q.e (uniE w.e p.e)).u, .i (uniE q.e (uniE w.e p.e)).w, .pt gb 0, .pt q.b 0, .pt n 0, .i (1 + imax q.h (1 + imax w.h p.h)), .i ec.id])), (w.b, .var (.agg [.i w.e.x, .i w.e.y, .i w.e.u, .i w.e.w, .pt n 0, w.lc, w.rc, .i w.h, .i w.e.id])), (p.b, .var (.agg [.i p.e.x, .i p.e.y, .i p.e.u, .i p.e.w, .pt n 0, p.lc, p.rc, .i p.h, .i p.e.id])), (q.b, .var (.agg [.i q.e.x, .i q.e.y, .i q.e.u, .i q.e.w, .pt c 0, q.lc, q.rc, .i q.h, .i q.e.id]))]) (fun b hb => by
      rw [ctx_nos] at hb
      simp only [List.map_cons, List.map_nil, List.mem_cons, List.not_mem_nil, or_false, not_or]
      exact ⟨(Ne.symm (D 9 12 (Nat.le_of_ble_eq_true rfl) (Nat.le_of_ble_eq_true rfl) (by decide) _ (List.mem_singleton.2 rfl) _ hb)), (Ne.symm (D 1 12 (Nat.le_of_ble_eq_true rfl) (Nat.le_of_ble_eq_true rfl) (by decide) _ (List.mem_singleton.2 rfl) _ hb)), (Ne.symm (D 4 12 (Nat.le_of_ble_eq_true rfl) (Nat.le_of_ble_eq_true rfl) (by decide) _ (List.mem_singleton.2 rfl) _ hb)), (Ne.symm (D 2 12 (Nat.le_of_ble_eq_true rfl) (Nat.le_of_ble_eq_true rfl) (by decide) _ (List.mem_singleton.2 rfl) _ hb)), (Ne.symm (D 5 12 (Nat.le_of_ble_eq_true rfl) (Nat.le_of_ble_eq_true rfl) (by decide) _ (List.mem_singleton.2 rfl) _ hb)), (Ne.symm (D 7 12 (Nat.le_of_ble_eq_true rfl) (Nat.le_of_ble_eq_true rfl) (by decide) _ (List.mem_singleton.2 rfl) _ hb))⟩)
    have us := msh.upd (wb := [(gb, .var (.agg [.i eg.x, .i eg.y, .i eg.u, .i eg.w, (paZ z3), .pt c 0, (.pt s.b 0), .i hg, .i eg.id])), (n, .var (.agg [.i (uniE w.e p.e).x, .i (uniE w.e p.e).y, .i (uniE w.e p.e).u, .i (uniE w.e p.e).w, .pt c 0, .pt w.b 0, .pt p.b 0, .i (1 + imax w.h p.h), .i e.id])), (c, .var (.agg [.i (uniE q.e (uniE w.e p.e)).x, .i (uniE q.e (uniE w.e p.e)).y, .i (uniE q.e (uniE w.e p.e)).u, .i (uniE q.e (uniE w.e p.e)).w, .pt gb 0, .pt q.b 0, .pt n 0, .i (1 + imax q.h (1 + imax w.h p.h)), .i ec.id])), (w.b, .var (.agg [.i w.e.x, .i w.e.y, .i w.e.u, .i w.e.w, .pt n 0, w.lc, w.rc, .i w.h, .i w.e.id])), (p.b, .var (.agg [.i p.e.x, .i p.e.y, .i p.e.u, .i p.e.w, .pt n 0, p.lc, p.rc, .i p.h, .i p.e.id])), (q.b, .var (.agg [.i q.e.x, .i q.e.y, .i q.e.u, .i q.e.w, .pt c 0, q.lc, q.rc, .i q.h, .i q.e.id]))]) (fun b hb => by
      rw [NT.hp_nos, NT.nos_eq, List.mem_cons] at hb
      simp only [List.map_cons, List.map_nil, List.mem_cons, List.not_mem_nil, or_false, not_or]
      rcases hb with rfl | hb
      · exact ⟨(Ne.symm (D 9 10 (Nat.le_of_ble_eq_true rfl) (Nat.le_of_ble_eq_true rfl) (by decide) _ (List.mem_singleton.2 rfl) _ (List.mem_singleton.2 rfl))), (Ne.symm (D 1 10 (Nat.le_of_ble_eq_true rfl) (Nat.le_of_ble_eq_true rfl) (by decide) _ (List.mem_singleton.2 rfl) _ (List.mem_singleton.2 rfl))), (Ne.symm (D 4 10 (Nat.le_of_ble_eq_true rfl) (Nat.le_of_ble_eq_true rfl) (by decide) _ (List.mem_singleton.2 rfl) _ (List.mem_singleton.2 rfl))), (Ne.symm (D 2 10 (Nat.le_of_ble_eq_true rfl) (Nat.le_of_ble_eq_true rfl) (by decide) _ (List.mem_singleton.2 rfl) _ (List.mem_singleton.2 rfl))), (Ne.symm (D 5 10 (Nat.le_of_ble_eq_true rfl) (Nat.le_of_ble_eq_true rfl) (by decide) _ (List.mem_singleton.2 rfl) _ (List.mem_singleton.2 rfl))), (Ne.symm (D 7 10 (Nat.le_of_ble_eq_true rfl) (Nat.le_of_ble_eq_true rfl) (by decide) _ (List.mem_singleton.2 rfl) _ (List.mem_singleton.2 rfl)))⟩
      · exact ⟨(Ne.symm (D 9 11 (Nat.le_of_ble_eq_true rfl) (Nat.le_of_ble_eq_true rfl) (by decide) _ (List.mem_singleton.2 rfl) _ hb)), (Ne.symm (D 1 11 (Nat.le_of_ble_eq_true rfl) (Nat.le_of_ble_eq_true rfl) (by decide) _ (List.mem_singleton.2 rfl) _ hb)), (Ne.symm (D 4 11 (Nat.le_of_ble_eq_true rfl) (Nat.le_of_ble_eq_true rfl) (by decide) _ (List.mem_singleton.2 rfl) _ hb)), (Ne.symm (D 2 11 (Nat.le_of_ble_eq_true rfl) (Nat.le_of_ble_eq_true rfl) (by decide) _ (List.mem_singleton.2 rfl) _ hb)), (Ne.symm (D 5 11 (Nat.le_of_ble_eq_true rfl) (Nat.le_of_ble_eq_true rfl) (by decide) _ (List.mem_singleton.2 rfl) _ hb)), (Ne.symm (D 7 11 (Nat.le_of_ble_eq_true rfl) (Nat.le_of_ble_eq_true rfl) (by decide) _ (List.mem_singleton.2 rfl) _ hb))⟩)
    refine ⟨(updL_other _ _ _ (by simp only [List.map_cons, List.map_nil, List.mem_cons, List.not_mem_nil, or_false, not_or]; exact ⟨(D 0 9 (Nat.le_of_ble_eq_true rfl) (Nat.le_of_ble_eq_true rfl) (by decide) _ (List.mem_singleton.2 rfl) _ (List.mem_singleton.2 rfl)), (D 0 1 (Nat.le_of_ble_eq_true rfl) (Nat.le_of_ble_eq_true rfl) (by decide) _ (List.mem_singleton.2 rfl) _ (List.mem_singleton.2 rfl)), (D 0 4 (Nat.le_of_ble_eq_true rfl) (Nat.le_of_ble_eq_true rfl) (by decide) _ (List.mem_singleton.2 rfl) _ (List.mem_singleton.2 rfl)), (D 0 2 (Nat.le_of_ble_eq_true rfl) (Nat.le_of_ble_eq_true rfl) (by decide) _ (List.mem_singleton.2 rfl) _ (List.mem_singleton.2 rfl)), (D 0 5 (Nat.le_of_ble_eq_true rfl) (Nat.le_of_ble_eq_true rfl) (by decide) _ (List.mem_singleton.2 rfl) _ (List.mem_singleton.2 rfl)), (D 0 7 (Nat.le_of_ble_eq_true rfl) (Nat.le_of_ble_eq_true rfl) (by decide) _ (List.mem_singleton.2 rfl) _ (List.mem_singleton.2 rfl))⟩)).trans mt, held_cons.2 ⟨upd_at hko (by simp only [hk_cons, z_c_g, z_c_n, z_c_w, z_c_p, z_c_q, if_true, if_false]; simp only [NT.top, ndB, NT.fr, NT.e, NT.h, NT.lc, NT.rc, NT.b, NT.uni_id, hec]; try rfl), held_app.2 ⟨held_hp.2 ⟨upd_at hko (by simp only [hk_cons, z_q_g, z_q_n, z_q_c, z_q_w, z_q_p, if_true, if_false]; try rfl), uq⟩, held_cons.2 ⟨upd_at hko (by simp only [hk_cons, z_n_g, z_n_c, z_n_w, z_n_p, z_n_q, if_true, if_false]; simp only [NT.top, ndB, NT.e, NT.h, NT.lc, NT.rc, NT.b, NT.uni_id, he]; try rfl), held_app.2 ⟨held_hp.2 ⟨upd_at hko (by simp only [hk_cons, z_w_g, z_w_n, z_w_c, z_w_p, z_w_q, if_true, if_false]; try rfl), uw⟩, held_hp.2 ⟨upd_at hko (by simp only [hk_cons, z_p_g, z_p_n, z_p_c, z_p_w, z_p_q, if_true, if_false]; try rfl), up⟩⟩⟩⟩⟩, held_cons.2 ⟨upd_at hko (by simp only [hk_cons, z_g_n, z_g_c, z_g_w, z_g_p, z_g_q, if_true, if_false]; try rfl), held_app.2 ⟨us, uz⟩⟩⟩
set_option maxHeartbeats 4000000 in
theorem rz_rR0 {nx bt bm n c : Nat} {e ec : En} {h hc : Int} {p q w : NT} {M : Nat → Option ABox} {gb : Nat} {eg : En} {hg : Int} {s : NT} {z3 : List Fr} (q_bm : bm < nx) (O : Opn nx M bt bm n e h w (.nd c ec hc p q) (⟨false, gb, eg, hg, s⟩ :: z3)) (he : e.id = 0) (hec : ec.id = 0) (b1 : 0 ≤ w.h ∧ w.h ≤ 900) (b2 : 0 ≤ p.h ∧ p.h ≤ 900) (b3 : 0 ≤ q.h ∧ q.h ≤ 900) (sw : ¬ p.h < q.h) :
    ∃ wb rb, CallS Try.prog M nx 49 [.pt bt 0, .pt n 0, .pt c 0] ⟨.pt c 0, wb, 0, rb⟩ ∧ Cls (updL M wb) bt bm (NT.rot n (.nd c ec hc p q) w) (⟨false, gb, eg, hg, s⟩ :: z3) := by
  have e0 : ([[bt], [n], [w.b], w.kns, [c], [p.b], p.kns, [q.b], q.kns, [gb], [s.b], s.kns, cns z3] : List (List Nat)).flatten = bt :: n :: ((NT.nos w) ++ ((NT.nos (.nd c ec hc p q)) ++ cns (⟨false, gb, eg, hg, s⟩ :: z3))) := by simp [NT.nos, NT.nos_eq, cns]
  have hnd : ([[bt], [n], [w.b], w.kns, [c], [p.b], p.kns, [q.b], q.kns, [gb], [s.b], s.kns, cns z3] : List (List Nat)).flatten.Nodup := by rw [e0]; exact O.fd
  have D := List.pairwise_iff_getElem.1 (List.pairwise_flatten.1 hnd).2
  have L : ∀ k ∈ ([[bt], [n], [w.b], w.kns, [c], [p.b], p.kns, [q.b], q.kns, [gb], [s.b], s.kns, cns z3] : List (List Nat)).flatten, k < nx := by rw [e0]; exact O.flt
  clear hnd e0
  have q_bt : bt < nx := L _ (by simp)
  have q_n : n < nx := L _ (by simp)
  have q_w : w.b < nx := L _ (by simp)
  have q_c : c < nx := L _ (by simp)
  have q_p : p.b < nx := L _ (by simp)
  have q_q : q.b < nx := L _ (by simp)
  have q_g : gb < nx := L _ (by simp)
  have q_s : s.b < nx := L _ (by simp)
  have Kw : ∀ k ∈ w.kns, k < nx := fun k hk => L k (by simp [hk])
  have Kp : ∀ k ∈ p.kns, k < nx := fun k hk => L k (by simp [hk])
  have Kq : ∀ k ∈ q.kns, k < nx := fun k hk => L k (by simp [hk])
  have Ks : ∀ k ∈ s.kns, k < nx := fun k hk => L k (by simp [hk])
  have Kz : ∀ k ∈ cns z3, k < nx := fun k hk => L k (by simp [hk])
  have z_g_s : (gb = s.b) = False := eq_false (D 9 10 (Nat.le_of_ble_eq_true rfl) (Nat.le_of_ble_eq_true rfl) (by decide) _ (List.mem_singleton.2 rfl) _ (List.mem_singleton.2 rfl))
  have z_g_n : (gb = n) = False := eq_false (Ne.symm (D 1 9 (Nat.le_of_ble_eq_true rfl) (Nat.le_of_ble_eq_true rfl) (by decide) _ (List.mem_singleton.2 rfl) _ (List.mem_singleton.2 rfl)))
  have z_g_c : (gb = c) = False := eq_false (Ne.symm (D 4 9 (Nat.le_of_ble_eq_true rfl) (Nat.le_of_ble_eq_true rfl) (by decide) _ (List.mem_singleton.2 rfl) _ (List.mem_singleton.2 rfl)))
  have z_g_w : (gb = w.b) = False := eq_false (Ne.symm (D 2 9 (Nat.le_of_ble_eq_true rfl) (Nat.le_of_ble_eq_true rfl) (by decide) _ (List.mem_singleton.2 rfl) _ (List.mem_singleton.2 rfl)))
  have z_g_p : (gb = p.b) = False := eq_false (Ne.symm (D 5 9 (Nat.le_of_ble_eq_true rfl) (Nat.le_of_ble_eq_true rfl) (by decide) _ (List.mem_singleton.2 rfl) _ (List.mem_singleton.2 rfl)))
  have z_g_q : (gb = q.b) = False := eq_false (Ne.symm (D 7 9 (Nat.le_of_ble_eq_true rfl) (Nat.le_of_ble_eq_true rfl) (by decide) _ (List.mem_singleton.2 rfl) _ (List.mem_singleton.2 rfl)))
  have z_s_g : (s.b = gb) = False := eq_false (Ne.symm (D 9 10 (Nat.le_of_ble_eq_true rfl) (Nat.le_of_ble_eq_true rfl) (by decide) _ (List.mem_singleton.2 rfl) _ (List.mem_singleton.2 rfl)))
  have z_s_n : (s.b = n) = False := eq_false (Ne.symm (D 1 10 (Nat.le_of_ble_eq_true rfl) (Nat.le_of_ble_eq_true rfl) (by decide) _ (List.mem_singleton.2 rfl) _ (List.mem_singleton.2 rfl)))
  have z_s_c : (s.b = c) = False := eq_false (Ne.symm (D 4 10 (Nat.le_of_ble_eq_true rfl) (Nat.le_of_ble_eq_true rfl) (by decide) _ (List.mem_singleton.2 rfl) _ (List.mem_singleton.2 rfl)))
  have z_s_w : (s.b = w.b) = False := eq_false (Ne.symm (D 2 10 (Nat.le_of_ble_eq_true rfl) (Nat.le_of_ble_eq_true rfl) (by decide) _ (List.mem_singleton.2 rfl) _ (List.mem_singleton.2 rfl)))
  have z_s_p : (s.b = p.b) = False := eq_false (Ne.symm (D 5 10 (Nat.le_of_ble_eq_true rfl) (Nat.le_of_ble_eq_true rfl) (by decide) _ (List.mem_singleton.2 rfl) _ (List.mem_singleton.2 rfl)))
  have z_s_q : (s.b = q.b) = False := eq_false (Ne.symm (D 7 10 (Nat.le_of_ble_eq_true rfl) (Nat.le_of_ble_eq_true rfl) (by decide) _ (List.mem_singleton.2 rfl) _ (List.mem_singleton.2 rfl)))
  have z_n_g : (n = gb) = False := eq_false (D 1 9 (Nat.le_of_ble_eq_true rfl) (Nat.le_of_ble_eq_true rfl) (by decide) _ (List.mem_singleton.2 rfl) _ (List.mem_singleton.2 rfl))
  have z_n_s : (n = s.b) = False := eq_false (D 1 10 (Nat.le_of_ble_eq_true rfl) (Nat.le_of_ble_eq_true rfl) (by decide) _ (List.mem_singleton.2 rfl) _ (List.mem_singleton.2 rfl))
  have z_n_c : (n = c) = False := eq_false (D 1 4 (Nat.le_of_ble_eq_true rfl) (Nat.le_of_ble_eq_true rfl) (by decide) _ (List.mem_singleton.2 rfl) _ (List.mem_singleton.2 rfl))
  have z_n_w : (n = w.b) = False := eq_false (D 1 2 (Nat.le_of_ble_eq_true rfl) (Nat.le_of_ble_eq_true rfl) (by decide) _ (List.mem_singleton.2 rfl) _ (List.mem_singleton.2 rfl))
  have z_n_p : (n = p.b) = False := eq_false (D 1 5 (Nat.le_of_ble_eq_true rfl) (Nat.le_of_ble_eq_true rfl) (by decide) _ (List.mem_singleton.2 rfl) _ (List.mem_singleton.2 rfl))
  have z_n_q : (n = q.b) = False := eq_false (D 1 7 (Nat.le_of_ble_eq_true rfl) (Nat.le_of_ble_eq_true rfl) (by decide) _ (List.mem_singleton.2 rfl) _ (List.mem_singleton.2 rfl))
  have z_c_g : (c = gb) = False := eq_false (D 4 9 (Nat.le_of_ble_eq_true rfl) (Nat.le_of_ble_eq_true rfl) (by decide) _ (List.mem_singleton.2 rfl) _ (List.mem_singleton.2 rfl))
  have z_c_s : (c = s.b) = False := eq_false (D 4 10 (Nat.le_of_ble_eq_true rfl) (Nat.le_of_ble_eq_true rfl) (by decide) _ (List.mem_singleton.2 rfl) _ (List.mem_singleton.2 rfl))
  have z_c_n : (c = n) = False := eq_false (Ne.symm (D 1 4 (Nat.le_of_ble_eq_true rfl) (Nat.le_of_ble_eq_true rfl) (by decide) _ (List.mem_singleton.2 rfl) _ (List.mem_singleton.2 rfl)))
  have z_c_w : (c = w.b) = False := eq_false (Ne.symm (D 2 4 (Nat.le_of_ble_eq_true rfl) (Nat.le_of_ble_eq_true rfl) (by decide) _ (List.mem_singleton.2 rfl) _ (List.mem_singleton.2 rfl)))
  have z_c_p : (c = p.b) = False := eq_false (D 4 5 (Nat.le_of_ble_eq_true rfl) (Nat.le_of_ble_eq_true rfl) (by decide) _ (List.mem_singleton.2 rfl) _ (List.mem_singleton.2 rfl))
  have z_c_q : (c = q.b) = False := eq_false (D 4 7 (Nat.le_of_ble_eq_true rfl) (Nat.le_of_ble_eq_true rfl) (by decide) _ (List.mem_singleton.2 rfl) _ (List.mem_singleton.2 rfl))
  have z_w_g : (w.b = gb) = False := eq_false (D 2 9 (Nat.le_of_ble_eq_true rfl) (Nat.le_of_ble_eq_true rfl) (by decide) _ (List.mem_singleton.2 rfl) _ (List.mem_singleton.2 rfl))
  have z_w_s : (w.b = s.b) = False := eq_false (D 2 10 (Nat.le_of_ble_eq_true rfl) (Nat.le_of_ble_eq_true rfl) (by decide) _ (List.mem_singleton.2 rfl) _ (List.mem_singleton.2 rfl))
  have z_w_n : (w.b = n) = False := eq_false (Ne.symm (D 1 2 (Nat.le_of_ble_eq_true rfl) (Nat.le_of_ble_eq_true rfl) (by decide) _ (List.mem_singleton.2 rfl) _ (List.mem_singleton.2 rfl)))
  have z_w_c : (w.b = c) = False := eq_false (D 2 4 (Nat.le_of_ble_eq_true rfl) (Nat.le_of_ble_eq_true rfl) (by decide) _ (List.mem_singleton.2 rfl) _ (List.mem_singleton.2 rfl))
  have z_w_p : (w.b = p.b) = False := eq_false (D 2 5 (Nat.le_of_ble_eq_true rfl) (Nat.le_of_ble_eq_true rfl) (by decide) _ (List.mem_singleton.2 rfl) _ (List.mem_singleton.2 rfl))
  have z_w_q : (w.b = q.b) = False := eq_false (D 2 7 (Nat.le_of_ble_eq_true rfl) (Nat.le_of_ble_eq_true rfl) (by decide) _ (List.mem_singleton.2 rfl) _ (List.mem_singleton.2 rfl))
  have z_p_g : (p.b = gb) = False := eq_false (D 5 9 (Nat.le_of_ble_eq_true rfl) (Nat.le_of_ble_eq_true rfl) (by decide) _ (List.mem_singleton.2 rfl) _ (List.mem_singleton.2 rfl))
  have z_p_s : (p.b = s.b) = False := eq_false (D 5 10 (Nat.le_of_ble_eq_true rfl) (Nat.le_of_ble_eq_true rfl) (by decide) _ (List.mem_singleton.2 rfl) _ (List.mem_singleton.2 rfl))
  have z_p_n : (p.b = n) = False := eq_false (Ne.symm (D 1 5 (Nat.le_of_ble_eq_true rfl) (Nat.le_of_ble_eq_true rfl) (by decide) _ (List.mem_singleton.2 rfl) _ (List.mem_singleton.2 rfl)))
  have z_p_c : (p.b = c) = False := eq_false (Ne.symm (D 4 5 (Nat.le_of_ble_eq_true rfl) (Nat.le_of_ble_eq_true rfl) (by decide) _ (List.mem_singleton.2 rfl) _ (List.mem_singleton.2 rfl)))
  have z_p_w : (p.b = w.b) = False := eq_false (Ne.symm (D 2 5 (Nat.le_of_ble_eq_true rfl) (Nat.le_of_ble_eq_true rfl) (by decide) _ (List.mem_singleton.2 rfl) _ (List.mem_singleton.2 rfl)))
  have z_p_q : (p.b = q.b) = False := eq_false (D 5 7 (Nat.le_of_ble_eq_true rfl) (Nat.le_of_ble_eq_true rfl) (by decide) _ (List.mem_singleton.2 rfl) _ (List.mem_singleton.2 rfl))
  have z_q_g : (q.b = gb) = False := eq_false (D 7 9 (Nat.le_of_ble_eq_true rfl) (Nat.le_of_ble_eq_true rfl) (by decide) _ (List.mem_singleton.2 rfl) _ (List.mem_singleton.2 rfl))
  have z_q_s : (q.b = s.b) = False := eq_false (D 7 10 (Nat.le_of_ble_eq_true rfl) (Nat.le_of_ble_eq_true rfl) (by decide) _ (List.mem_singleton.2 rfl) _ (List.mem_singleton.2 rfl))
  have z_q_n : (q.b = n) = False := eq_false (Ne.symm (D 1 7 (Nat.le_of_ble_eq_true rfl) (Nat.le_of_ble_eq_true rfl) (by decide) _ (List.mem_singleton.2 rfl) _ (List.mem_singleton.2 rfl)))
  have z_q_c : (q.b = c) = False := eq_false (Ne.symm (D 4 7 (Nat.le_of_ble_eq_true rfl) (Nat.le_of_ble_eq_true rfl) (by decide) _ (List.mem_singleton.2 rfl) _ (List.mem_singleton.2 rfl)))
  have z_q_w : (q.b = w.b) = False := eq_false (Ne.symm (D 2 7 (Nat.le_of_ble_eq_true rfl) (Nat.le_of_ble_eq_true rfl) (by decide) _ (List.mem_singleton.2 rfl) _ (List.mem_singleton.2 rfl)))
  have z_q_p : (q.b = p.b) = False := eq_false (Ne.symm (D 5 7 (Nat.le_of_ble_eq_true rfl) (Nat.le_of_ble_eq_true rfl) (by decide) _ (List.mem_singleton.2 rfl) _ (List.mem_singleton.2 rfl)))
  have mt := O.ft
  have mn := O.fn
  obtain ⟨mc, ml⟩ := held_hp.1 O.fr
  obtain ⟨mp', mq'⟩ := held_app.1 (show Held M (p.hp (.pt c 0) ++ q.hp (.pt c 0)) from ml)
  obtain ⟨mp, mpk⟩ := held_hp.1 mp'
  obtain ⟨mq, mqk⟩ := held_hp.1 mq'
  obtain ⟨mw, mwk⟩ := held_hp.1 O.fl
  obtain ⟨mg, mz⟩ := held_cons.1 (show Held M ((gb, _) :: (s.hp (.pt gb 0) ++ ctx z3 gb)) from O.fz)
  obtain ⟨msh, mz3⟩ := held_app.1 mz
  obtain ⟨ms, msk⟩ := held_hp.1 msh
  have hC := @c_rotrR0 nx gb s.b n c w.b p.b q.b bt q_bt e ec w.e p.e q.e eg s.e (.pt n 0) w.lc w.rc (.pt c 0) p.lc p.rc (.pt c 0) q.lc q.rc (paZ z3) (.pt gb 0) s.lc s.rc h e.id hc ec.id w.h w.e.id p.h p.e.id q.h q.e.id hg eg.id s.h s.e.id q_g q_s q_n q_c q_w q_p q_q (of_eq_false z_g_s) (of_eq_false z_g_n) (of_eq_false z_g_c) (of_eq_false z_g_w) (of_eq_false z_g_p) (of_eq_false z_g_q) (of_eq_false z_s_n) (of_eq_false z_s_c) (of_eq_false z_s_w) (of_eq_false z_s_p) (of_eq_false z_s_q) (of_eq_false z_n_c) (of_eq_false z_n_w) (of_eq_false z_n_p) (of_eq_false z_n_q) (of_eq_false z_c_w) (of_eq_false z_c_p) (of_eq_false z_c_q) (of_eq_false z_w_p) (of_eq_false z_w_q) (of_eq_false z_p_q) (lc_lt Kp) (lc_lt Kq) (lc_lt Ks) (lc_lt Kw) (pa_lt Kz) (Lt.pt _ _ q_c) (Lt.pt _ _ q_c) (Lt.pt _ _ q_g) (Lt.pt _ _ q_n) (rc_lt Kp) (rc_lt Kq) (rc_lt Ks) (rc_lt Kw) b1 b2 b3 sw
  have hko : keysOk ([(gb, .var (.agg [.i eg.x, .i eg.y, .i eg.u, .i eg.w, (paZ z3), .pt s.b 0, .pt c 0, .i hg, .i eg.id])), (s.b, .var (.agg [.i s.e.x, .i s.e.y, .i s.e.u, .i s.e.w, (.pt gb 0), s.lc, s.rc, .i s.h, .i s.e.id])), (n, .var (.agg [.i (uniE w.e q.e).x, .i (uniE w.e q.e).y, .i (uniE w.e q.e).u, .i (uniE w.e q.e).w, .pt c 0, .pt w.b 0, .pt q.b 0, .i (1 + imax w.h q.h), .i e.id])), (c, .var (.agg [.i (uniE p.e (uniE w.e q.e)).x, .i (uniE p.e (uniE w.e q.e)).y, .i (uniE p.e (uniE w.e q.e)).u, .i (uniE p.e (uniE w.e q.e)).w, .pt gb 0, .pt p.b 0, .pt n 0, .i (1 + imax p.h (1 + imax w.h q.h)), .i ec.id])), (w.b, .var (.agg [.i w.e.x, .i w.e.y, .i w.e.u, .i w.e.w, .pt n 0, w.lc, w.rc, .i w.h, .i w.e.id])), (p.b, .var (.agg [.i p.e.x, .i p.e.y, .i p.e.u, .i p.e.w, .pt c 0, p.lc, p.rc, .i p.h, .i p.e.id])), (q.b, .var (.agg [.i q.e.x, .i q.e.y, .i q.e.u, .i q.e.w, .pt n 0, q.lc, q.rc, .i q.h, .i q.e.id]))] : HH) = true := by simp [keysOk, z_g_s, z_g_n, z_g_c, z_g_w, z_g_p, z_g_q, z_s_n, z_s_c, z_s_w, z_s_p, z_s_q, z_n_c, z_n_w, z_n_p, z_n_q, z_c_w, z_c_p, z_c_q, z_w_p, z_w_q, z_p_q]
  refine ⟨[(gb, .var (.agg [.i eg.x, .i eg.y, .i eg.u, .i eg.w, (paZ z3), .pt s.b 0, .pt c 0, .i hg, .i eg.id])), (s.b, .var (.agg [.i s.e.x, .i s.e.y, .i s.e.u, .i s.e.w, (.pt gb 0), s.lc, s.rc, .i s.h, .i s.e.id])), (n, .var (.agg [.i (uniE w.e q.e).x, .i (uniE w.e q.e).y, .i (uniE w.e q.e).u, .i (uniE w.e q.e).w, .pt c 0, .pt w.b 0, .pt q.b 0, .i (1 + imax w.h q.h), .i e.id])), (c, .var (.agg [.i (uniE p.e (uniE w.e q.e)).x, .i (uniE p.e (uniE w.e q.e)).y, .i (uniE p.e (uniE w.e q.e)).u, .i (uniE p.e (uniE w.e q.e)).w, .pt gb 0, .pt p.b 0, .pt n 0, .i (1 + imax p.h (1 + imax w.h q.h)), .i ec.id])), (w.b, .var (.agg [.i w.e.x, .i w.e.y, .i w.e.u, .i w.e.w, .pt n 0, w.lc, w.rc, .i w.h, .i w.e.id])), (p.b, .var (.agg [.i p.e.x, .i p.e.y, .i p.e.u, .i p.e.w, .pt c 0, p.lc, p.rc, .i p.h, .i p.e.id])), (q.b, .var (.agg [.i q.e.x, .i q.e.y, .i q.e.u, .i q.e.w, .pt n 0, q.lc, q.rc, .i q.h, .i q.e.id]))], [gb, s.b, n, c, w.b, p.b, q.b], hC.congr (fun k hk' => ?_), ?_⟩
  · simp only [List.mem_cons, List.not_mem_nil, or_false] at hk'
    rcases hk' with rfl | rfl | rfl | rfl | rfl | rfl | rfl
    · refine mg.trans ?_
      simp only [hk_cons, z_g_s, z_g_n, z_g_c, z_g_w, z_g_p, z_g_q, if_true, if_false]
      try rfl
    · refine ms.trans ?_
      simp only [hk_cons, z_s_g, z_s_n, z_s_c, z_s_w, z_s_p, z_s_q, if_true, if_false]
      try rfl
    · refine mn.trans ?_
      simp only [hk_cons, z_n_g, z_n_s, z_n_c, z_n_w, z_n_p, z_n_q, if_true, if_false]
      try rfl
    · refine mc.trans ?_
      simp only [hk_cons, z_c_g, z_c_s, z_c_n, z_c_w, z_c_p, z_c_q, if_true, if_false]
      try rfl
    · refine mw.trans ?_
      simp only [hk_cons, z_w_g, z_w_s, z_w_n, z_w_c, z_w_p, z_w_q, if_true, if_false]
      try rfl
    · refine mp.trans ?_
      simp only [hk_cons, z_p_g, z_p_s, z_p_n, z_p_c, z_p_w, z_p_q, if_true, if_false]
      try rfl
    · refine mq.trans ?_
      simp only [hk_cons, z_q_g, z_q_s, z_q_n, z_q_c, z_q_w, z_q_p, if_true, if_false]
      try rfl
  · have hr : NT.rot n (.nd c ec hc p q) w = NT.fr c p (NT.fr n w q) := if_neg sw
    rw [hr]
    have up := mpk.upd (wb := [(gb, .var (.agg [.i eg.x, .i eg.y, .i eg.u, .i eg.w, (paZ z3), .pt s.b 0, .pt c 0, .i hg, .i eg.id])), (s.b, .var (.agg [.i s.e.x, .i s.e.y, .i s.e.u, .i s.e.w, (.pt gb 0), s.lc, s.rc, .i s.h, .i s.e.id])), (n, .var (.agg [.i (uniE w.e q.e).x, .i (uniE w.e q.e).y, .i (uniE w.e q.e).u, .i (uniE w.e q.e).w, .pt c 0, .pt w.b 0, .pt q.b 0, .i (1 + imax w.h q.h), .i e.id])), (c, .var (.agg [.i (uniE p.e (uniE w.e q.e)).x, .i (uniE p.e (uniE w.e q.e)).y, .i (uniE p.e (uniE w.e q.e)).u, .i (uniE p.e (uniE w.e q.e)).w, .pt gb 0, .pt p.b 0, .pt n 0, .i (1 + imax p.h (1 + imax w.h q.h)), .i ec.id])), (w.b, .var (.agg [.i w.e.x, .i w.e.y, .i w.e.u, .i w.e.w, .pt n 0, w.lc, w.rc, .i w.h, .i w.e.id])), (p.b, .var (.agg [.i p.e.x, .i p.e.y, .i p.e.u, .i p.e.w, .pt c 0, p.lc, p.rc, .i p.h, .i p.e.id])), (q.b, .var (.agg [.i q.e.x, .i q.e.y, .i q.e.u, .i q.e.w, .pt n 0, q.lc, q.rc, .i q.h, .i q.e.id]))]) (fun b hb => by
      rw [show (p.kids.map (·.1)) = p.kns from rfl] at hb
      simp only [List.map_cons, List.map_nil, List.mem_cons, List.not_mem_nil, or_false, not_or]
      exact ⟨(D 6 9 (Nat.le_of_ble_eq_true rfl) (Nat.le_of_ble_eq_true rfl) (by decide) _ hb _ (List.mem_singleton.2 rfl)), (D 6 10 (Nat.le_of_ble_eq_true rfl) (Nat.le_of_ble_eq_true rfl) (by decide) _ hb _ (List.mem_singleton.2 rfl)), (Ne.symm (D 1 6 (Nat.le_of_ble_eq_true rfl) (Nat.le_of_ble_eq_true rfl) (by decide) _ (List.mem_singleton.2 rfl) _ hb)), (Ne.symm (D 4 6 (Nat.le_of_ble_eq_true rfl) (Nat.le_of_ble_eq_true rfl) (by decide) _ (List.mem_singleton.2 rfl) _ hb)), (Ne.symm (D 2 6 (Nat.le_of_ble_eq_true rfl) (Nat.le_of_ble_eq_true rfl) (by decide) _ (List.mem_singleton.2 rfl) _ hb)), (Ne.symm (D 5 6 (Nat.le_of_ble_eq_true rfl) (Nat.le_of_ble_eq_true rfl) (by decide) _ (List.mem_singleton.2 rfl) _ hb)), (D 6 7 (Nat.le_of_ble_eq_true rfl) (Nat.le_of_ble_eq_true rfl) (by decide) _ hb _ (List.mem_singleton.2 rfl))⟩)
    have uq := mqk.upd (wb := [(gb, .var (.agg [.i eg.x, .i eg.y, .i eg.u, .i eg.w, (paZ z3), .pt s.b 0, .pt c 0, .i hg, .i eg.id])), (s.b, .var (.agg [.i s.e.x, .i s.e.y, .i s.e.u, .i s.e.w, (.pt gb 0), s.lc, s.rc, .i s.h, .i s.e.id])), (n, .var (.agg [.i (uniE w.e q.e).x, .i (uniE w.e q.e).y, .i (uniE w.e q.e).u, .i (uniE w.e q.e).w, .pt c 0, .pt w.b 0, .pt q.b 0, .i (1 + imax w.h q.h), .i e.id])), (c, .var (.agg [.i (uniE p.e (uniE w.e q.e)).x, .i (uniE p.e (uniE w.e q.e)).y, .i (uniE p.e (uniE w.e q.e)).u, .i (uniE p.e (uniE w.e q.e)).w, .pt gb 0, .pt p.b 0, .pt n 0, .i (1 + imax p.h (1 + imax w.h q.h)), .i ec.id])), (w.b, .var (.agg [.i w.e.x, .i w.e.y, .i w.e.u, .i w.e.w, .pt n 0, w.lc, w.rc, .i w.h, .i w.e.id])), (p.b, .var (.agg [.i p.e.x, .i p.e.y, .i p.e.u, .i p.e.w, .pt c 0, p.lc, p.rc, .i p.h, .i p.e.id])), (q.b, .var (.agg [.i q.e.x, .i q.e.y, .i q.e.u, .i q.e.w, .pt n 0, q.lc, q.rc, .i q.h, .i q.e.id]))]) (fun b hb => by
      rw [show (q.kids.map (·.1)) = q.kns from rfl] at hb
      simp only [List.map_cons, List.map_nil, List.mem_cons, List.not_mem_nil, or_false, not_or]
      exact ⟨(D 8 9 (Nat.le_of_ble_eq_true rfl) (Nat.le_of_ble_eq_true rfl) (by decide) _ hb _ (List.mem_singleton.2 rfl)), (D 8 10 (Nat.le_of_ble_eq_true rfl) (Nat.le_of_ble_eq_true rfl) (by decide) _ hb _ (List.mem_singleton.2 rfl)), (Ne.symm (D 1 8 (Nat.le_of_ble_eq_true rfl) (Nat.le_of_ble_eq_true rfl) (by decide) _ (List.mem_singleton.2 rfl) _ hb)), (Ne.symm (D 4 8 (Nat.le_of_ble_eq_true rfl) (Nat.le_of_ble_eq_true rfl) (by decide) _ (List.mem_singleton.2 rfl) _ hb)), (Ne.symm (D 2 8 (Nat.le_of_ble_eq_true rfl) (Nat.le_of_ble_eq_true rfl) (by decide) _ (List.mem_singleton.2 rfl) _ hb)), (Ne.symm (D 5 8 (Nat.le_of_ble_eq_true rfl) (Nat.le_of_ble_eq_true rfl) (by decide) _ (List.mem_singleton.2 rfl) _ hb)), (Ne.symm (D 7 8 (Nat.le_of_ble_eq_true rfl) (Nat.le_of_ble_eq_true rfl) (by decide) _ (List.mem_singleton.2 rfl) _ hb))⟩)
    have uw := mwk.upd (wb := [(gb, .var (.agg [.i eg.x, .i eg.y, .i eg.u, .i eg.w, (paZ z3), .pt s.b 0, .pt c 0, .i hg, .i eg.id])), (s.b, .var (.agg [.i s.e.x, .i s.e.y, .i s.e.u, .i s.e.w, (.pt gb 0), s.lc, s.rc, .i s.h, .i s.e.id])), (n, .var (.agg [.i (uniE w.e q.e).x, .i (uniE w.e q.e).y, .i (uniE w.e q.e).u, .i (uniE w.e q.e).w, .pt c 0, .pt w.b 0, .pt q.b 0, .i (1 + imax w.h q.h), .i e.id])), (c, .var (.agg [.i (uniE p.e (uniE w.e q.e)).x, .i (uniE p.e (uniE w.e q.e)).y, .i (uniE p.e (uniE w.e q.e)).u, .i (uniE p.e (uniE w.e q.e)).w, .pt gb 0, .pt p.b 0, .pt n 0, .i (1 + imax p.h (1 + imax w.h q.h)), .i ec.id])), (w.b, .var (.agg [.i w.e.x, .i w.e.y, .i w.e.u, .i w.e.w, .pt n 0, w.lc, w.rc, .i w.h, .i w.e.id])), (p.b, .var (.agg [.i p.e.x, .i p.e.y, .i p.e.u, .i p.e.w, .pt c 0, p.lc, p.rc, .i p.h, .i p.e.id])), (q.b, .var (.agg [.i q.e.x, .i q.e.y, .i q.e.u, .i q.e.w, .pt n 0, q.lc, q.rc, .i q.h, .i q.e.id]))]) (fun b hb => by
      rw [show (w.kids.map (·.1)) = w.kns from rfl] at hb
      simp only [List.map_cons, List.map_nil, List.mem_cons, List.not_mem_nil, or_false, not_or]
      exact ⟨(D 3 9 (Nat.le_of_ble_eq_true rfl) (Nat.le_of_ble_eq_true rfl) (by decide) _ hb _ (List.mem_singleton.2 rfl)), (D 3 10 (Nat.le_of_ble_eq_true rfl) (Nat.le_of_ble_eq_true rfl) (by decide) _ hb _ (List.mem_singleton.2 rfl)), (Ne.symm (D 1 3 (Nat.le_of_ble_eq_true rfl) (Nat.le_of_ble_eq_true rfl) (by decide) _ (List.mem_singleton.2 rfl) _ hb)), (D 3 4 (Nat.le_of_ble_eq_true rfl) (Nat.le_of_ble_eq_true rfl) (by decide) _ hb _ (List.mem_singleton.2 rfl)), (Ne.symm (D 2 3 (Nat.le_of_ble_eq_true rfl) (Nat.le_of_ble_eq_true rfl) (by decide) _ (List.mem_singleton.2 rfl) _ hb)), (D 3 5 (Nat.le_of_ble_eq_true rfl) (Nat.le_of_ble_eq_true rfl) (by decide) _ hb _ (List.mem_singleton.2 rfl)), (D 3 7 (Nat.le_of_ble_eq_true rfl) (Nat.le_of_ble_eq_true rfl) (by decide) _ hb _ (List.mem_singleton.2 rfl))⟩)
    have uz := mz3.upd (wb := [(gb, .var (.agg [.i eg.x, .i eg.y, .i eg.u, .i eg.w, (paZ z3), .pt s.b 0, .pt c 0, .i hg, .i eg.id])), (s.b, .var (.agg [.i s.e.x, .i s.e.y, .i s.e.u, .i s.e.w, (.pt gb 0), s.lc, s.rc, .i s.h, .i s.e.id])), (n, .var (.agg [.i (uniE w.e q.e).x, .i (uniE w.e q.e).y, .i (uniE w.e q.e).u, .i (uniE w.e q.e).w, .pt c 0, .pt w.b 0, .pt q.b 0, .i (1 + imax w.h q.h), .i e.id])), (c, .var (.agg [.i (uniE p.e (uniE w.e q.e)).x, .i (uniE p.e (uniE w.e q.e)).y, .i (uniE p.e (uniE w.e q.e)).u, .i (uniE p.e (uniE w.e q.e)).w, .pt gb 0, .pt p.b 0, .pt n 0, .i (1 + imax p.h (1 + imax w.h q.h)), .i ec.id])), (w.b, .var (.agg [.i w.e.x, .i w.e.y, .i w.e.u, .i w.e.w, .pt n 0, w.lc, w.rc, .i w.h, .i w.e.id])), (p.b, .var (.agg [.i p.e.x, .i p.e.y, .i p.e.u, .i p.e.w, .pt c 0, p.lc, p.rc, .i p.h, .i p.e.id])), (q.b, .var (.agg [.i q.e.x, .i q.e.y, .i q.e.u, .i q.e.w, .pt n 0, q.lc, q.rc, .i q.h, .i q.e.id]))]) (fun b hb => by
      rw [ctx_nos] at hb
      simp only [List.map_cons, List.map_nil, List.mem_cons, List.not_mem_nil, or_false, not_or]
      exact ⟨(Ne.symm (D 9 12 (Nat.le_of_ble_eq_true rfl) (Nat.le_of_ble_eq_true rfl) (by decide) _ (List.mem_singleton.2 rfl) _ hb)), (Ne.symm (D 10 12 (Nat.le_of_ble_eq_true rfl) (Nat.le_of_ble_eq_true rfl) (by decide) _ (List.mem_singleton.2 rfl) _ hb)), (Ne.symm (D 1 12 (Nat.le_of_ble_eq_true rfl) (Nat.le_of_ble_eq_true rfl) (by decide) _ (List.mem_singleton.2 rfl) _ hb)), (Ne.symm (D 4 12 (Nat.le_of_ble_eq_true rfl) (Nat.le_of_ble_eq_true rfl) (by decide) _ (List.mem_singleton.2 rfl) _ hb)), (Ne.symm (D 2 12 (Nat.le_of_ble_eq_true rfl) (Nat.le_of_ble_eq_true rfl) (by decide) _ (List.mem_singleton.2 rfl) _ hb)), (Ne.symm (D 5 12 (Nat.le_of_ble_eq_true rfl) (Nat.le_of_ble_eq_true rfl) (by decide) _ (List.mem_singleton.2 rfl) _ hb)), (Ne.symm (D 7 12 (Nat.le_of_ble_eq_true rfl) (Nat.le_of_ble_eq_true rfl) (by decide) _ (List.mem_singleton.2 rfl) _ hb))⟩)
    have usk := msk.upd (wb := [(gb, .var (.agg [.i eg.x, .i eg.y, .i eg.u, .i eg.w, (paZ z3), .pt s.b 0, .pt c 0, .i hg, .i eg.id])), (s.b, .var (.agg [.i s.e.x, .i s.e.y, .i s.e.u, .i s.e.w, (.pt gb 0), s.lc, s.rc, .i s.h, .i s.e.id])), (n, .var (.agg [.i (uniE w.e q.e).x, .i (uniE w.e q.e).y, .i (uniE w.e q.e).u, .i (uniE w.e q.e).w, .pt c 0, .pt w.b 0, .pt q.b 0, .i (1 + imax w.h q.h), .i e.id])), (c, .var (.agg [.i (uniE p.e (uniE w.e q.e)).x, .i (uniE p.e (uniE w.e q.e)).y, .i (uniE p.e (uniE w.e q.e)).u, .i (uniE p.e (uniE w.e q.e)).w, .pt gb 0, .pt p.b 0, .pt n 0, .i (1 + imax p.h (1 + imax w.h q.h)), .i ec.id])), (w.b, .var (.agg [.i w.e.x, .i w.e.y, .i w.e.u, .i w.e.w, .pt n 0, w.lc, w.rc, .i w.h, .i w.e.id])), (p.b, .var (.agg [.i p.e.x, .i p.e.y, .i p.e.u, .i p.e.w, .pt c 0, p.lc, p.rc, .i p.h, .i p.e.id])), (q.b, .var (.agg [.i q.e.x, .i q.e.y, .i q.e.u, .i q.e.w, .pt n 0, q.lc, q.rc, .i q.h, .i q.e.id]))]) (fun b hb => by
      rw [show (s.kids.map (·.1)) = s.kns from rfl] at hb
      simp only [List.map_cons, List.map_nil, List.mem_cons, List.not_mem_nil, or_false, not_or]
      exact ⟨(Ne.symm (D 9 11 (Nat.le_of_ble_eq_true rfl) (Nat.le_of_ble_eq_true rfl) (by decide) _ (List.mem_singleton.2 rfl) _ hb)), (Ne.symm (D 10 11 (Nat.le_of_ble_eq_true rfl) (Nat.le_of_ble_eq_true rfl) (by decide) _ (List.mem_singleton.2 rfl) _ hb)), (Ne.symm (D 1 11 (Nat.le_of_ble_eq_true rfl) (Nat.le_of_ble_eq_true rfl) (by decide) _ (List.mem_singleton.2 rfl) _ hb)), (Ne.symm (D 4 11 (Nat.le_of_ble_eq_true rfl) (Nat.le_of_ble_eq_true rfl) (by decide) _ (List.mem_singleton.2 rfl) _ hb)), (Ne.symm (D 2 11 (Nat.le_of_ble_eq_true rfl) (Nat.le_of_ble_eq_true rfl) (by decide) _ (List.mem_singleton.2 rfl) _ hb)), (Ne.symm (D 5 11 (Nat.le_of_ble_eq_true rfl) (Nat.le_of_ble_eq_true rfl) (by decide) _ (List.mem_singleton.2 rfl) _ hb)), (Ne.symm (D 7 11 (Nat.le_of_ble_eq_true rfl) (Nat.le_of_ble_eq_true rfl) (by decide) _ (List.mem_singleton.2 rfl) _ hb))⟩)
    refine ⟨(updL_other _ _ _ (by simp only [List.map_cons, List.map_nil, List.mem_cons, List.not_mem_nil, or_false, not_or]; exact ⟨(D 0 9 (Nat.le_of_ble_eq_true rfl) (Nat.le_of_ble_eq_true rfl) (by decide) _ (List.mem_singleton.2 rfl) _ (List.mem_singleton.2 rfl)), (D 0 10 (Nat.le_of_ble_eq_true rfl) (Nat.le_of_ble_eq_true rfl) (by decide) _ (List.mem_singleton.2 rfl) _ (List.mem_singleton.2 rfl)), (D 0 1 (Nat.le_of_ble_eq_true rfl) (Nat.le_of_ble_eq_true rfl) (by decide) _ (List.mem_singleton.2 rfl) _ (List.mem_singleton.2 rfl)), (D 0 4 (Nat.le_of_ble_eq_true rfl) (Nat.le_of_ble_eq_true rfl) (by decide) _ (List.mem_singleton.2 rfl) _ (List.mem_singleton.2 rfl)), (D 0 2 (Nat.le_of_ble_eq_true rfl) (Nat.le_of_ble_eq_true rfl) (by decide) _ (List.mem_singleton.2 rfl) _ (List.mem_singleton.2 rfl)), (D 0 5 (Nat.le_of_ble_eq_true rfl) (Nat.le_of_ble_eq_true rfl) (by decide) _ (List.mem_singleton.2 rfl) _ (List.mem_singleton.2 rfl)), (D 0 7 (Nat.le_of_ble_eq_true rfl) (Nat.le_of_ble_eq_true rfl) (by decide) _ (List.mem_singleton.2 rfl) _ (List.mem_singleton.2 rfl))⟩)).trans mt, held_cons.2 ⟨upd_at hko (by simp only [hk_cons, z_c_g, z_c_s, z_c_n, z_c_w, z_c_p, z_c_q, if_true, if_false]; simp only [NT.top, ndB, NT.fr, NT.e, NT.h, NT.lc, NT.rc, NT.b, NT.uni_id, hec]; try rfl), held_app.2 ⟨held_hp.2 ⟨upd_at hko (by simp only [hk_cons, z_p_g, z_p_s, z_p_n, z_p_c, z_p_w, z_p_q, if_true, if_false]; try rfl), up⟩, held_cons.2 ⟨upd_at hko (by simp only [hk_cons, z_n_g, z_n_s, z_n_c, z_n_w, z_n_p, z_n_q, if_true, if_false]; simp only [NT.top, ndB, NT.e, NT.h, NT.lc, NT.rc, NT.b, NT.uni_id, he]; try rfl), held_app.2 ⟨held_hp.2 ⟨upd_at hko (by simp only [hk_cons, z_w_g, z_w_s, z_w_n, z_w_c, z_w_p, z_w_q, if_true, if_false]; try rfl), uw⟩, held_hp.2 ⟨upd_at hko (by simp only [hk_cons, z_q_g, z_q_s, z_q_n, z_q_c, z_q_w, z_q_p, if_true, if_false]; try rfl), uq⟩⟩⟩⟩⟩, held_cons.2 ⟨upd_at hko (by simp only [hk_cons, z_g_s, z_g_n, z_g_c, z_g_w, z_g_p, z_g_q, if_true, if_false]; try rfl), held_app.2 ⟨held_hp.2 ⟨upd_at hko (by simp only [hk_cons, z_s_g, z_s_n, z_s_c, z_s_w, z_s_p, z_s_q, if_true, if_false]; try rfl), usk⟩, uz⟩⟩⟩
set_option maxHeartbeats 4000000 in
theorem rz_rR1 {nx bt bm n c : Nat} {e ec : En} {h hc : Int} {p q w : NT} {M : Nat → Option ABox} {gb : Nat} {eg : En} {hg : Int} {s : NT} {z3 : List Fr} (q_bm : bm < nx) (O : Opn nx M bt bm n e h w (.nd c ec hc p q) (⟨false, gb, eg, hg, s⟩ :: z3)) (he : e.id = 0) (hec : ec.id = 0) (b1 : 0 ≤ w.h ∧ w.h ≤ 900) (b2 : 0 ≤ p.h ∧ p.h ≤ 900) (b3 : 0 ≤ q.h ∧ q.h ≤ 900) (sw : p.h < q.h) :
    ∃ wb rb, CallS Try.prog M nx 49 [.pt bt 0, .pt n 0, .pt c 0] ⟨.pt c 0, wb, 0, rb⟩ ∧ Cls (updL M wb) bt bm (NT.rot n (.nd c ec hc p q) w) (⟨false, gb, eg, hg, s⟩ :: z3) := by
  have e0 : ([[bt], [n], [w.b], w.kns, [c], [p.b], p.kns, [q.b], q.kns, [gb], [s.b], s.kns, cns z3] : List (List Nat)).flatten = bt :: n :: ((NT.nos w) ++ ((NT.nos (.nd c ec hc p q)) ++ cns (⟨false, gb, eg, hg, s⟩ :: z3))) := by simp [NT.nos, NT.nos_eq, cns]
  have hnd : ([[bt], [n], [w.b], w.kns, [c], [p.b], p.kns, [q.b], q.kns, [gb], [s.b], s.kns, cns z3] : List (List Nat)).flatten.Nodup := by rw [e0]; exact O.fd
  have D := List.pairwise_iff_getElem.1 (List.pairwise_flatten.1 hnd).2
  have L : ∀ k ∈ ([[bt], [n], [w.b], w.kns, [c], [p.b], p.kns, [q.b], q.kns, [gb], [s.b], s.kns, cns z3] : List (List Nat)).flatten, k < nx := by rw [e0]; exact O.flt
  clear hnd e0
  have q_bt : bt < nx := L _ (by simp)
  have q_n : n < nx := L _ (by simp)
  have q_w : w.b < nx := L _ (by simp)
  have q_c : c < nx := L _ (by simp)
  have q_p : p.b < nx := L _ (by simp)
  have q_q : q.b < nx := L _ (by simp)
  have q_g : gb < nx := L _ (by simp)
  have q_s : s.b < nx := L _ (by simp)
  have Kw : ∀ k ∈ w.kns, k < nx := fun k hk => L k (by simp [hk])
  have Kp : ∀ k ∈ p.kns, k < nx := fun k hk => L k (by simp [hk])
  have Kq : ∀ k ∈ q.kns, k < nx := fun k hk => L k (by simp [hk])
  have Ks : ∀ k ∈ s.kns, k < nx := fun k hk => L k (by simp [hk])
  have Kz : ∀ k ∈ cns z3, k < nx := fun k hk => L k (by simp [hk])
  have z_g_s : (gb = s.b) = False := eq_false (D 9 10 (Nat.le_of_ble_eq_true rfl) (Nat.le_of_ble_eq_true rfl) (by decide) _ (List.mem_singleton.2 rfl) _ (List.mem_singleton.2 rfl))
  have z_g_n : (gb = n) = False := eq_false (Ne.symm (D 1 9 (Nat.le_of_ble_eq_true rfl) (Nat.le_of_ble_eq_true rfl) (by decide) _ (List.mem_singleton.2 rfl) _ (List.mem_singleton.2 rfl)))
  have z_g_c : (gb = c) = False := eq_false (Ne.symm (D 4 9 (Nat.le_of_ble_eq_true rfl) (Nat.le_of_ble_eq_true rfl) (by decide) _ (List.mem_singleton.2 rfl) _ (List.mem_singleton.2 rfl)))
  have z_g_w : (gb = w.b) = False := eq_false (Ne.symm (D 2 9 (Nat.le_of_ble_eq_true rfl) (Nat.le_of_ble_eq_true rfl) (by decide) _ (List.mem_singleton.2 rfl) _ (List.mem_singleton.2 rfl)))
  have z_g_p : (gb = p.b) = False := eq_false (Ne.symm (D 5 9 (Nat.le_of_ble_eq_true rfl) (Nat.le_of_ble_eq_true rfl) (by decide) _ (List.mem_singleton.2 rfl) _ (List.mem_singleton.2 rfl)))
  have z_g_q : (gb = q.b) = False := eq_false (Ne.symm (D 7 9 (Nat.le_of_ble_eq_true rfl) (Nat.le_of_ble_eq_true rfl) (by decide) _ (List.mem_singleton.2 rfl) _ (List.mem_singleton.2 rfl)))
  have z_s_g : (s.b = gb) = False := eq_false (Ne.symm (D 9 10 (Nat.le_of_ble_eq_true rfl) (Nat.le_of_ble_eq_true rfl) (by decide) _ (List.mem_singleton.2 rfl) _ (List.mem_singleton.2 rfl)))
  have z_s_n : (s.b = n) = False := eq_false (Ne.symm (D 1 10 (Nat.le_of_ble_eq_true rfl) (Nat.le_of_ble_eq_true rfl) (by decide) _ (List.mem_singleton.2 rfl) _ (List.mem_singleton.2 rfl)))
  have z_s_c : (s.b = c) = False := eq_false (Ne.symm (D 4 10 (Nat.le_of_ble_eq_true rfl) (Nat.le_of_ble_eq_true rfl) (by decide) _ (List.mem_singleton.2 rfl) _ (List.mem_singleton.2 rfl)))
  have z_s_w : (s.b = w.b) = False := eq_false (Ne.symm (D 2 10 (Nat.le_of_ble_eq_true rfl) (Nat.le_of_ble_eq_true rfl) (by decide) _ (List.mem_singleton.2 rfl) _ (List.mem_singleton.2 rfl)))
  have z_s_p : (s.b = p.b) = False := eq_false (Ne.symm (D 5 10 (Nat.le_of_ble_eq_true rfl) (Nat.le_of_ble_eq_true rfl) (by decide) _ (List.mem_singleton.2 rfl) _ (List.mem_singleton.2 rfl)))
  have z_s_q : (s.b = q.b) = False := eq_false (Ne.symm (D 7 10 (Nat.le_of_ble_eq_true rfl) (Nat.le_of_ble_eq_true rfl) (by decide) _ (List.mem_singleton.2 rfl) _ (List.mem_singleton.2 rfl)))
  have z_n_g : (n = gb) = False := eq_false (D 1 9 (Nat.le_of_ble_eq_true rfl) (Nat.le_of_ble_eq_true rfl) (by decide) _ (List.mem_singleton.2 rfl) _ (List.mem_singleton.2 rfl))
  have z_n_s : (n = s.b) = False := eq_false (D 1 10 (Nat.le_of_ble_eq_true rfl) (Nat.le_of_ble_eq_true rfl) (by decide) _ (List.mem_singleton.2 rfl) _ (List.mem_singleton.2 rfl))
  have z_n_c : (n = c) = False := eq_false (D 1 4 (Nat.le_of_ble_eq_true rfl) (Nat.le_of_ble_eq_true rfl) (by decide) _ (List.mem_singleton.2 rfl) _ (List.mem_singleton.2 rfl))
  have z_n_w : (n = w.b) = False := eq_false (D 1 2 (Nat.le_of_ble_eq_true rfl) (Nat.le_of_ble_eq_true rfl) (by decide) _ (List.mem_singleton.2 rfl) _ (List.mem_singleton.2 rfl))
  have z_n_p : (n = p.b) = False := eq_false (D 1 5 (Nat.le_of_ble_eq_true rfl) (Nat.le_of_ble_eq_true rfl) (by decide) _ (List.mem_singleton.2 rfl) _ (List.mem_singleton.2 rfl))
  have z_n_q : (n = q.b) = False := eq_false (D 1 7 (Nat.le_of_ble_eq_true rfl) (Nat.le_of_ble_eq_true rfl) (by decide) _ (List.mem_singleton.2 rfl) _ (List.mem_singleton.2 rfl))
  have z_c_g : (c = gb) = False := eq_false (D 4 9 (Nat.le_of_ble_eq_true rfl) (Nat.le_of_ble_eq_true rfl) (by decide) _ (List.mem_singleton.2 rfl) _ (List.mem_singleton.2 rfl))
  have z_c_s : (c = s.b) = False := eq_false (D 4 10 (Nat.le_of_ble_eq_true rfl) (Nat.le_of_ble_eq_true rfl) (by decide) _ (List.mem_singleton.2 rfl) _ (List.mem_singleton.2 rfl))
  have z_c_n : (c = n) = False := eq_false (Ne.symm (D 1 4 (Nat.le_of_ble_eq_true rfl) (Nat.le_of_ble_eq_true rfl) (by decide) _ (List.mem_singleton.2 rfl) _ (List.mem_singleton.2 rfl)))
  have z_c_w : (c = w.b) = False := eq_false (Ne.symm (D 2 4 (Nat.le_of_ble_eq_true rfl) (Nat.le_of_ble_eq_true rfl) (by decide) _ (List.mem_singleton.2 rfl) _ (List.mem_singleton.2 rfl)))
  have z_c_p : (c = p.b) = False := eq_false (D 4 5 (Nat.le_of_ble_eq_true rfl) (Nat.le_of_ble_eq_true rfl) (by decide) _ (List.mem_singleton.2 rfl) _ (List.mem_singleton.2 rfl))
  have z_c_q : (c = q.b) = False := eq_false (D 4 7 (Nat.le_of_ble_eq_true rfl) (Nat.le_of_ble_eq_true rfl) (by decide) _ (List.mem_singleton.2 rfl) _ (List.mem_singleton.2 rfl))
  have z_w_g : (w.b = gb) = False := eq_false (D 2 9 (Nat.le_of_ble_eq_true rfl) (Nat.le_of_ble_eq_true rfl) (by decide) _ (List.mem_singleton.2 rfl) _ (List.mem_singleton.2 rfl))
  have z_w_s : (w.b = s.b) = False := eq_false (D 2 10 (Nat.le_of_ble_eq_true rfl) (Nat.le_of_ble_eq_true rfl) (by decide) _ (List.mem_singleton.2 rfl) _ (List.mem_singleton.2 rfl))
  have z_w_n : (w.b = n) = False := eq_false (Ne.symm (D 1 2 (Nat.le_of_ble_eq_true rfl) (Nat.le_of_ble_eq_true rfl) (by decide) _ (List.mem_singleton.2 rfl) _ (List.mem_singleton.2 rfl)))
  have z_w_c : (w.b = c) = False := eq_false (D 2 4 (Nat.le_of_ble_eq_true rfl) (Nat.le_of_ble_eq_true rfl) (by decide) _ (List.mem_singleton.2 rfl) _ (List.mem_singleton.2 rfl))
  have z_w_p : (w.b = p.b) = False := eq_false (D 2 5 (Nat.le_of_ble_eq_true rfl) (Nat.le_of_ble_eq_true rfl) (by decide) _ (List.mem_singleton.2 rfl) _ (List.mem_singleton.2 rfl))
  have z_w_q : (w.b = q.b) = False := eq_false (D 2 7 (Nat.le_of_ble_eq_true rfl) (Nat.le_of_ble_eq_true rfl) (by decide) _ (List.mem_singleton.2 rfl) _ (List.mem_singleton.2 rfl))
  have z_p_g : (p.b = gb) = False := eq_false (D 5 9 (Nat.le_of_ble_eq_true rfl) (Nat.le_of_ble_eq_true rfl) (by decide) _ (List.mem_singleton.2 rfl) _ (List.mem_singleton.2 rfl))
  have z_p_s : (p.b = s.b) = False := eq_false (D 5 10 (Nat.le_of_ble_eq_true rfl) (Nat.le_of_ble_eq_true rfl) (by decide) _ (List.mem_singleton.2 rfl) _ (List.mem_singleton.2 rfl))
  have z_p_n : (p.b = n) = False := eq_false (Ne.symm (D 1 5 (Nat.le_of_ble_eq_true rfl) (Nat.le_of_ble_eq_true rfl) (by decide) _ (List.mem_singleton.2 rfl) _ (List.mem_singleton.2 rfl)))
  have z_p_c : (p.b = c) = False := eq_false (Ne.symm (D 4 5 (Nat.le_of_ble_eq_true rfl) (Nat.le_of_ble_eq_true rfl) (by decide) _ (List.mem_singleton.2 rfl) _ (List.mem_singleton.2 rfl)))
  have z_p_w : (p.b = w.b) = False := eq_false (Ne.symm (D 2 5 (Nat.le_of_ble_eq_true rfl) (Nat.le_of_ble_eq_true rfl) (by decide) _ (List.mem_singleton.2 rfl) _ (List.mem_singleton.2 rfl)))
  have z_p_q : (p.b = q.b) = False := eq_false (D 5 7 (Nat.le_of_ble_eq_true rfl) (Nat.le_of_ble_eq_true rfl) (by decide) _ (List.mem_singleton.2 rfl) _ (List.mem_singleton.2 rfl))
  have z_q_g : (q.b = gb) = False := eq_false (D 7 9 (Nat.le_of_ble_eq_true rfl) (Nat.le_of_ble_eq_true rfl) (by decide) _ (List.mem_singleton.2 rfl) _ (List.mem_singleton.2 rfl))
  have z_q_s : (q.b = s.b) = False := eq_false (D 7 10 (Nat.le_of_ble_eq_true rfl) (Nat.le_of_ble_eq_true rfl) (by decide) _ (List.mem_singleton.2 rfl) _ (List.mem_singleton.2 rfl))
  have z_q_n : (q.b = n) = False := eq_false (Ne.symm (D 1 7 (Nat.le_of_ble_eq_true rfl) (Nat.le_of_ble_eq_true rfl) (by decide) _ (List.mem_singleton.2 rfl) _ (List.mem_singleton.2 rfl)))
  have z_q_c : (q.b = c) = False := eq_false (Ne.symm (D 4 7 (Nat.le_of_ble_eq_true rfl) (Nat.le_of_ble_eq_true rfl) (by decide) _ (List.mem_singleton.2 rfl) _ (List.mem_singleton.2 rfl)))
  have z_q_w : (q.b = w.b) = False := eq_false (Ne.symm (D 2 7 (Nat.le_of_ble_eq_true rfl) (Nat.le_of_ble_eq_true rfl) (by decide) _ (List.mem_singleton.2 rfl) _ (List.mem_singleton.2 rfl)))
  have z_q_p : (q.b = p.b) = False := eq_false (Ne.symm (D 5 7 (Nat.le_of_ble_eq_true rfl) (Nat.le_of_ble_eq_true rfl) (by decide) _ (List.mem_singleton.2 rfl) _ (List.mem_singleton.2 rfl)))
  have mt := O.ft
  have mn := O.fn
  obtain ⟨mc, ml⟩ := held_hp.1 O.fr
  obtain ⟨mp', mq'⟩ := held_app.1 (show Held M (p.hp (.pt c 0) ++ q.hp (.pt c 0)) from ml)
  obtain ⟨mp, mpk⟩ := held_hp.1 mp'
  obtain ⟨mq, mqk⟩ := held_hp.1 mq'
  obtain ⟨mw, mwk⟩ := held_hp.1 O.fl
  obtain ⟨mg, mz⟩ := held_cons.1 (show Held M ((gb, _) :: (s.hp (.pt gb 0) ++ ctx z3 gb)) from O.fz)
  obtain ⟨msh, mz3⟩ := held_app.1 mz
  obtain ⟨ms, msk⟩ := held_hp.1 msh
  have hC := @c_rotrR1 nx gb s.b n c w.b p.b q.b bt q_bt e ec w.e p.e q.e eg s.e (.pt n 0) w.lc w.rc (.pt c 0) p.lc p.rc (.pt c 0) q.lc q.rc (paZ z3) (.pt gb 0) s.lc s.rc h e.id hc ec.id w.h w.e.id p.h p.e.id q.h q.e.id hg eg.id s.h s.e.id q_g q_s q_n q_c q_w q_p q_q (of_eq_false z_g_s) (of_eq_false z_g_n) (of_eq_false z_g_c) (of_eq_false z_g_w) (of_eq_false z_g_p) (of_eq_false z_g_q) (of_eq_false z_s_n) (of_eq_false z_s_c) (of_eq_false z_s_w) (of_eq_false z_s_p) (of_eq_false z_s_q) (of_eq_false z_n_c) (of_eq_false z_n_w) (of_eq_false z_n_p) (of_eq_false z_n_q) (of_eq_false z_c_w) (of_eq_false z_c_p) (of_eq_false z_c_q) (of_eq_false z_w_p) (of_eq_false z_w_q) (of_eq_false z_p_q) (lc_lt Kp) (lc_lt Kq) (lc_lt Ks) (lc_lt Kw) (pa_lt Kz) (Lt.pt _ _ q_c) (Lt.pt _ _ q_c) (Lt.pt _ _ q_g) (Lt.pt _ _ q_n) (rc_lt Kp) (rc_lt Kq) (rc_lt Ks) (rc_lt Kw) b1 b2 b3 sw
  have hko : keysOk ([(gb, .var (.agg [.i eg.x, .i eg.y, .i eg.u, .i eg.w, (paZ z3), .pt s.b 0, .pt c 0, .i hg, .i eg.id])), (s.b, .var (.agg [.i s.e.x, .i s.e.y, .i s.e.u, .i s.e.w, (.pt gb 0), s.lc, s.rc, .i s.h, .i s.e.id])), (n, .var (.agg [.i (uniE w.e p.e).x, .i (uniE w.e p.e).y, .i (uniE w.e p.e).u, .i (uniE w.e p.e).w, .pt c 0, .pt w.b 0, .pt p.b 0, .i (1 + imax w.h p.h), .i e.id])), (c, .var (.agg [.i (uniE q.e (uniE w.e p.e)).x, .i (uniE q.e (uniE w.e p.e)).y, .i (uniE q.e (uniE w.e p.e)).u, .i (uniE q.e (uniE w.e p.e)).w, .pt gb 0, .pt q.b 0, .pt n 0, .i (1 + imax q.h (1 + imax w.h p.h)), .i ec.id])), (w.b, .var (.agg [.i w.e.x, .i w.e.y, .i w.e.u, .i w.e.w, .pt n 0, w.lc, w.rc, .i w.h, .i w.e.id])), (p.b, .var (.agg [.i p.e.x, .i p.e.y, .i p.e.u, .i p.e.w, .pt n 0, p.lc, p.rc, .i p.h, .i p.e.id])), (q.b, .var (.agg [.i q.e.x, .i q.e.y, .i q.e.u, .i q.e.w, .pt c 0, q.lc, q.rc, .i q.h, .i q.e.id]))] : HH) = true := by simp [keysOk, z_g_s, z_g_n, z_g_c, z_g_w, z_g_p, z_g_q, z_s_n, z_s_c, z_s_w, z_s_p, z_s_q, z_n_c, z_n_w, z_n_p, z_n_q, z_c_w, z_c_p, z_c_q, z_w_p, z_w_q, z_p_q]
  refine ⟨[(gb, .var (.agg [.i eg.x, .i eg.y, .i eg.u, .i eg.w, (paZ z3), .pt s.b 0, .pt c 0, .i hg, .i eg.id])), (s.b, .var (.agg [.i s.e.x, .i s.e.y, .i s.e.u, .i s.e.w, (.pt gb 0), s.lc, s.rc, .i s.h, .i s.e.id])), (n, .var (.agg [.i (uniE w.e p.e).x, .i (uniE w.e p.e).y, .i (uniE w.e p.e).u, .i (uniE w.e p.e).w, .pt c 0, .pt w.b 0, .pt p.b 0, .i (1 + imax w.h p.h), .i e.id])), (c, .var (.agg [.i (uniE q.e (uniE w.e p.e)).x, .i (uniE q.e (uniE w.e p.e)).y, .i (uniE q.e (uniE w.e p.e)).u, .i (uniE q.e (uniE w.e p.e)).w, .pt gb 0, .pt q.b 0, .pt n 0, .i (1 + imax q.h (1 + imax w.h p.h)), .i ec.id])), (w.b, .var (.agg [.i w.e.x, .i w.e.y, .i w.e.u, .i w.e.w, .pt n 0, w.lc, w.rc, .i w.h, .i w.e.id])), (p.b, .var (.agg [.i p.e.x, .i p.e.y, .i p.e.u, .i p.e.w, .pt n 0, p.lc, p.rc, .i p.h, .i p.e.id])), (q.b, .var (.agg [.i q.e.x, .i q.e.y, .i q.e.u, .i q.e.w, .pt c 0, q.lc, q.rc, .i q.h, .i q.e.id]))], [gb, s.b, n, c, w.b, p.b, q.b], hC.congr (fun k hk' => ?_), ?_⟩
  · simp only [List.mem_cons, List.not_mem_nil, or_false] at hk'
    rcases hk' with rfl | rfl | rfl | rfl | rfl | rfl | rfl
    · refine mg.trans ?_
      simp only [hk_cons, z_g_s, z_g_n, z_g_c, z_g_w, z_g_p, z_g_q, if_true, if_false]
      try rfl
    · refine ms.trans ?_
      simp only [hk_cons, z_s_g, z_s_n, z_s_c, z_s_w, z_s_p, z_s_q, if_true, if_false]
      try rfl
    · refine mn.trans ?_
      simp only [hk_cons, z_n_g, z_n_s, z_n_c, z_n_w, z_n_p, z_n_q, if_true, if_false]
      try rfl
    · refine mc.trans ?_
      simp only [hk_cons, z_c_g, z_c_s, z_c_n, z_c_w, z_c_p, z_c_q, if_true, if_false]
      try rfl
    · refine mw.trans ?_
      simp only [hk_cons, z_w_g, z_w_s, z_w_n, z_w_c, z_w_p, z_w_q, if_true, if_false]
      try rfl
    · refine mp.trans ?_
      simp only [hk_cons, z_p_g, z_p_s, z_p_n, z_p_c, z_p_w, z_p_q, if_true, if_false]
      try rfl
    · refine mq.trans ?_
      simp only [hk_cons, z_q_g, z_q_s, z_q_n, z_q_c, z_q_w, z_q_p, if_true, if_false]
      try rfl
  · have hr : NT.rot n (.nd c ec hc p q) w = NT.fr c q (NT.fr n w p) := if_pos sw
    rw [hr]
    have up := mpk.upd (wb := [(gb, .var (.agg [.i eg.x, .i eg.y, .i eg.u, .i eg.w, (paZ z3), .pt s.b 0, .pt c 0, .i hg, .i eg.id])), (s.b, .var (.agg [.i s.e.x, .i s.e.y, .i s.e.u, .i s.e.w, (.pt gb 0), s.lc, s.rc, .i s.h, .i s.e.id])), (n, .var (.agg [.i (uniE w.e p.e).x, .i (uniE w.e p.e).y, .i (uniE w.e p.e).u, .i (uniE w.e p.e).w, .pt c 0, .pt w.b 0, .pt p.b 0, .i (1 + imax w.h p.h), .i e.id])), (c, .var (.agg [.i (uniE q.e (uniE w.e p.e)).x, .i (uniE q.e (uniE w.e p.e)).y, .i (uniE q.e (uniE w.e p.e)).u, .i (uniE q.e (uniE w.e p.e)).w, .pt gb 0, .pt q.b 0, .pt n 0, .i (1 + imax q.h (1 + imax w.h p.h)), .i ec.id])), (w.b, .var (.agg [.i w.e.x, .i w.e.y, .i w.e.u, .i w.e.w, .pt n 0, w.lc, w.rc, .i w.h, .i w.e.id])), (p.b, .var (.agg [.i p.e.x, .i p.e.y, .i p.e.u, .i p.e.w, .pt n 0, p.lc, p.rc, .i p.h, .i p.e.id])), (q.b, .var (.agg [.i q.e.x, .i q.e.y, .i q.e.u, .i q.e.w, .pt c 0, q.lc, q.rc, .i q.h, .i q.e.id]))]) (fun b hb => by
      rw [show (p.kids.map (·.1)) = p.kns from rfl] at hb
      simp only [List.map_cons, List.map_nil, List.mem_cons, List.not_mem_nil, or_false, not_or]
      exact ⟨(D 6 9 (Nat.le_of_ble_eq_true rfl) (Nat.le_of_ble_eq_true rfl) (by decide) _ hb _ (List.mem_singleton.2 rfl)), (D 6 10 (Nat.le_of_ble_eq_true rfl) (Nat.le_of_ble_eq_true rfl) (by decide) _ hb _ (List.mem_singleton.2 rfl)), (Ne.symm (D 1 6 (Nat.le_of_ble_eq_true rfl) (Nat.le_of_ble_eq_true rfl) (by decide) _ (List.mem_singleton.2 rfl) _ hb)), (Ne.symm (D 4 6 (Nat.le_of_ble_eq_true rfl) (Nat.le_of_ble_eq_true rfl) (by decide) _ (List.mem_singleton.2 rfl) _ hb)), (Ne.symm (D 2 6 (Nat.le_of_ble_eq_true rfl) (Nat.le_of_ble_eq_true rfl) (by decide) _ (List.mem_singleton.2 rfl) _ hb)), (Ne.symm (D 5 6 (Nat.le_of_ble_eq_true rfl) (Nat.le_of_ble_eq_true rfl) (by decide) _ (List.mem_singleton.2 rfl) _ hb)), (D 6 7 (Nat.le_of_ble_eq_true rfl) (Nat.le_of_ble_eq_true rfl) (by decide) _ hb _ (List.mem_singleton.2 rfl))⟩)
    have uq := mqk.upd (wb := [(gb, .var (.agg [.i eg.x, .i eg.y, .i eg.u, .i eg.w, (paZ z3), .pt s.b 0, .pt c 0, .i hg, .i eg.id])), (s.b, .var (.agg [.i s.e.x, .i s.e.y, .i s.e.u, .i s.e.w, (.pt gb 0), s.lc, s.rc, .i s.h, .i s.e.id])), (n, .var (.agg [.i (uniE w.e p.e).x, .i (uniE w.e p.e).y, .i (uniE w.e p.e).u, .i (uniE w.e p.e).w, .pt c 0, .pt w.b 0, .pt p.b 0, .i (1 + imax w.h p.h), .i e.id])), (c, .var (.agg [.i (uniE q.e (uniE w.e p.e)).x, .i (uniE q.e (uniE w.e p.e)).y, .i (uniE q.e (uniE w.e p.e)).u, .i (uniE q.e (uniE w.e p.e)).w, .pt gb 0, .pt q.b 0, .pt n 0, .i (1 + imax q.h (1 + imax w.h p.h)), .i ec.id])), (w.b, .var (.agg [.i w.e.x, .i w.e.y, .i w.e.u, .i w.e.w, .pt n 0, w.lc, w.rc, .i w.h, .i w.e.id])), (p.b, .var (.agg [.i p.e.x, .i p.e.y, .i p.e.u, .i p.e.w, .pt n 0, p.lc, p.rc, .i p.h, .i p.e.id])), (q.b, .var (.agg [.i q.e.x, .i q.e.y, .i q.e.u, .i q.e.w, .pt c 0, q.lc, q.rc, .i q.h, .i q.e.id]))]) (fun b hb => by
      rw [show (q.kids.map (·.1)) = q.kns from rfl] at hb
      simp only [List.map_cons, List.map_nil, List.mem_cons, List.not_mem_nil, or_false, not_or]
      exact ⟨(D 8 9 (Nat.le_of_ble_eq_true rfl) (Nat.le_of_ble_eq_true rfl) (by decide) _ hb _ (List.mem_singleton.2 rfl)), (D 8 10 (Nat.le_of_ble_eq_true rfl) (Nat.le_of_ble_eq_true rfl) (by decide) _ hb _ (List.mem_singleton.2 rfl)), (Ne.symm (D 1 8 (Nat.le_of_ble_eq_true rfl) (Nat.le_of_ble_eq_true rfl) (by decide) _ (List.mem_singleton.2 rfl) _ hb)), (Ne.symm (D 4 8 (Nat.le_of_ble_eq_true rfl) (Nat.le_of_ble_eq_true rfl) (by decide) _ (List.mem_singleton.2 rfl) _ hb)), (Ne.symm (D 2 8 (Nat.le_of_ble_eq_true rfl) (Nat.le_of_ble_eq_true rfl) (by decide) _ (List.mem_singleton.2 rfl) _ hb)), (Ne.symm (D 5 8 (Nat.le_of_ble_eq_true rfl) (Nat.le_of_ble_eq_true rfl) (by decide) _ (List.mem_singleton.2 rfl) _ hb)), (Ne.symm (D 7 8 (Nat.le_of_ble_eq_true rfl) (Nat.le_of_ble_eq_true rfl) (by decide) _ (List.mem_singleton.2 rfl) _ hb))⟩)
    have uw := mwk.upd (wb := [(gb, .var (.agg [.i eg.x, .i eg.y, .i eg.u, .i eg.w, (paZ z3), .pt s.b 0, .pt c 0, .i hg, .i eg.id])), (s.b, .var (.agg [.i s.e.x, .i s.e.y, .i s.e.u, .i s.e.w, (.pt gb 0), s.lc, s.rc, .i s.h, .i s.e.id])), (n, .var (.agg [.i (uniE w.e p.e).x, .i (uniE w.e p.e).y, .i (uniE w.e p.e).u, .i (uniE w.e p.e).w, .pt c 0, .pt w.b 0, .pt p.b 0, .i (1 + imax w.h p.h), .i e.id])), (c, .var (.agg [.i (uniE q.e (uniE w.e p.e)).x, .i (uniE q.e (uniE w.e p.e)).y, .i (uniE q.e (uniE w.e p.e)).u, .i (uniE q.e (uniE w.e p.e)).w, .pt gb 0, .pt q.b 0, .pt n 0, .i (1 + imax q.h (1 + imax w.h p.h)), .i ec.id])), (w.b, .var (.agg [.i w.e.x, .i w.e.y, .i w.e.u, .i w.e.w, .pt n 0, w.lc, w.rc, .i w.h, .i w.e.id])), (p.b, .var (.agg [.i p.e.x, .i p.e.y, .i p.e.u, .i p.e.w, .pt n 0, p.lc, p.rc, .i p.h, .i p.e.id])), (q.b, .var (.agg [.i q.e.x, .i q.e.y, .i q.e.u, .i q.e.w, .pt c 0, q.lc, q.rc, .i q.h, .i q.e.id]))]) (fun b hb => by
      rw [show (w.kids.map (·.1)) = w.kns from rfl] at hb
      simp only [List.map_cons, List.map_nil, List.mem_cons, List.not_mem_nil, or_false, not_or]
      exact ⟨(D 3 9 (Nat.le_of_ble_eq_true rfl) (Nat.le_of_ble_eq_true rfl) (by decide) _ hb _ (List.mem_singleton.2 rfl)), (D 3 10 (Nat.le_of_ble_eq_true rfl) (Nat.le_of_ble_eq_true rfl) (by decide) _ hb _ (List.mem_singleton.2 rfl)), (Ne.symm (D 1 3 (Nat.le_of_ble_eq_true rfl) (Nat.le_of_ble_eq_true rfl) (by decide) _ (List.mem_singleton.2 rfl) _ hb)), (D 3 4 (Nat.le_of_ble_eq_true rfl) (Nat.le_of_ble_eq_true rfl) (by decide) _ hb _ (List.mem_singleton.2 rfl)), (Ne.symm (D 2 3 (Nat.le_of_ble_eq_true rfl) (Nat.le_of_ble_eq_true rfl) (by decide) _ (List.mem_singleton.2 rfl) _ hb)), (D 3 5 (Nat.le_of_ble_eq_true rfl) (Nat.le_of_ble_eq_true rfl) (by decide) _ hb _ (List.mem_singleton.2 rfl)), (D 3 7 (Nat.le_of_ble_eq_true rfl) (Nat.le_of_ble_eq_true rfl) (by decide) _ hb _ (List.mem_singleton.2 rfl))⟩)
    have uz := mz3.upd (wb := [(gb, .var (.agg [.i eg.x, .i eg.y, .i eg.u, .i eg.w, (paZ z3), .pt s.b 0, .pt c 0, .i hg, .i eg.id])), (s.b, .var (.agg [.i s.e.x, .i s.e.y, .i s.e.u, .i s.e.w, (.pt gb 0), s.lc, s.rc, .i s.h, .i s.e.id])), (n, .var (.agg [.i (uniE w.e p.e).x, .i (uniE w.e p.e).y, .i (uniE w.e p.e).u, .i (uniE w.e p.e).w, .pt c 0, .pt w.b 0, .pt p.b 0, .i (1 + imax w.h p.h), .i e.id])), (c, .var (.agg [.i (uniE q.e (uniE w.e p.e)).x, .i (uniE q.e (uniE w.e p.e)).y, .i (uniE q.e (uniE w.e p.e)).u, .i (uniE q.e (uniE w.e p.e)).w, .pt gb 0, .pt q.b 0, .pt n 0, .i (1 + imax q.h (1 + imax w.h p.h)), .i ec.id])), (w.b, .var (.agg [.i w.e.x, .i w.e.y, .i w.e.u, .i w.e.w, .pt n 0, w.lc, w.rc, .i w.h, .i w.e.id])), (p.b, .var (.agg [.i p.e.x, .i p.e.y, .i p.e.u, .i p.e.w, .pt n 0, p.lc, p.rc, .i p.h, .i p.e.id])), (q.b, .var (.agg [.i q.e.x, .i q.e.y, .i q.e.u, .i q.e.w, .pt c 0, q.lc, q.rc, .i q.h, .i q.e.id]))]) (fun b hb => by
      rw [ctx_nos] at hb
      simp only [List.map_cons, List.map_nil, List.mem_cons, List.not_mem_nil, or_false, not_or]
      exact ⟨(Ne.symm (D 9 12 (Nat.le_of_ble_eq_true rfl) (Nat.le_of_ble_eq_true rfl) (by decide) _ (List.mem_singleton.2 rfl) _ hb)), (Ne.symm (D 10 12 (Nat.le_of_ble_eq_true rfl) (Nat.le_of_ble_eq_true rfl) (by decide) _ (List.mem_singleton.2 rfl) _ hb)), (Ne.symm (D 1 12 (Nat.le_of_ble_eq_true rfl) (Nat.le_of_ble_eq_true rfl) (by decide) _ (List.mem_singleton.2 rfl) _ hb)), (Ne.symm (D 4 12 (Nat.le_of_ble_eq_true rfl) (Nat.le_of_ble_eq_true rfl) (by decide) _ (List.mem_singleton.2 rfl) _ hb)), (Ne.symm (D 2 12 (Nat.le_of_ble_eq_true rfl) (Nat.le_of_ble_eq_true rfl) (by decide) _ (List.mem_singleton.2 rfl) _ hb)), (Ne.symm (D 5 12 (Nat.le_of_ble_eq_true rfl) (Nat.le_of_ble_eq_true rfl) (by decide) _ (List.mem_singleton.2 rfl) _ hb)), (Ne.symm (D 7 12 (Nat.le_of_ble_eq_true rfl) (Nat.le_of_ble_eq_true rfl) (by decide) _ (List.mem_singleton.2 rfl) _ hb))⟩)
    have usk := msk.upd (wb := [(gb, .var (.agg [.i eg.x, .i eg.y, .i eg.u, .i eg.w, (paZ z3), .pt s.b 0, .pt c 0, .i hg, .i eg.id])), (s.b, .var (.agg [.i s.e.x, .i s.e.y, .i s.e.u, .i s.e.w, (.pt gb 0), s.lc, s.rc, .i s.h, .i s.e.id])), (n, .var (.agg [.i (uniE w.e p.e).x, .i (uniE w.e p.e).y, .i (uniE w.e p.e).u, .i (uniE w.e p.e).w, .pt c 0, .pt w.b 0, .pt p.b 0, .i (1 + imax w.h p.h), .i e.id])), (c, .var (.agg [.i (uniE q.e (uniE w.e p.e)).x, .i (uniE q.e (uniE w.e p.e)).y, .i (uniE q.e (uniE w.e p.e)).u, .i (uniE q.e (uniE w.e p.e)).w, .pt gb 0, .pt q.b 0, .pt n 0, .i (1 + imax q.h (1 + imax w.h p.h)), .i ec.id])), (w.b, .var (.agg [.i w.e.x, .i w.e.y, .i w.e.u, .i w.e.w, .pt n 0, w.lc, w.rc, .i w.h, .i w.e.id])), (p.b, .var (.agg [.i p.e.x, .i p.e.y, .i p.e.u, .i p.e.w, .pt n 0, p.lc, p.rc, .i p.h, .i p.e.id])), (q.b, .var (.agg [.i q.e.x, .i q.e.y, .i q.e.u, .i q.e.w, .pt c 0, q.lc, q.rc, .i q.h, .i q.e.id]))]) (fun b hb => by
      rw [show (s.kids.map (·.1)) = s.kns from rfl] at hb
      simp only [List.map_cons, List.map_nil, List.mem_cons, List.not_mem_nil, or_false, not_or]
      exact ⟨(Ne.symm (D 9 11 (Nat.le_of_ble_eq_true rfl) (Nat.le_of_ble_eq_true rfl) (by decide) _ (List.mem_singleton.2 rfl) _ hb)), (Ne.symm (D 10 11 (Nat.le_of_ble_eq_true rfl) (Nat.le_of_ble_eq_true rfl) (by decide) _ (List.mem_singleton.2 rfl) _ hb)), (Ne.symm (D 1 11 (Nat.le_of_ble_eq_true rfl) (Nat.le_of_ble_eq_true rfl) (by decide) _ (List.mem_singleton.2 rfl) _ hb)), (Ne.symm (D 4 11 (Nat.le_of_ble_eq_true rfl) (Nat.le_of_ble_eq_true rfl) (by decide) _ (List.mem_singleton.2 rfl) _ hb)), (Ne.symm (D 2 11 (Nat.le_of_ble_eq_true rfl) (Nat.le_of_ble_eq_true rfl) (by decide) _ (List.mem_singleton.2 rfl) _ hb)), (Ne.symm (D 5 11 (Nat.le_of_ble_eq_true rfl) (Nat.le_of_ble_eq_true rfl) (by decide) _ (List.mem_singleton.2 rfl) _ hb)), (Ne.symm (D 7 11 (Nat.le_of_ble_eq_true rfl) (Nat.le_of_ble_eq_true rfl) (by decide) _ (List.mem_singleton.2 rfl) _ hb))⟩)
    refine ⟨(updL_other _ _ _ (by simp only [List.map_cons, List.map_nil, List.mem_cons, List.not_mem_nil, or_false, not_or]; exact ⟨(D 0 9 (Nat.le_of_ble_eq_true rfl) (Nat.le_of_ble_eq_true rfl) (by decide) _ (List.mem_singleton.2 rfl) _ (List.mem_singleton.2 rfl)), (D 0 10 (Nat.le_of_ble_eq_true rfl) (Nat.le_of_ble_eq_true rfl) (by decide) _ (List.mem_singleton.2 rfl) _ (List.mem_singleton.2 rfl)), (D 0 1 (Nat.le_of_ble_eq_true rfl) (Nat.le_of_ble_eq_true rfl) (by decide) _ (List.mem_singleton.2 rfl) _ (List.mem_singleton.2 rfl)), (D 0 4 (Nat.le_of_ble_eq_true rfl) (Nat.le_of_ble_eq_true rfl) (by decide) _ (List.mem_singleton.2 rfl) _ (List.mem_singleton.2 rfl)), (D 0 2 (Nat.le_of_ble_eq_true rfl) (Nat.le_of_ble_eq_true rfl) (by decide) _ (List.mem_singleton.2 rfl) _ (List.mem_singleton.2 rfl)), (D 0 5 (Nat.le_of_ble_eq_true rfl) (Nat.le_of_ble_eq_true rfl) (by decide) _ (List.mem_singleton.2 rfl) _ (List.mem_singleton.2 rfl)), (D 0 7 (Nat.le_of_ble_eq_true rfl) (Nat.le_of_ble_eq_true rfl) (by decide) _ (List.mem_singleton.2 rfl) _ (List.mem_singleton.2 rfl))⟩)).trans mt, held_cons.2 ⟨upd_at hko (by simp only [hk_cons, z_c_g, z_c_s, z_c_n, z_c_w, z_c_p, z_c_q, if_true, if_false]; simp only [NT.top, ndB, NT.fr, NT.e, NT.h, NT.lc, NT.rc, NT.b, NT.uni_id, hec]; try rfl), held_app.2 ⟨held_hp.2 ⟨upd_at hko (by simp only [hk_cons, z_q_g, z_q_s, z_q_n, z_q_c, z_q_w, z_q_p, if_true, if_false]; try rfl), uq⟩, held_cons.2 ⟨upd_at hko (by simp only [hk_cons, z_n_g, z_n_s, z_n_c, z_n_w, z_n_p, z_n_q, if_true, if_false]; simp only [NT.top, ndB, NT.e, NT.h, NT.lc, NT.rc, NT.b, NT.uni_id, he]; try rfl), held_app.2 ⟨held_hp.2 ⟨upd_at hko (by simp only [hk_cons, z_w_g, z_w_s, z_w_n, z_w_c, z_w_p, z_w_q, if_true, if_false]; try rfl), uw⟩, held_hp.2 ⟨upd_at hko (by simp only [hk_cons, z_p_g, z_p_s, z_p_n, z_p_c, z_p_w, z_p_q, if_true, if_false]; try rfl), up⟩⟩⟩⟩⟩, held_cons.2 ⟨upd_at hko (by simp only [hk_cons, z_g_s, z_g_n, z_g_c, z_g_w, z_g_p, z_g_q, if_true, if_false]; try rfl), held_app.2 ⟨held_hp.2 ⟨upd_at hko (by simp only [hk_cons, z_s_g, z_s_n, z_s_c, z_s_w, z_s_p, z_s_q, if_true, if_false]; try rfl), usk⟩, uz⟩⟩⟩
end Go.Proofs.Ytlkngccfikeaiaa
