/-
  Package bvh: rebalance. Conditions: none.
-/
import Derived.Test.YtlkngccfikeaiaaC139
import Derived.Outline
set_option linter.all false
namespace Go.Proofs.Ytlkngccfikeaiaa
open Go.RowKit Go.AL Go.Carom
theorem rz_l {nx bt bm n c : Nat} {e ec : En} {h hc : Int} {p q w : NT} {z : List Fr} {M : Nat → Option ABox} (q_bm : bm < nx) (O : Opn nx M bt bm n e h (.nd c ec hc p q) w z) (he : e.id = 0) (hec : ec.id = 0) (b1 : 0 ≤ w.h ∧ w.h ≤ 900) (b2 : 0 ≤ p.h ∧ p.h ≤ 900) (b3 : 0 ≤ q.h ∧ q.h ≤ 900) :
    ∃ wb rb, CallS Try.prog M nx 49 [.pt bt 0, .pt n 0, .pt c 0] ⟨.pt c 0, wb, 0, rb⟩ ∧ Cls (updL M wb) bt bm (NT.rot n (.nd c ec hc p q) w) z := by
  match z, O with
  | [], O =>
    by_cases sw : p.h < q.h
    · exact rz_l01 q_bm O he hec b1 b2 b3 sw
    · exact rz_l00 q_bm O he hec b1 b2 b3 sw
  | ⟨true, gb, eg, hg, s⟩ :: z3, O =>
    by_cases sw : p.h < q.h
    · exact rz_lL1 q_bm O he hec b1 b2 b3 sw
    · exact rz_lL0 q_bm O he hec b1 b2 b3 sw
  | ⟨false, gb, eg, hg, s⟩ :: z3, O =>
    by_cases sw : p.h < q.h
    · exact rz_lR1 q_bm O he hec b1 b2 b3 sw
    · exact rz_lR0 q_bm O he hec b1 b2 b3 sw
theorem rz_r {nx bt bm n c : Nat} {e ec : En} {h hc : Int} {p q w : NT} {z : List Fr} {M : Nat → Option ABox} (q_bm : bm < nx) (O : Opn nx M bt bm n e h w (.nd c ec hc p q) z) (he : e.id = 0) (hec : ec.id = 0) (b1 : 0 ≤ w.h ∧ w.h ≤ 900) (b2 : 0 ≤ p.h ∧ p.h ≤ 900) (b3 : 0 ≤ q.h ∧ q.h ≤ 900) :
    ∃ wb rb, CallS Try.prog M nx 49 [.pt bt 0, .pt n 0, .pt c 0] ⟨.pt c 0, wb, 0, rb⟩ ∧ Cls (updL M wb) bt bm (NT.rot n (.nd c ec hc p q) w) z := by
  match z, O with
  | [], O =>
    by_cases sw : p.h < q.h
    · exact rz_r01 q_bm O he hec b1 b2 b3 sw
    · exact rz_r00 q_bm O he hec b1 b2 b3 sw
  | ⟨true, gb, eg, hg, s⟩ :: z3, O =>
    by_cases sw : p.h < q.h
    · exact rz_rL1 q_bm O he hec b1 b2 b3 sw
    · exact rz_rL0 q_bm O he hec b1 b2 b3 sw
  | ⟨false, gb, eg, hg, s⟩ :: z3, O =>
    by_cases sw : p.h < q.h
    · exact rz_rR1 q_bm O he hec b1 b2 b3 sw
    · exact rz_rR0 q_bm O he hec b1 b2 b3 sw
theorem rz_f {nx bt bm n : Nat} {e : En} {h : Int} {l r : NT} {z : List Fr} {M : Nat → Option ABox} (O : Opn nx M bt bm n e h l r z) (he : e.id = 0) (b1 : 0 ≤ l.h ∧ l.h ≤ 900) (b2 : 0 ≤ r.h ∧ r.h ≤ 900) :
    ∃ wb rb, CallS Try.prog M nx 48 [.pt n 0] ⟨.tup [], wb, 0, rb⟩ ∧ Cls (updL M wb) bt bm (NT.fr n l r) z := by
  have e0 : ([[bt], [n], [l.b], l.kns, [r.b], r.kns, cns z] : List (List Nat)).flatten = bt :: n :: (l.nos ++ (r.nos ++ cns z)) := by simp [NT.nos_eq]
  have hnd : ([[bt], [n], [l.b], l.kns, [r.b], r.kns, cns z] : List (List Nat)).flatten.Nodup := by rw [e0]; exact O.fd
  have D := List.pairwise_iff_getElem.1 (List.pairwise_flatten.1 hnd).2
  have L : ∀ k ∈ ([[bt], [n], [l.b], l.kns, [r.b], r.kns, cns z] : List (List Nat)).flatten, k < nx := by rw [e0]; exact O.flt
  clear hnd e0
  have q_n : n < nx := L _ (by simp)
  have q_l : l.b < nx := L _ (by simp)
  have q_r : r.b < nx := L _ (by simp)
  have z_n_l : (n = l.b) = False := eq_false (D 1 2 (Nat.le_of_ble_eq_true rfl) (Nat.le_of_ble_eq_true rfl) (by decide) _ (List.mem_singleton.2 rfl) _ (List.mem_singleton.2 rfl))
  have z_n_r : (n = r.b) = False := eq_false (D 1 4 (Nat.le_of_ble_eq_true rfl) (Nat.le_of_ble_eq_true rfl) (by decide) _ (List.mem_singleton.2 rfl) _ (List.mem_singleton.2 rfl))
  have z_l_r : (l.b = r.b) = False := eq_false (D 2 4 (Nat.le_of_ble_eq_true rfl) (Nat.le_of_ble_eq_true rfl) (by decide) _ (List.mem_singleton.2 rfl) _ (List.mem_singleton.2 rfl))
  have z_l_n : (l.b = n) = False := eq_false (Ne.symm (D 1 2 (Nat.le_of_ble_eq_true rfl) (Nat.le_of_ble_eq_true rfl) (by decide) _ (List.mem_singleton.2 rfl) _ (List.mem_singleton.2 rfl)))
  have z_r_n : (r.b = n) = False := eq_false (Ne.symm (D 1 4 (Nat.le_of_ble_eq_true rfl) (Nat.le_of_ble_eq_true rfl) (by decide) _ (List.mem_singleton.2 rfl) _ (List.mem_singleton.2 rfl)))
  have z_r_l : (r.b = l.b) = False := eq_false (Ne.symm (D 2 4 (Nat.le_of_ble_eq_true rfl) (Nat.le_of_ble_eq_true rfl) (by decide) _ (List.mem_singleton.2 rfl) _ (List.mem_singleton.2 rfl)))
  have Kl : ∀ k ∈ l.kns, k < nx := fun k hk => L k (by simp [hk])
  have Kr : ∀ k ∈ r.kns, k < nx := fun k hk => L k (by simp [hk])
  have Kz : ∀ k ∈ cns z, k < nx := fun k hk => L k (by simp [hk])
  obtain ⟨ml, mlk⟩ := held_hp.1 O.fl
  obtain ⟨mr, mrk⟩ := held_hp.1 O.fr
  have hC := @c_refr nx n l.b r.b e l.e r.e (paZ z) (.pt n 0) l.lc l.rc (.pt n 0) r.lc r.rc h l.h r.h e.id l.e.id r.e.id q_n q_l q_r (of_eq_false z_n_l) (of_eq_false z_n_r) (of_eq_false z_l_r) (lc_lt Kl) (lc_lt Kr) (pa_lt Kz) (Lt.pt _ _ q_n) (Lt.pt _ _ q_n) (rc_lt Kl) (rc_lt Kr) (by omega) (by omega)
  have hko : keysOk ([(n, .var (.agg [.i (uniE l.e r.e).x, .i (uniE l.e r.e).y, .i (uniE l.e r.e).u, .i (uniE l.e r.e).w, paZ z, .pt l.b 0, .pt r.b 0, .i (1 + imax l.h r.h), .i e.id])), (l.b, l.top (.pt n 0)), (r.b, r.top (.pt n 0))] : HH) = true := by simp [keysOk, z_n_l, z_n_r, z_l_r]
  refine ⟨[(n, .var (.agg [.i (uniE l.e r.e).x, .i (uniE l.e r.e).y, .i (uniE l.e r.e).u, .i (uniE l.e r.e).w, paZ z, .pt l.b 0, .pt r.b 0, .i (1 + imax l.h r.h), .i e.id])), (l.b, l.top (.pt n 0)), (r.b, r.top (.pt n 0))], [n, l.b, r.b], hC.congr (fun k hk' => ?_), ?_⟩
  · simp only [List.mem_cons, List.not_mem_nil, or_false] at hk'
    rcases hk' with rfl | rfl | rfl
    · exact O.fn.trans (by simp only [hk_cons, z_n_l, z_n_r, if_true, if_false]; rfl)
    · exact ml.trans (by simp only [hk_cons, z_l_r, z_l_n, if_true, if_false]; rfl)
    · exact mr.trans (by simp only [hk_cons, z_r_n, z_r_l, if_true, if_false]; rfl)
  · have ul := mlk.upd (wb := [(n, .var (.agg [.i (uniE l.e r.e).x, .i (uniE l.e r.e).y, .i (uniE l.e r.e).u, .i (uniE l.e r.e).w, paZ z, .pt l.b 0, .pt r.b 0, .i (1 + imax l.h r.h), .i e.id])), (l.b, l.top (.pt n 0)), (r.b, r.top (.pt n 0))]) (fun b hb => by
      rw [show (l.kids.map (·.1)) = l.kns from rfl] at hb
      simp only [List.map_cons, List.map_nil, List.mem_cons, List.not_mem_nil, or_false, not_or]
      exact ⟨(Ne.symm (D 1 3 (Nat.le_of_ble_eq_true rfl) (Nat.le_of_ble_eq_true rfl) (by decide) _ (List.mem_singleton.2 rfl) _ hb)), (Ne.symm (D 2 3 (Nat.le_of_ble_eq_true rfl) (Nat.le_of_ble_eq_true rfl) (by decide) _ (List.mem_singleton.2 rfl) _ hb)), (D 3 4 (Nat.le_of_ble_eq_true rfl) (Nat.le_of_ble_eq_true rfl) (by decide) _ hb _ (List.mem_singleton.2 rfl))⟩)
    have ur := mrk.upd (wb := [(n, .var (.agg [.i (uniE l.e r.e).x, .i (uniE l.e r.e).y, .i (uniE l.e r.e).u, .i (uniE l.e r.e).w, paZ z, .pt l.b 0, .pt r.b 0, .i (1 + imax l.h r.h), .i e.id])), (l.b, l.top (.pt n 0)), (r.b, r.top (.pt n 0))]) (fun b hb => by
      rw [show (r.kids.map (·.1)) = r.kns from rfl] at hb
      simp only [List.map_cons, List.map_nil, List.mem_cons, List.not_mem_nil, or_false, not_or]
      exact ⟨(Ne.symm (D 1 5 (Nat.le_of_ble_eq_true rfl) (Nat.le_of_ble_eq_true rfl) (by decide) _ (List.mem_singleton.2 rfl) _ hb)), (Ne.symm (D 2 5 (Nat.le_of_ble_eq_true rfl) (Nat.le_of_ble_eq_true rfl) (by decide) _ (List.mem_singleton.2 rfl) _ hb)), (Ne.symm (D 4 5 (Nat.le_of_ble_eq_true rfl) (Nat.le_of_ble_eq_true rfl) (by decide) _ (List.mem_singleton.2 rfl) _ hb))⟩)
    have uz := O.fz.upd (wb := [(n, .var (.agg [.i (uniE l.e r.e).x, .i (uniE l.e r.e).y, .i (uniE l.e r.e).u, .i (uniE l.e r.e).w, paZ z, .pt l.b 0, .pt r.b 0, .i (1 + imax l.h r.h), .i e.id])), (l.b, l.top (.pt n 0)), (r.b, r.top (.pt n 0))]) (fun b hb => by
      rw [ctx_nos] at hb
      simp only [List.map_cons, List.map_nil, List.mem_cons, List.not_mem_nil, or_false, not_or]
      exact ⟨(Ne.symm (D 1 6 (Nat.le_of_ble_eq_true rfl) (Nat.le_of_ble_eq_true rfl) (by decide) _ (List.mem_singleton.2 rfl) _ hb)), (Ne.symm (D 2 6 (Nat.le_of_ble_eq_true rfl) (Nat.le_of_ble_eq_true rfl) (by decide) _ (List.mem_singleton.2 rfl) _ hb)), (Ne.symm (D 4 6 (Nat.le_of_ble_eq_true rfl) (Nat.le_of_ble_eq_true rfl) (by decide) _ (List.mem_singleton.2 rfl) _ hb))⟩)
    refine ⟨(updL_other _ _ _ (by simp only [List.map_cons, List.map_nil, List.mem_cons, List.not_mem_nil, or_false, not_or]; exact ⟨(D 0 1 (Nat.le_of_ble_eq_true rfl) (Nat.le_of_ble_eq_true rfl) (by decide) _ (List.mem_singleton.2 rfl) _ (List.mem_singleton.2 rfl)), (D 0 2 (Nat.le_of_ble_eq_true rfl) (Nat.le_of_ble_eq_true rfl) (by decide) _ (List.mem_singleton.2 rfl) _ (List.mem_singleton.2 rfl)), (D 0 4 (Nat.le_of_ble_eq_true rfl) (Nat.le_of_ble_eq_true rfl) (by decide) _ (List.mem_singleton.2 rfl) _ (List.mem_singleton.2 rfl))⟩)).trans O.ft, ?_, uz⟩
    refine held_cons.2 ⟨upd_at hko (by simp only [hk_cons, z_n_l, z_n_r, if_true, if_false]; simp only [NT.top, ndB, NT.e, NT.h, NT.lc, NT.rc, NT.b, NT.uni_id, he]; try rfl), held_app.2 ⟨held_hp.2 ⟨upd_at hko (by simp only [hk_cons, z_l_n, z_l_r, if_true, if_false]; try rfl), ul⟩, held_hp.2 ⟨upd_at hko (by simp only [hk_cons, z_r_n, z_r_l, if_true, if_false]; try rfl), ur⟩⟩⟩
end Go.Proofs.Ytlkngccfikeaiaa
