/-
  Package bvh: rebalance. Conditions: none.
-/
import Derived.Test.YtlkngccfikeaiaaC140
import Derived.Test.YtlkngccfikeaiaaMF
import Derived.Outline
set_option linter.all false
namespace Go.Proofs.Ytlkngccfikeaiaa
open Go.RowKit Go.AL Go.Carom
theorem cls_big {nx bt bm : Nat} {z : List Fr} {s : NT} (I : ZI nx bt z s) : Cls (hk (bigH bt bm z s)) bt bm s z := by
  have h := held_hk (L := bigH bt bm z s) (by rw [big_keys]; exact I.nd)
  obtain ⟨h1, h2⟩ := held_cons.1 h
  obtain ⟨h3, h4⟩ := held_app.1 h2
  exact ⟨h1, h3, h4⟩
theorem big_cls {M : Nat → Option ABox} {bt bm : Nat} {z : List Fr} {s : NT} (h : Cls M bt bm s z) : Held M (bigH bt bm z s) := held_cons.2 ⟨h.ft, held_app.2 ⟨h.fs, h.fz⟩⟩
theorem zi_open {nx bt bm : Nat} {f : Fr} {z : List Fr} {s : NT} {M : Nat → Option ABox} (I : ZI nx bt (f :: z) s) (hM : Cls M bt bm s (f :: z)) :
    ∃ l r, Opn nx M bt bm f.b f.e f.h l r z ∧ f.bal s = NT.bal f.b l r ∧ (l.Hok ∧ r.Hok ∧ f.e.id = 0) ∧ (0 ≤ l.h ∧ l.h ≤ 200) ∧ 0 ≤ r.h ∧ r.h ≤ 200 := by
  have hf := I.hz f List.mem_cons_self
  have hsz := I.sz
  have p1 := NT.h_le I.hs
  have p2 := NT.h_le hf.2
  have p3 := (NT.h_pos I.hs).1
  have p4 := (NT.h_pos hf.2).1
  have hc : cns (f :: z) = f.b :: (f.sib.nos ++ cns z) := rfl
  rw [hc, List.length_append, List.length_cons, List.length_append] at hsz
  have hnd := I.nd
  have hlt := I.lt
  rw [hc] at hnd hlt
  obtain ⟨hm, hz'⟩ := held_cons.1 (show Held M ((f.b, _) :: (f.sib.hp (.pt f.b 0) ++ ctx z f.b)) from hM.fz)
  obtain ⟨hs', hz⟩ := held_app.1 hz'
  obtain ⟨left, b, e, h, sib⟩ := f
  dsimp only at *
  cases left with
  | true =>
    have hp : (bt :: (s.nos ++ (b :: (sib.nos ++ cns z)))).Perm (bt :: b :: (s.nos ++ (sib.nos ++ cns z))) := List.Perm.cons bt List.perm_middle
    exact ⟨s, sib, ⟨hM.ft, hm, hM.fs, hs', hz, hp.nodup_iff.1 hnd, fun k hk => hlt k (hp.mem_iff.2 hk)⟩, rfl, ⟨I.hs, hf.2, hf.1⟩, ⟨by omega, by omega⟩, by omega, by omega⟩
  | false =>
    have hp : (bt :: (s.nos ++ (b :: (sib.nos ++ cns z)))).Perm (bt :: b :: (sib.nos ++ (s.nos ++ cns z))) := by
      refine List.Perm.cons bt (List.perm_middle.trans (List.Perm.cons b ?_))
      rw [← List.append_assoc, ← List.append_assoc]
      exact List.Perm.append_right _ List.perm_append_comm
    exact ⟨sib, s, ⟨hM.ft, hm, hs', hM.fs, hz, hp.nodup_iff.1 hnd, fun k hk => hlt k (hp.mem_iff.2 hk)⟩, rfl, ⟨hf.2, I.hs, hf.1⟩, ⟨by omega, by omega⟩, by omega, by omega⟩
theorem zi_next {nx bt : Nat} {f : Fr} {z : List Fr} {s : NT} (I : ZI nx bt (f :: z) s) : ZI nx bt z (f.bal s) := by
  have hp : (bt :: ((f.bal s).nos ++ cns z)).Perm (bt :: (s.nos ++ cns (f :: z))) := by
    refine List.Perm.cons bt ((List.Perm.append_right _ (f.bal_nos s)).trans ?_)
    show (f.b :: (s.nos ++ f.sib.nos) ++ cns z).Perm (s.nos ++ (f.b :: (f.sib.nos ++ cns z)))
    rw [List.cons_append, List.append_assoc]
    exact List.perm_middle.symm
  have hf := I.hz f List.mem_cons_self
  refine ⟨hp.nodup_iff.2 I.nd, fun k hk => I.lt k (hp.mem_iff.1 hk), ?_, ?_, fun g hg => I.hz g (List.mem_cons_of_mem _ hg)⟩
  · have h1 := hp.length_eq
    have h2 := I.sz
    rw [List.length_cons, List.length_cons] at h1
    omega
  · unfold Fr.bal
    split
    · exact bal_hok I.hs hf.2
    · exact bal_hok hf.2 I.hs
set_option maxRecDepth 20000 in
set_option maxHeartbeats 8000000 in
theorem c_rebal {nx bt bm : Nat} (q_bm : bm < nx) (z : List Fr) (s : NT) (I : ZI nx bt z s) : CallS Try.prog (hk (bigH bt bm z s)) nx 32 [.pt bt 0, paZ z] ⟨.tup [], bigH bt bm [] (upZ z s), 0, (bigH bt bm z s).map (·.1)⟩ := by
  have q_bt := I.lt bt List.mem_cons_self
  have hU := I.up
  have Kz0 : ∀ k ∈ cns z, k < nx := fun k hk => I.lt k (List.mem_cons_of_mem _ (List.mem_append_right _ hk))
  refine calls_go (.tup []) (bigH bt bm [] (upZ z s)) 0 hm Try.func32 rfl (by kernel_rfl) Try.ntmps32 Try.results32 rfl ?_ ?_ ?_ ?_ ?_ ?_ ?_
  · exact Lts.cons (Lt.pt _ _ q_bt) (Lts.cons (pa_lt' Kz0) Lts.nil)
  · exact I.hbs q_bm
  · exact lt_tup lt_nil
  · exact .cons q_bt (.var (lt_agg (lt_cons (Lt.pt _ _ (hU.2 _ (List.mem_cons_of_mem _ (nos_top _)))) (lt_cons (Lt.mp _ q_bm) lt_nil)))) (hbs_app (hbs_hp _ (fun k hk => hU.2 k (List.mem_cons_of_mem _ hk)) (Lt.sc _)) .nil)
  · exact keys_nodup (by rw [big_keys, show cns [] = [] from rfl, List.append_nil]; exact hU.1)
  · intro p hp
    have h1 : p.1 ∈ (bigH bt bm z s).map (·.1) := List.mem_map.2 ⟨p, hp, rfl⟩
    rw [big_keys] at h1
    rw [big_keys, show cns [] = [] from rfl, List.append_nil]
    exact (((up_nos z s).cons bt).mem_iff).2 h1
  have m0 : maxLen = 9223372036854775807 := rfl
  refine tr_ac hm ?_
  repeat' (first | simp only [go_sem, Nat.reduceAdd, Int.reduceNeg])
  refine tr_lp hm [0] [] (fun x' : {x : List Fr × NT // upZ x.1 x.2 = upZ z s ∧ ZI nx bt x.1 x.2} => [(1, paZ x'.1.1)]) (fun x' : {x : List Fr × NT // upZ x.1 x.2 = upZ z s ∧ ZI nx bt x.1 x.2} => bigH bt bm x'.1.1 x'.1.2) (fun x' => x'.1.1.length) (⟨(z, s), rfl, I⟩) ?_ ?_ ?_
  · repeat' (first | exact tw_nil | refine tw_cons rfl ?_ ?_)
    all_goals (try rfl)
    all_goals (try exact pa_lt' Kz0)
    all_goals (try exact Lt.pt _ _ q_bt)
  · simp only [selH_nil, List.append_nil]
    exact hwk_held (held_hk (by rw [big_keys]; exact I.nd)) (I.hbs q_bm)
  · rintro ⟨⟨z', s'⟩, he', I'⟩
    dsimp only at he' I'
    simp only [selH_nil, List.append_nil]
    match z', he', I' with
    | [], he', I' =>
      have hs' : s' = upZ z s := he'
      subst hs'
      generalize bigH bt bm [] (upZ z s) = Hh at *
      repeat' (first | simp only [go_sem, ↓reduceIte, Nat.reduceLT, reduceCtorEq, Int.reduceNeg, paZ, Nat.add_zero] | refine aext_pnn rfl rfl rfl rfl (by decide) ?_)
      exact HSub.refl _
    | ⟨left, n, e, h, sib⟩ :: z', he', I' =>
      have hM := cls_big (bm := bm) I'
      obtain ⟨l, r, O, hb, ⟨hlk, hrk, hid⟩, b1, b2, b3⟩ := zi_open I' hM
      have Kz : ∀ k ∈ cns z', k < nx := fun k hk => O.flt k (by simp [hk])
      have hn := O.fn
      have hl := (held_hp.1 O.fl).1
      have hr := (held_hp.1 O.fr).1
      unfold ndB at hn
      unfold NT.top ndB at hl hr
      dsimp only at O hn hl hr hid
      have e0 : ([[bt], [n], [l.b], l.kns, [r.b], r.kns, cns z'] : List (List Nat)).flatten = bt :: n :: (l.nos ++ (r.nos ++ cns z')) := by simp [NT.nos_eq]
      have hnd : ([[bt], [n], [l.b], l.kns, [r.b], r.kns, cns z'] : List (List Nat)).flatten.Nodup := by rw [e0]; exact O.fd
      have D := List.pairwise_iff_getElem.1 (List.pairwise_flatten.1 hnd).2
      have z_n_l : (n = l.b) = False := eq_false (D 1 2 (Nat.le_of_ble_eq_true rfl) (Nat.le_of_ble_eq_true rfl) (by decide) _ (List.mem_singleton.2 rfl) _ (List.mem_singleton.2 rfl))
      have z_n_r : (n = r.b) = False := eq_false (D 1 4 (Nat.le_of_ble_eq_true rfl) (Nat.le_of_ble_eq_true rfl) (by decide) _ (List.mem_singleton.2 rfl) _ (List.mem_singleton.2 rfl))
      have z_l_r : (l.b = r.b) = False := eq_false (D 2 4 (Nat.le_of_ble_eq_true rfl) (Nat.le_of_ble_eq_true rfl) (by decide) _ (List.mem_singleton.2 rfl) _ (List.mem_singleton.2 rfl))
      have z_l_n : (l.b = n) = False := eq_false (Ne.symm (D 1 2 (Nat.le_of_ble_eq_true rfl) (Nat.le_of_ble_eq_true rfl) (by decide) _ (List.mem_singleton.2 rfl) _ (List.mem_singleton.2 rfl)))
      have z_r_n : (r.b = n) = False := eq_false (Ne.symm (D 1 4 (Nat.le_of_ble_eq_true rfl) (Nat.le_of_ble_eq_true rfl) (by decide) _ (List.mem_singleton.2 rfl) _ (List.mem_singleton.2 rfl)))
      have z_r_l : (r.b = l.b) = False := eq_false (Ne.symm (D 2 4 (Nat.le_of_ble_eq_true rfl) (Nat.le_of_ble_eq_true rfl) (by decide) _ (List.mem_singleton.2 rfl) _ (List.mem_singleton.2 rfl)))
      clear D hnd e0
      have hw : IntKind.i64.wrap (l.h - r.h) = l.h - r.h := w64_id (by omega) (by omega)
      rw [show paZ (⟨left, n, e, h, sib⟩ :: z') = .pt n 0 from rfl]
      generalize bigH bt bm (⟨left, n, e, h, sib⟩ :: z') s' = Hh at *
      have hpg : AV.get (paZ z') = paZ z' := by cases z' <;> rfl
      have hpc : AV.cond (paZ z') = true := by cases z' <;> rfl
      simp only [AV.get] at hpg
      simp only [AV.cond] at hpc
      by_cases c1 : 1 < l.h - r.h
      · have d1 : (1 < l.h - r.h) = True := eq_true c1
        obtain ⟨c, ec, hc, p, q, rfl⟩ : ∃ c ec hc p q, l = .nd c ec hc p q := by
          cases l with
          | lf b e => exact absurd c1 (by show ¬ 1 < (1 : Int) - r.h; omega)
          | nd c ec hc p q => exact ⟨c, ec, hc, p, q, rfl⟩
        obtain ⟨hec, hch, hpk, hqk⟩ := hlk
        have q1 := (NT.h_pos hpk).1
        have q2 := (NT.h_pos hqk).1
        have q3 := imax_of p.h q.h
        have q4 : (NT.nd c ec hc p q).h = hc := rfl
        have hroot : (NT.rot n (.nd c ec hc p q) r).b = c := by unfold NT.rot; dsimp only; split <;> rfl
        obtain ⟨wb, rb, hC, hN⟩ := rz_l q_bm O hid hec (by omega) (by omega) (by omega)
        have hbal : Fr.bal ⟨left, n, e, h, sib⟩ s' = NT.rot n (.nd c ec hc p q) r := by rw [hb]; unfold NT.bal; exact if_pos c1
        have htop : hk (hputs Hh wb) c = some (.var (.agg [.i (NT.rot n (.nd c ec hc p q) r).e.x, .i (NT.rot n (.nd c ec hc p q) r).e.y, .i (NT.rot n (.nd c ec hc p q) r).e.u, .i (NT.rot n (.nd c ec hc p q) r).e.w, paZ z', (NT.rot n (.nd c ec hc p q) r).lc, (NT.rot n (.nd c ec hc p q) r).rc, .i (NT.rot n (.nd c ec hc p q) r).h, .i (NT.rot n (.nd c ec hc p q) r).e.id])) := by
          have h := (held_hp.1 hN.fs).1
          rw [hroot] at h
          rw [hk_hputs]; exact h
        have hnext := zi_next I'
        rw [hbal] at hnext
        repeat' (first | simp only [go_sem, ↓reduceIte, Nat.reduceLT, Nat.reduceEqDiff, Nat.reduceAdd, Nat.reduceLeDiff, reduceCtorEq, Int.reduceNeg, hn, hl, hr, htop, hw, hpg, hpc, d1, Nat.add_zero] | refine aext_ppn rfl (.pt _ _) rfl rfl (by decide) ?_ | refine cst_cs hC ?_ | (refine regOk_go ?_; kernel_rfl) | refine And.intro ?_ ?_)
        all_goals (try omega)
        refine ⟨⟨(z', NT.rot n (.nd c ec hc p q) r), by rw [← hbal]; exact he', hnext⟩, Nat.lt_succ_self _, wk_go (by omega) ?_ (hwk_held ?_ (hnext.hbs q_bm))⟩
        · repeat' (first | exact tw_nil | refine tw_cons rfl ?_ ?_)
          all_goals (try rfl)
          all_goals (try exact pa_lt' Kz)
          all_goals (try exact Lt.pt _ _ q_bt)
        · rw [hk_hputs]; exact big_cls hN
      · have d1 : (1 < l.h - r.h) = False := eq_false c1
        by_cases c2 : l.h - r.h < -1
        · have d2 : (l.h - r.h < -1) = True := eq_true c2
          obtain ⟨c, ec, hc, p, q, rfl⟩ : ∃ c ec hc p q, r = .nd c ec hc p q := by
            cases r with
            | lf b e => exact absurd c2 (by show ¬ l.h - (1 : Int) < -1; omega)
            | nd c ec hc p q => exact ⟨c, ec, hc, p, q, rfl⟩
          obtain ⟨hec, hch, hpk, hqk⟩ := hrk
          have q1 := (NT.h_pos hpk).1
          have q2 := (NT.h_pos hqk).1
          have q3 := imax_of p.h q.h
          have q4 : (NT.nd c ec hc p q).h = hc := rfl
          have hroot : (NT.rot n (.nd c ec hc p q) l).b = c := by unfold NT.rot; dsimp only; split <;> rfl
          obtain ⟨wb, rb, hC, hN⟩ := rz_r q_bm O hid hec (by omega) (by omega) (by omega)
          have hbal : Fr.bal ⟨left, n, e, h, sib⟩ s' = NT.rot n (.nd c ec hc p q) l := by rw [hb]; unfold NT.bal; rw [if_neg c1]; exact if_pos c2
          have htop : hk (hputs Hh wb) c = some (.var (.agg [.i (NT.rot n (.nd c ec hc p q) l).e.x, .i (NT.rot n (.nd c ec hc p q) l).e.y, .i (NT.rot n (.nd c ec hc p q) l).e.u, .i (NT.rot n (.nd c ec hc p q) l).e.w, paZ z', (NT.rot n (.nd c ec hc p q) l).lc, (NT.rot n (.nd c ec hc p q) l).rc, .i (NT.rot n (.nd c ec hc p q) l).h, .i (NT.rot n (.nd c ec hc p q) l).e.id])) := by
            have h := (held_hp.1 hN.fs).1
            rw [hroot] at h
            rw [hk_hputs]; exact h
          have hnext := zi_next I'
          rw [hbal] at hnext
          repeat' (first | simp only [go_sem, ↓reduceIte, Nat.reduceLT, Nat.reduceEqDiff, Nat.reduceAdd, Nat.reduceLeDiff, reduceCtorEq, Int.reduceNeg, hn, hl, hr, htop, hw, hpg, hpc, d1, d2, Nat.add_zero] | refine aext_ppn rfl (.pt _ _) rfl rfl (by decide) ?_ | refine cst_cs hC ?_ | (refine regOk_go ?_; kernel_rfl) | refine And.intro ?_ ?_)
          all_goals (try omega)
          refine ⟨⟨(z', NT.rot n (.nd c ec hc p q) l), by rw [← hbal]; exact he', hnext⟩, Nat.lt_succ_self _, wk_go (by omega) ?_ (hwk_held ?_ (hnext.hbs q_bm))⟩
          · repeat' (first | exact tw_nil | refine tw_cons rfl ?_ ?_)
            all_goals (try rfl)
            all_goals (try exact pa_lt' Kz)
            all_goals (try exact Lt.pt _ _ q_bt)
          · rw [hk_hputs]; exact big_cls hN
        · have d2 : (l.h - r.h < -1) = False := eq_false c2
          have hroot : (NT.fr n l r).b = n := rfl
          obtain ⟨wb, rb, hC, hN⟩ := rz_f O hid (by omega) (by omega)
          have hbal : Fr.bal ⟨left, n, e, h, sib⟩ s' = NT.fr n l r := by rw [hb]; unfold NT.bal; rw [if_neg c1]; exact if_neg c2
          have htop : hk (hputs Hh wb) n = some (.var (.agg [.i (NT.fr n l r).e.x, .i (NT.fr n l r).e.y, .i (NT.fr n l r).e.u, .i (NT.fr n l r).e.w, paZ z', (NT.fr n l r).lc, (NT.fr n l r).rc, .i (NT.fr n l r).h, .i (NT.fr n l r).e.id])) := by
            have h := (held_hp.1 hN.fs).1
            rw [hroot] at h
            rw [hk_hputs]; exact h
          have hnext := zi_next I'
          rw [hbal] at hnext
          repeat' (first | simp only [go_sem, ↓reduceIte, Nat.reduceLT, Nat.reduceEqDiff, Nat.reduceAdd, Nat.reduceLeDiff, reduceCtorEq, Int.reduceNeg, hn, hl, hr, htop, hw, hpg, hpc, d1, d2, Nat.add_zero] | refine aext_ppn rfl (.pt _ _) rfl rfl (by decide) ?_ | refine cst_cs hC ?_ | (refine regOk_ns [n, l.b, r.b] (by simp [z_n_l, z_n_r, z_l_r]) [([], []), ([], []), ([], []), ([0], []), ([], []), ([], []), ([1], []), ([], []), ([], []), ([], []), ([0], []), ([], []), ([], []), ([2], []), ([], []), ([], [])] rfl rfl ?_; kernel_rfl) | refine And.intro ?_ ?_)
          all_goals (try omega)
          refine ⟨⟨(z', NT.fr n l r), by rw [← hbal]; exact he', hnext⟩, Nat.lt_succ_self _, wk_go (by omega) ?_ (hwk_held ?_ (hnext.hbs q_bm))⟩
          · repeat' (first | exact tw_nil | refine tw_cons rfl ?_ ?_)
            all_goals (try rfl)
            all_goals (try exact pa_lt' Kz)
            all_goals (try exact Lt.pt _ _ q_bt)
          · rw [hk_hputs]; exact big_cls hN
end Go.Proofs.Ytlkngccfikeaiaa
