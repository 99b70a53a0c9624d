/-
  The reference's Pairs. Conditions: none.
-/
import Derived.Test.YtlkngccfikeaiaaC98
import Derived.Test.YtlkngccfikeaiaaC101
import Derived.Test.YtlkngccfikeaiaaMF
import Derived.Outline
set_option linter.all false
namespace Go.Proofs.Ytlkngccfikeaiaa
open Go.RowKit Go.AL Go.Carom
theorem c_rovE (a c : En) : PCall Try.prog 22 [.agg [.i a.x, .i a.y, .i a.u, .i a.w], .agg [.i c.x, .i c.y, .i c.u, .i c.w]] (.b (ovE a c)) := by
  have h := c_rboverlaps a.x a.y a.u a.w c.x c.y c.u c.w
  have e : boverlaps a.x a.y a.u a.w c.x c.y c.u c.w = ovE a c := by
    unfold boverlaps bover ovE ovl vE
    rfl
  rw [e] at h
  exact h
set_option maxRecDepth 20000 in
set_option maxHeartbeats 4000000 in
theorem c_rprs (l : List En) (hl : l.length ≤ 1000) : PCall Try.prog 9 [.sl (l.map En.v)] (.sl ((pairsE l).map P2.v)) := by
  refine pcall_of hm Try.func9 rfl (by kernel_rfl) (by rw [Try.ntmps9]; exact Nat.le_of_ble_eq_true rfl) (lt_cons (lt_ens _ _) lt_nil) (lt_p2s _ _) ?_
  rw [Try.ntmps9, Try.results9]
  have i1 : HasC Try.prog 21 [.sl (l.map En.v)] (.sl ((flt l).map En.v)) := ⟨c_rfilter l (by omega)⟩
  have hLl : (flt l).length ≤ 1000 := by rw [← fltI_all]; exact Nat.le_trans (fltI_len l _) hl
  have hall := ref_pairs l
  generalize flt l = L at *
  repeat' (first | simp only [go_sem, ↓reduceIte, Nat.reduceLT, Nat.reduceAdd, reduceCtorEq] | refine cst_go ?_)
  refine tr_fz0 4 1 [(0, .nl)] rfl rfl rfl ?_
  refine tr_lp hm [3] [0] (fun x' : Fs L.length => [(4, .sl ((rpI L x'.i).map P2.v)), (5, .i x'.i)]) (fun x' : Fs L.length => []) (fun x' => L.length - x'.i) (Fs.start _) ?_ ?_ ?_
  · repeat' (first | exact tw_nil | refine tw_cons rfl ?_ ?_ | exact lt_i _ _ | exact lt_ens _ _ | exact lt_p2s _ _)
    all_goals (try rfl)
  · repeat' (first | exact hw_nil | refine hw_cons (by decide) rfl bwk_rfl ?_ ?_ | exact trivial)
    all_goals (try rfl)
  · rintro ⟨i, hi⟩
    by_cases hlt : i < L.length
    · have E1 := ilt hlt
      have E2 := isucc hlt (show L.length ≤ maxLen by have : maxLen = 9223372036854775807 := rfl; omega)
      have E3 := en_getD hlt
      have hbd := fun k (h : k ≤ i) => rp_bd hlt h hLl
      have hN := rpI_next L i
      obtain ⟨a, hae⟩ : ∃ a, L.getD i En.o = a := ⟨_, rfl⟩
      rw [hae] at E3 hbd hN
      repeat' (first | simp only [go_sem, ↓reduceIte, Nat.reduceLT, Nat.reduceEqDiff, Nat.reduceAdd, E1])
      refine tr_lp hm [3, 5] [0] (fun x' : Fs i => [(4, .sl ((rpK L a (rpI L i) x'.i).map P2.v)), (6, .i x'.i)]) (fun x' : Fs i => []) (fun x' => i - x'.i) (Fs.start _) ?_ ?_ ?_
      · repeat' (first | exact tw_nil | refine tw_cons rfl ?_ ?_ | exact lt_i _ _ | exact lt_ens _ _ | exact lt_p2s _ _)
        all_goals (try simp only [show (Fs.start i).i = 0 from rfl, rpK_zero])
        all_goals (try rfl)
      · repeat' (first | exact hw_nil | refine hw_cons (by decide) rfl bwk_rfl ?_ ?_ | exact trivial)
        all_goals (try rfl)
      · rintro ⟨k, hk⟩
        by_cases hlk : k < i
        · have e1 := ilt hlk
          have e2 := isucc hlk (show i ≤ maxLen by have : maxLen = 9223372036854775807 := rfl; omega)
          have e3 := en_getD (show k < L.length by omega)
          have hb := hbd k (by omega)
          have hy := rpK_yes (F := L) (a := a) (acc := rpI L i) (k := k)
          have hn := rpK_no (F := L) (a := a) (acc := rpI L i) (k := k)
          have j1 := c_rovE a (L.getD k En.o)
          generalize L.getD k En.o = c at *
          generalize rpK L a (rpI L i) k = A at *
          cases ho : ovE a c with
          | true =>
            have hF := hy ho
            rw [ho] at j1
            have j2 : HasC Try.prog 22 [.agg [.i a.x, .i a.y, .i a.u, .i a.w], .agg [.i c.x, .i c.y, .i c.u, .i c.w]] (.b true) := ⟨j1⟩
            have j3 : HasC Try.prog 23 [.sl (A.map P2.v), .agg [.i (if c.id < a.id then c.id else a.id), .i (if a.id < c.id then c.id else a.id)]] (.sl ((insD p2l (mkP a c) A).map P2.v)) := ⟨c_rins A hb (mkP a c)⟩
            repeat' (first | simp only [go_sem, ↓reduceIte, Nat.reduceLT, Nat.reduceEqDiff, Nat.reduceAdd, Nat.reduceLeDiff, reduceCtorEq, e1, e2, e3, E1, E3] | refine cst_go ?_ | (refine regOk_go ?_; kernel_rfl) | refine And.intro ?_ ?_)
            all_goals (try omega)
            refine ⟨Fs.next hlk, Nat.sub_lt_sub_left hlk (Nat.lt_succ_self _), wk_go (by decide) ?_ ?_⟩
            all_goals (try simp only [show (Fs.next hlk).i = k + 1 from rfl, hF])
            · repeat' (first | exact tw_nil | refine tw_cons rfl ?_ ?_ | exact lt_i _ _ | exact lt_ens _ _ | exact lt_p2s _ _)
              all_goals (try rfl)
            · repeat' (first | exact hw_nil | refine hw_cons (by decide) rfl bwk_rfl ?_ ?_ | exact trivial)
              all_goals (try rfl)
          | false =>
            have hF := hn ho
            rw [ho] at j1
            have j2 : HasC Try.prog 22 [.agg [.i a.x, .i a.y, .i a.u, .i a.w], .agg [.i c.x, .i c.y, .i c.u, .i c.w]] (.b false) := ⟨j1⟩
            repeat' (first | simp only [go_sem, ↓reduceIte, Nat.reduceLT, Nat.reduceEqDiff, Nat.reduceAdd, Nat.reduceLeDiff, reduceCtorEq, e1, e2, e3, E1, E3] | refine cst_go ?_ | (refine regOk_go ?_; kernel_rfl) | refine And.intro ?_ ?_)
            all_goals (try omega)
            refine ⟨Fs.next hlk, Nat.sub_lt_sub_left hlk (Nat.lt_succ_self _), wk_go (by decide) ?_ ?_⟩
            all_goals (try simp only [show (Fs.next hlk).i = k + 1 from rfl, hF])
            · repeat' (first | exact tw_nil | refine tw_cons rfl ?_ ?_ | exact lt_i _ _ | exact lt_ens _ _ | exact lt_p2s _ _)
              all_goals (try rfl)
            · repeat' (first | exact hw_nil | refine hw_cons (by decide) rfl bwk_rfl ?_ ?_ | exact trivial)
              all_goals (try rfl)
        · have hkk : k = i := by have : k ≤ i := hk; omega
          subst hkk
          have f1 := inlt hlk
          repeat' (first | simp only [go_sem, ↓reduceIte, Nat.reduceLT, Nat.reduceEqDiff, Nat.reduceAdd, f1, E2])
          all_goals (try omega)
          refine ⟨Fs.next hlt, Nat.sub_lt_sub_left hlt (Nat.lt_succ_self _), wk_go (by decide) ?_ ?_⟩
          all_goals (try simp only [show (Fs.next hlt).i = i + 1 from rfl, hN])
          · repeat' (first | exact tw_nil | refine tw_cons rfl ?_ ?_ | refine tw_cons ?_ ?_ ?_ | exact lt_i _ _ | exact lt_ens _ _ | exact lt_p2s _ _)
            all_goals (try rfl)
            all_goals (try (show _ = AV.sl (List.map P2.v (rpI L (k + 1))); rw [hN]; rfl))
          · repeat' (first | exact hw_nil | refine hw_cons (by decide) rfl bwk_rfl ?_ ?_ | exact trivial)
            all_goals (try rfl)
    · have f1 := inlt hlt
      have hii : i = L.length := by omega
      subst hii
      repeat' (first | simp only [go_sem, ↓reduceIte, Nat.reduceLT, Nat.reduceEqDiff, Nat.reduceAdd, f1, hall])
      all_goals (try rfl)
end Go.Proofs.Ytlkngccfikeaiaa
