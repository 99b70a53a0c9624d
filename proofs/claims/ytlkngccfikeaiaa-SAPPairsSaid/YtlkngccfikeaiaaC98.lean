/-
  The reference's filter and Sort. Conditions: none.
-/
import Derived.Test.YtlkngccfikeaiaaC97
import Derived.Test.YtlkngccfikeaiaaME
import Derived.Test.YtlkngccfikeaiaaAl45
import Derived.Outline
set_option linter.all false
namespace Go.Proofs.Ytlkngccfikeaiaa
open Go.RowKit Go.AL Go.Carom
set_option maxRecDepth 20000 in
set_option maxHeartbeats 4000000 in
theorem c_rfilter (l : List En) (hl : l.length ≤ 1000000) : PCall Try.prog 21 [.sl (l.map En.v)] (.sl ((flt l).map En.v)) := by
  refine pcall_of hm Try.func21 rfl (by kernel_rfl) (by rw [Try.ntmps21]; exact Nat.le_of_ble_eq_true rfl) (lt_cons (lt_ens _ _) lt_nil) (lt_ens _ _) ?_
  rw [Try.ntmps21, Try.results21]
  have hall : fltI l l.length = flt l := fltI_all l
  repeat' (first | simp only [go_sem, ↓reduceIte, Nat.reduceLT, Nat.reduceAdd, reduceCtorEq])
  refine tr_lp hm [0] [0] (fun x' : Fs l.length => [(3, .ow 1 (fltI l x'.i).length), (4, .i x'.i)]) (fun x' : Fs l.length => [(1, .row 64 5 (fltI l x'.i).length ((fltI l x'.i).map En.v))]) (fun x' => l.length - x'.i) (Fs.start _) ?_ ?_ ?_
  · repeat' (first | exact tw_nil | refine tw_cons rfl ?_ ?_ | exact lt_i _ _ | exact lt_ens _ _ | exact Lt.ow _ _ (by decide))
    all_goals (try rfl)
  · repeat' (first | exact hw_nil | refine hw_cons (by decide) rfl bwk_rfl ?_ ?_ | refine hw_cons (by decide) rfl (.inr ⟨rfl, _, _, rfl⟩) ?_ ?_ | exact trivial | refine blt_row ?_ | exact lt_nil)
    all_goals (try rfl)
  · rintro ⟨i, hi⟩
    by_cases hlt : i < l.length
    · have E1 := ilt hlt
      have E2 := isucc hlt (show l.length ≤ maxLen by have : maxLen = 9223372036854775807 := rfl; omega)
      have E3 := en_getD hlt
      have hFl := fltI_len l i
      have hyes := fltI_yes hlt
      have hno := fltI_no hlt
      generalize l.getD i En.o = a at *
      have hz := nd_zero (fltI l i) a
      have hend := nd_all (fltI l i) a
      have j1 : HasC Try.prog 41 [.agg [.i a.x, .i a.y, .i a.u, .i a.w]] (.b (vE a)) := ⟨c_rbvalid _ _ _ _⟩
      repeat' (first | simp only [go_sem, ↓reduceIte, Nat.reduceLT, Nat.reduceEqDiff, Nat.reduceAdd, Nat.reduceLeDiff, reduceCtorEq, E1, E3] | refine cst_go ?_)
      refine tr_lp hm [0, 3, 4] [0, 1] (fun x' : Fs (fltI l i).length => [(5, .b (nd (fltI l i) a x'.i)), (6, .i x'.i)]) (fun x' : Fs (fltI l i).length => []) (fun x' => (fltI l i).length - x'.i) (Fs.start _) ?_ ?_ ?_
      · repeat' (first | exact tw_nil | refine tw_cons rfl ?_ ?_ | refine tw_cons ?_ ?_ ?_ | exact lt_i _ _ | exact lt_b _ _ | exact lt_ens _ _ | exact Lt.ow _ _ (by decide))
        all_goals (try simp only [show (Fs.start (fltI l i).length).i = 0 from rfl, hz])
        all_goals (try rfl)
      · repeat' (first | exact hw_nil | refine hw_cons (by decide) rfl bwk_rfl ?_ ?_ | exact trivial | refine blt_row ?_ | exact lt_en _ _ | refine lt_map (fun _ => ?_))
        all_goals (try rfl)
      · rintro ⟨k, hk⟩
        by_cases hlk : k < (fltI l i).length
        · have e1 := ilt hlk
          have e2 := isucc hlk (show (fltI l i).length ≤ maxLen by have : maxLen = 9223372036854775807 := rfl; omega)
          have e3 := en_getD hlk
          have hF := nd_next (e := a) hlk
          generalize (fltI l i).getD k En.o = c at *
          repeat' (first | simp only [go_sem, ↓reduceIte, Nat.reduceLT, Nat.reduceEqDiff, Nat.reduceAdd, Nat.reduceLeDiff, reduceCtorEq, e1, e2, e3, E1, E3] | (refine regOk_go ?_; kernel_rfl) | refine And.intro ?_ ?_ | (intro (_ : _ = _)))
          all_goals (try omega)
          refine ⟨Fs.next hlk, Nat.sub_lt_sub_left hlk (Nat.lt_succ_self _), wk_go (by decide) ?_ ?_⟩
          all_goals (try simp only [show (Fs.next hlk).i = k + 1 from rfl, hF])
          · repeat' (first | exact tw_nil | refine tw_cons rfl ?_ ?_ | exact lt_i _ _ | exact lt_b _ _ | exact lt_ens _ _ | exact Lt.ow _ _ (by decide))
            all_goals (try rfl)
          · repeat' (first | exact hw_nil | refine hw_cons (by decide) rfl bwk_rfl ?_ ?_ | exact trivial | refine blt_row ?_ | exact lt_en _ _ | refine lt_map (fun _ => ?_))
            all_goals (try rfl)
        · have f1 := inlt hlk
          have hkk : k = (fltI l i).length := by omega
          subst hkk
          cases hn : newE (fltI l i) a with
          | true =>
            have hF := hyes hn
            repeat' (first | simp only [go_sem, ↓reduceIte, Nat.reduceLT, Nat.reduceEqDiff, Nat.reduceAdd, Nat.reduceLeDiff, Nat.reduceMul, reduceCtorEq, f1, hend, hn, E1, E2, E3] | refine And.intro ?_ ?_)
            all_goals (try omega)
            refine ⟨Fs.next hlt, Nat.sub_lt_sub_left hlt (Nat.lt_succ_self _), wk_go (by decide) ?_ ?_⟩
            all_goals (try simp only [show (Fs.next hlt).i = i + 1 from rfl, hF, List.map_append, List.length_append])
            · repeat' (first | exact tw_nil | refine tw_cons rfl ?_ ?_ | exact lt_i _ _ | exact lt_ens _ _ | exact Lt.ow _ _ (by decide))
              all_goals (try rfl)
            · repeat' (first | exact hw_nil | refine hw_cons (by decide) rfl bwk_rfl ?_ ?_ | exact trivial | refine blt_row ?_ | exact lt_en _ _ | exact lt_nil | refine lt_cons ?_ ?_ | refine lt_app ?_ ?_ | refine lt_map (fun _ => ?_))
              all_goals (try rfl)
          | false =>
            have hF := hno hn
            repeat' (first | simp only [go_sem, ↓reduceIte, Nat.reduceLT, Nat.reduceEqDiff, Nat.reduceAdd, reduceCtorEq, f1, hend, hn, E2])
            all_goals (try omega)
            refine ⟨Fs.next hlt, Nat.sub_lt_sub_left hlt (Nat.lt_succ_self _), wk_go (by decide) ?_ ?_⟩
            all_goals (try simp only [show (Fs.next hlt).i = i + 1 from rfl, hF])
            · repeat' (first | exact tw_nil | refine tw_cons rfl ?_ ?_ | exact lt_i _ _ | exact lt_ens _ _ | exact Lt.ow _ _ (by decide))
              all_goals (try rfl)
            · repeat' (first | exact hw_nil | refine hw_cons (by decide) rfl bwk_rfl ?_ ?_ | exact trivial | refine blt_row ?_ | exact lt_en _ _ | refine lt_map (fun _ => ?_))
              all_goals (try rfl)
    · have f1 := inlt hlt
      have hii : i = l.length := by omega
      subst hii
      repeat' (first | simp only [go_sem, ↓reduceIte, Nat.reduceLT, Nat.reduceEqDiff, Nat.reduceAdd, reduceCtorEq, f1, hall])
      all_goals (try rfl)
end Go.Proofs.Ytlkngccfikeaiaa
