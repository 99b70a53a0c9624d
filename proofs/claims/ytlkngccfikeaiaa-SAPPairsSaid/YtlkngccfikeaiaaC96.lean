/-
  sap.MaxOverlap and the example's parts. Conditions: none.
-/
import Derived.Test.YtlkngccfikeaiaaC95
import Derived.Test.YtlkngccfikeaiaaME
import Derived.Outline
set_option linter.all false
namespace Go.Proofs.Ytlkngccfikeaiaa
open Go.RowKit Go.AL Go.Carom
set_option maxRecDepth 20000 in
set_option maxHeartbeats 4000000 in
theorem c_max (l : List En) (hl : l.length ≤ 1000000) : PCall Try.prog 13 [.sl (l.map En.v)] (.tup [.i (mxP (sortE l) (sortE l).length).1, .i (mxP (sortE l) (sortE l).length).2]) := by
  refine pcall_of hm Try.func13 rfl (by kernel_rfl) (by rw [Try.ntmps13]; exact Nat.le_of_ble_eq_true rfl) (lt_cons (lt_ens _ _) lt_nil) (lt_tup (lt_cons (lt_i _ _) (lt_cons (lt_i _ _) lt_nil))) ?_
  rw [Try.ntmps13, Try.results13]
  have i1 : HasC Try.prog 17 [.sl (l.map En.v)] (.sl ((sortE l).map En.v)) := ⟨c_sort l hl⟩
  have hLl : (sortE l).length ≤ 1000000 := Nat.le_trans (sortE_len l) hl
  generalize sortE l = L at *
  repeat' (first | simp only [go_sem, ↓reduceIte, Nat.reduceLT, Nat.reduceEqDiff, Nat.reduceAdd, reduceCtorEq] | refine cst_go ?_)
  refine tr_lp hm [4, 14, 15] [] (fun x' : Fs L.length => [(5, .i (mxP L x'.i).1), (6, .i (mxP L x'.i).2), (16, .i x'.i)]) (fun x' : Fs L.length => []) (fun x' => L.length - x'.i) (Fs.start _) ?_ ?_ ?_
  · repeat' (first | exact tw_nil | refine tw_cons rfl ?_ ?_ | exact lt_i _ _ | exact lt_ens _ _)
    all_goals (try rfl)
  · repeat' (first | exact hw_nil)
  · rintro ⟨i, hi⟩
    by_cases hlt : i < L.length
    · have E1 := ilt hlt
      have E2 := isucc hlt (show L.length ≤ maxLen by have : maxLen = 9223372036854775807 := rfl; omega)
      have E3 := en_getD hlt
      have hIn := mxP_in (L := L) (i := i)
      have hOut := mxP_out (L := L) (i := i)
      generalize L.getD i En.o = a at *
      repeat' (first | simp only [go_sem, ↓reduceIte, Nat.reduceLT, Nat.reduceEqDiff, Nat.reduceAdd, Nat.reduceLeDiff, reduceCtorEq, E1, E3])
      refine tr_lp hm [4, 5, 6, 7, 8, 14, 15, 16, 21, 22] [0] (fun x' : Fs L.length => [(9, .i (cntI L a.x x'.i)), (23, .i x'.i)]) (fun x' : Fs L.length => []) (fun x' => L.length - x'.i) (Fs.start _) ?_ ?_ ?_
      · repeat' (first | exact tw_nil | refine tw_cons rfl ?_ ?_ | exact lt_i _ _ | exact Lt.pt _ _ (by decide) | exact lt_ens _ _)
        all_goals (try rfl)
      · repeat' (first | exact hw_nil | refine hw_cons (by decide) rfl bwk_rfl ?_ ?_ | exact lt_en _ _)
        all_goals (try rfl)
      · rintro ⟨k, hk⟩
        by_cases hlk : k < L.length
        · have e1 := ilt hlk
          have e2 := isucc hlk (show L.length ≤ maxLen by have : maxLen = 9223372036854775807 := rfl; omega)
          have e3 := en_getD hlk
          have hin := cnt_in (L := L) (x := a.x) (n := k)
          have hout := cnt_out (L := L) (x := a.x) (n := k)
          have hb := cntI_bd L a.x k
          have hw : IntKind.i64.wrap (cntI L a.x k + 1) = cntI L a.x k + 1 := by rw [IntKind.wrap_i64]; omega
          generalize L.getD k En.o = c at *
          have hov : ∀ b, (decide (c.x ≤ a.x) && decide (a.x ≤ c.u)) = b → ovx c a.x = b := fun b h => h
          repeat' (first | simp only [go_sem, ↓reduceIte, Nat.reduceLT, Nat.reduceEqDiff, Nat.reduceAdd, Nat.reduceLeDiff, reduceCtorEq, e1, e2, e3, hw] | refine acond_split (fun _ => ?_) (fun _ => ?_))
          · rename_i hc
            have hF := hin (hov _ hc)
            refine ⟨Fs.next hlk, Nat.sub_lt_sub_left hlk (Nat.lt_succ_self _), wk_go (by decide) ?_ ?_⟩
            all_goals (try simp only [show (Fs.next hlk).i = k + 1 from rfl, hF])
            · repeat' (first | exact tw_nil | refine tw_cons rfl ?_ ?_ | exact lt_i _ _ | exact Lt.pt _ _ (by decide) | exact lt_ens _ _)
              all_goals (try rfl)
            · repeat' (first | exact hw_nil | refine hw_cons (by decide) rfl bwk_rfl ?_ ?_ | exact lt_en _ _)
              all_goals (try rfl)
          · rename_i hc
            have hF := hout (hov _ hc)
            refine ⟨Fs.next hlk, Nat.sub_lt_sub_left hlk (Nat.lt_succ_self _), wk_go (by decide) ?_ ?_⟩
            all_goals (try simp only [show (Fs.next hlk).i = k + 1 from rfl, hF])
            · repeat' (first | exact tw_nil | refine tw_cons rfl ?_ ?_ | exact lt_i _ _ | exact Lt.pt _ _ (by decide) | exact lt_ens _ _)
              all_goals (try rfl)
            · repeat' (first | exact hw_nil | refine hw_cons (by decide) rfl bwk_rfl ?_ ?_ | exact lt_en _ _)
              all_goals (try rfl)
        · have f1 := inlt hlk
          have hkk : k = L.length := by omega
          subst hkk
          repeat' (first | simp only [go_sem, ↓reduceIte, Nat.reduceLT, Nat.reduceEqDiff, Nat.reduceAdd, Nat.reduceLeDiff, reduceCtorEq, f1, E2] | (refine regOk_go ?_; kernel_rfl) | refine acond_split (fun _ => ?_) (fun _ => ?_) | refine And.intro ?_ ?_)
          · rename_i hc
            have hF := hIn hc
            refine ⟨Fs.next hlt, Nat.sub_lt_sub_left hlt (Nat.lt_succ_self _), wk_go (by decide) ?_ ?_⟩
            all_goals (try simp only [show (Fs.next hlt).i = i + 1 from rfl, hF])
            · repeat' (first | exact tw_nil | refine tw_cons rfl ?_ ?_ | exact lt_i _ _ | exact lt_ens _ _)
              all_goals (try rfl)
            · repeat' (first | exact hw_nil)
              all_goals (try rfl)
          · rename_i hc
            have hF := hOut hc
            refine ⟨Fs.next hlt, Nat.sub_lt_sub_left hlt (Nat.lt_succ_self _), wk_go (by decide) ?_ ?_⟩
            all_goals (try simp only [show (Fs.next hlt).i = i + 1 from rfl, hF])
            · repeat' (first | exact tw_nil | refine tw_cons rfl ?_ ?_ | exact lt_i _ _ | exact lt_ens _ _)
              all_goals (try rfl)
            · repeat' (first | exact hw_nil)
              all_goals (try rfl)
    · have f1 := inlt hlt
      have hii : i = L.length := by omega
      subst hii
      repeat' (first | simp only [go_sem, ↓reduceIte, Nat.reduceLT, Nat.reduceEqDiff, Nat.reduceAdd, f1])
      all_goals (try rfl)
end Go.Proofs.Ytlkngccfikeaiaa
