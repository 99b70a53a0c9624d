/-
  The law SAPOrderIndependent. Conditions: none.
-/
import Derived.Test.YtfhpalfchhinlaaC99
import Derived.Test.YtfhpalfchhinlaaM61
import Derived.Test.YtfhpalfchhinlaaAl36
import Derived.Test.YtfhpalfchhinlaaAl46
import Derived.Outline
set_option linter.all false
namespace Go.Proofs.Ytfhpalfchhinlaa
open Go.RowKit Go.AL Go.Carom

set_option maxRecDepth 20000 in
set_option maxHeartbeats 4000000 in
theorem l_ord (l : List En) (t : Nat) (ht : t < 256) : PCall Try.prog 5 [.sl (l.map En.v), .sc (.int .u8 (t : Int))] (.b true) := by
  refine pcall_of_tr hm Try.func5 rfl (by kernel_rfl) Try.ntmps5 Try.results5 rfl (lt_cons (lt_ens _ _) (lt_cons (.sc _) lt_nil)) (lt_b _ _) ?_
  have i0 : HasC Try.prog 8 [] (.b true) := ⟨c_ex21⟩
  by_cases hl : l.length ≤ 30
  · have g1 : ((l.length : Int) > 30) = False := eq_false (by omega)
    have g2 : ((30 : Int) < (l.length : Int)) = False := eq_false (by omega)
    have hDl := dupI_le l
    refine tr_seqc hm ?_
    repeat' (first | simp only [go_sem, ↓reduceIte, Nat.reduceLT, Nat.reduceEqDiff, Nat.reduceAdd, Nat.reduceLeDiff, Nat.reduceMul, Nat.reduceSub, reduceCtorEq, Int.reduceLT, Int.reduceLE, Int.reduceNeg, Int.reduceAdd, Int.reduceEq, Int.reduceToNat, nc0] | refine cst_go ?_ | refine gcst_go ?_ | refine effG_go ?_ | (refine regOk_go ?_; kernel_rfl) | refine acond_split (fun _ => ?_) (fun _ => ?_) | refine And.intro ?_ ?_ | (intro (_ : _ = _)))
    refine ktr_go (tr_seqc hm ?_)
    repeat' (first | simp only [go_sem, ↓reduceIte, Nat.reduceLT, Nat.reduceEqDiff, Nat.reduceAdd, Nat.reduceLeDiff, Nat.reduceMul, Nat.reduceSub, reduceCtorEq, Int.reduceLT, Int.reduceLE, Int.reduceNeg, Int.reduceAdd, Int.reduceEq, Int.reduceToNat, g1, g2, nc0] | refine cst_go ?_ | refine gcst_go ?_ | refine effG_go ?_ | (refine regOk_go ?_; kernel_rfl) | refine acond_split (fun _ => ?_) (fun _ => ?_) | refine And.intro ?_ ?_ | (intro (_ : _ = _)))
    refine ktr_go (tr_seqc hm ?_)
    repeat' (first | simp only [go_sem, ↓reduceIte, Nat.reduceLT, Nat.reduceEqDiff, Nat.reduceAdd, Nat.reduceLeDiff, Nat.reduceMul, Nat.reduceSub, reduceCtorEq, Int.reduceLT, Int.reduceLE, Int.reduceNeg, Int.reduceAdd, Int.reduceEq, Int.reduceToNat, nc0] | refine cst_go ?_ | refine gcst_go ?_ | refine effG_go ?_ | (refine regOk_go ?_; kernel_rfl) | refine acond_split (fun _ => ?_) (fun _ => ?_) | refine And.intro ?_ ?_ | (intro (_ : _ = _)))
    refine ktr_go (tr_seqc hm ?_)
    repeat' (first | simp only [go_sem, ↓reduceIte, Nat.reduceLT, Nat.reduceEqDiff, Nat.reduceAdd, Nat.reduceLeDiff, Nat.reduceMul, Nat.reduceSub, reduceCtorEq, Int.reduceLT, Int.reduceLE, Int.reduceNeg, Int.reduceAdd, Int.reduceEq, Int.reduceToNat, nc0] | refine cst_go ?_ | refine gcst_go ?_ | refine effG_go ?_ | (refine regOk_go ?_; kernel_rfl) | refine acond_split (fun _ => ?_) (fun _ => ?_) | refine And.intro ?_ ?_ | (intro (_ : _ = _)))
    refine tr_lp hm [0, 1] [] (fun x' : Fs (dupI l) => [(5, .ow 0 (rotI l t x'.i).length), (6, .i x'.i)]) (fun x' : Fs (dupI l) => [(0, .row 33 5 (rotI l t x'.i).length ((rotI l t x'.i).map En.v))]) (fun x' => (dupI l) - x'.i) (Fs.start _) ?_ ?_ ?_
    · repeat' (first | exact tw_nil | exact hw_nil | refine tw_cons rfl ?_ ?_ | refine tw_cons ?_ ?_ ?_ | refine hw_cons (by decide) rfl bwk_rfl ?_ ?_ | refine hw_cons (by decide) rfl (.inr ⟨rfl, _, _, rfl⟩) ?_ ?_ | refine hw_cons (by decide) ?_ bwk_rfl ?_ ?_ | exact trivial | refine blt_row ?_ | refine lt_set ?_ ?_ | exact lt_i _ _ | exact Lt.pt _ _ (by decide) | exact lt_b _ _ | exact Lt.sc _ | exact lt_vs _ _ | exact lt_ens _ _ | exact lt_p2s _ _ | exact lt_en _ _ | exact lt_p2 _ _ | exact Lt.mp _ (by decide) | refine lt_agg ?_ | refine lt_tup ?_ | exact lt_nil | refine lt_cons ?_ ?_ | exact Lt.ow _ _ (by decide) | refine Lt.clo _ _ ?_ | exact Lt.rs _ _ _ _ (by decide) | exact Lt.e0 | exact Lt.und | exact Lt.nb _ _ | refine lt_app ?_ ?_ | refine lt_map (fun _ => ?_) | refine Lt.sl _ ?_ | refine Lt.gd _ _ ?_ | exact Lt.rp _ _ _ _ _ (by decide) | refine Lt.cp _ ?_)
      all_goals (try rfl)
    · repeat' (first | exact tw_nil | exact hw_nil | refine tw_cons rfl ?_ ?_ | refine tw_cons ?_ ?_ ?_ | refine hw_cons (by decide) rfl bwk_rfl ?_ ?_ | refine hw_cons (by decide) rfl (.inr ⟨rfl, _, _, rfl⟩) ?_ ?_ | refine hw_cons (by decide) ?_ bwk_rfl ?_ ?_ | exact trivial | refine blt_row ?_ | refine lt_set ?_ ?_ | exact lt_i _ _ | exact Lt.pt _ _ (by decide) | exact lt_b _ _ | exact Lt.sc _ | exact lt_vs _ _ | exact lt_ens _ _ | exact lt_p2s _ _ | exact lt_en _ _ | exact lt_p2 _ _ | exact Lt.mp _ (by decide) | refine lt_agg ?_ | refine lt_tup ?_ | exact lt_nil | refine lt_cons ?_ ?_ | exact Lt.ow _ _ (by decide) | refine Lt.clo _ _ ?_ | exact Lt.rs _ _ _ _ (by decide) | exact Lt.e0 | exact Lt.und | exact Lt.nb _ _ | refine lt_app ?_ ?_ | refine lt_map (fun _ => ?_) | refine Lt.sl _ ?_ | refine Lt.gd _ _ ?_ | exact Lt.rp _ _ _ _ _ (by decide) | refine Lt.cp _ ?_)
      all_goals (try rfl)
    · rintro ⟨i, hi⟩
      have hi' : i ≤ dupI l := hi
      by_cases hlt : i < dupI l
      · have hil : i < l.length := by omega
        have E1 := ilt hil
        have E2 := isucc hil (show l.length ≤ maxLen by have : maxLen = 9223372036854775807 := rfl; omega)
        have E3 := en_getD hil
        obtain ⟨a, hae⟩ : ∃ a, l.getD i En.o = a := ⟨_, rfl⟩
        rw [hae] at E3
        repeat' (first | simp only [go_sem, ↓reduceIte, Nat.reduceLT, Nat.reduceEqDiff, Nat.reduceAdd, Nat.reduceLeDiff, Nat.reduceMul, Nat.reduceSub, reduceCtorEq, Int.reduceLT, Int.reduceLE, Int.reduceNeg, Int.reduceAdd, Int.reduceEq, Int.reduceToNat, E1, E2, E3, nc0] | refine cst_go ?_ | refine gcst_go ?_ | refine effG_go ?_ | (refine regOk_go ?_; kernel_rfl) | refine acond_split (fun _ => ?_) (fun _ => ?_) | refine And.intro ?_ ?_ | (intro (_ : _ = _)))
        refine tr_lp hm [0, 1, 5, 6] [0] (fun x' : Fs (eqK l i) => [(7, .i x'.i)]) (fun x' : Fs (eqK l i) => []) (fun x' => (eqK l i) - x'.i) (Fs.start _) ?_ ?_ ?_
        · repeat' (first | exact tw_nil | exact hw_nil | refine tw_cons rfl ?_ ?_ | refine tw_cons ?_ ?_ ?_ | refine hw_cons (by decide) rfl bwk_rfl ?_ ?_ | refine hw_cons (by decide) rfl (.inr ⟨rfl, _, _, rfl⟩) ?_ ?_ | refine hw_cons (by decide) ?_ bwk_rfl ?_ ?_ | exact trivial | refine blt_row ?_ | refine lt_set ?_ ?_ | exact lt_i _ _ | exact Lt.pt _ _ (by decide) | exact lt_b _ _ | exact Lt.sc _ | exact lt_vs _ _ | exact lt_ens _ _ | exact lt_p2s _ _ | exact lt_en _ _ | exact lt_p2 _ _ | exact Lt.mp _ (by decide) | refine lt_agg ?_ | refine lt_tup ?_ | exact lt_nil | refine lt_cons ?_ ?_ | exact Lt.ow _ _ (by decide) | refine Lt.clo _ _ ?_ | exact Lt.rs _ _ _ _ (by decide) | exact Lt.e0 | exact Lt.und | exact Lt.nb _ _ | refine lt_app ?_ ?_ | refine lt_map (fun _ => ?_) | refine Lt.sl _ ?_ | refine Lt.gd _ _ ?_ | exact Lt.rp _ _ _ _ _ (by decide) | refine Lt.cp _ ?_)
          all_goals (try rfl)
        · repeat' (first | exact tw_nil | exact hw_nil | refine tw_cons rfl ?_ ?_ | refine tw_cons ?_ ?_ ?_ | refine hw_cons (by decide) rfl bwk_rfl ?_ ?_ | refine hw_cons (by decide) rfl (.inr ⟨rfl, _, _, rfl⟩) ?_ ?_ | refine hw_cons (by decide) ?_ bwk_rfl ?_ ?_ | exact trivial | refine blt_row ?_ | refine lt_set ?_ ?_ | exact lt_i _ _ | exact Lt.pt _ _ (by decide) | exact lt_b _ _ | exact Lt.sc _ | exact lt_vs _ _ | exact lt_ens _ _ | exact lt_p2s _ _ | exact lt_en _ _ | exact lt_p2 _ _ | exact Lt.mp _ (by decide) | refine lt_agg ?_ | refine lt_tup ?_ | exact lt_nil | refine lt_cons ?_ ?_ | exact Lt.ow _ _ (by decide) | refine Lt.clo _ _ ?_ | exact Lt.rs _ _ _ _ (by decide) | exact Lt.e0 | exact Lt.und | exact Lt.nb _ _ | refine lt_app ?_ ?_ | refine lt_map (fun _ => ?_) | refine Lt.sl _ ?_ | refine Lt.gd _ _ ?_ | exact Lt.rp _ _ _ _ _ (by decide) | refine Lt.cp _ ?_)
          all_goals (try rfl)
        · rintro ⟨k, hk⟩
          by_cases hlk : k < eqK l i
          · have hki : k < i := Nat.lt_of_lt_of_le hlk (eqK_le l i)
            have e1 := ilt hki
            have e2 := isucc hki (show i ≤ maxLen by have : maxLen = 9223372036854775807 := rfl; omega)
            have e3 := en_getD (show k < l.length by omega)
            have e4 := eqK_lt hlk
            rw [hae] at e4
            generalize l.getD k En.o = c at *
            repeat' (first | simp only [go_sem, ↓reduceIte, Nat.reduceLT, Nat.reduceEqDiff, Nat.reduceAdd, Nat.reduceLeDiff, Nat.reduceMul, Nat.reduceSub, reduceCtorEq, Int.reduceLT, Int.reduceLE, Int.reduceNeg, Int.reduceAdd, Int.reduceEq, Int.reduceToNat, e1, e2, e3, e4, E1, E2, E3, nc0] | refine cst_go ?_ | refine gcst_go ?_ | refine effG_go ?_ | (refine regOk_go ?_; kernel_rfl) | refine acond_split (fun _ => ?_) (fun _ => ?_) | refine And.intro ?_ ?_ | (intro (_ : _ = _)))
            all_goals (try omega)
            refine ⟨Fs.next hlk, Nat.sub_lt_sub_left hlk (Nat.lt_succ_self _), wk_go (by decide) ?_ ?_⟩
            all_goals (try simp only [show (Fs.next hlk).i = k + 1 from rfl, e2])
            · repeat' (first | exact tw_nil | exact hw_nil | refine tw_cons rfl ?_ ?_ | refine tw_cons ?_ ?_ ?_ | refine hw_cons (by decide) rfl bwk_rfl ?_ ?_ | refine hw_cons (by decide) rfl (.inr ⟨rfl, _, _, rfl⟩) ?_ ?_ | refine hw_cons (by decide) ?_ bwk_rfl ?_ ?_ | exact trivial | refine blt_row ?_ | refine lt_set ?_ ?_ | exact lt_i _ _ | exact Lt.pt _ _ (by decide) | exact lt_b _ _ | exact Lt.sc _ | exact lt_vs _ _ | exact lt_ens _ _ | exact lt_p2s _ _ | exact lt_en _ _ | exact lt_p2 _ _ | exact Lt.mp _ (by decide) | refine lt_agg ?_ | refine lt_tup ?_ | exact lt_nil | refine lt_cons ?_ ?_ | exact Lt.ow _ _ (by decide) | refine Lt.clo _ _ ?_ | exact Lt.rs _ _ _ _ (by decide) | exact Lt.e0 | exact Lt.und | exact Lt.nb _ _ | refine lt_app ?_ ?_ | refine lt_map (fun _ => ?_) | refine Lt.sl _ ?_ | refine Lt.gd _ _ ?_ | exact Lt.rp _ _ _ _ _ (by decide) | refine Lt.cp _ ?_)
              all_goals (try rfl)
            · repeat' (first | exact tw_nil | exact hw_nil | refine tw_cons rfl ?_ ?_ | refine tw_cons ?_ ?_ ?_ | refine hw_cons (by decide) rfl bwk_rfl ?_ ?_ | refine hw_cons (by decide) rfl (.inr ⟨rfl, _, _, rfl⟩) ?_ ?_ | refine hw_cons (by decide) ?_ bwk_rfl ?_ ?_ | exact trivial | refine blt_row ?_ | refine lt_set ?_ ?_ | exact lt_i _ _ | exact Lt.pt _ _ (by decide) | exact lt_b _ _ | exact Lt.sc _ | exact lt_vs _ _ | exact lt_ens _ _ | exact lt_p2s _ _ | exact lt_en _ _ | exact lt_p2 _ _ | exact Lt.mp _ (by decide) | refine lt_agg ?_ | refine lt_tup ?_ | exact lt_nil | refine lt_cons ?_ ?_ | exact Lt.ow _ _ (by decide) | refine Lt.clo _ _ ?_ | exact Lt.rs _ _ _ _ (by decide) | exact Lt.e0 | exact Lt.und | exact Lt.nb _ _ | refine lt_app ?_ ?_ | refine lt_map (fun _ => ?_) | refine Lt.sl _ ?_ | refine Lt.gd _ _ ?_ | exact Lt.rp _ _ _ _ _ (by decide) | refine Lt.cp _ ?_)
              all_goals (try rfl)
          · have hkk : k = eqK l i := by have : k ≤ eqK l i := hk; omega
            have hik : i = k := by rw [hkk, dupI_lt hlt]
            subst hik
            have f1 := inlt (Nat.lt_irrefl i)
            have d0 : ((l.length : Int) = 0) = False := eq_false (by omega)
            have w0 : IntKind.i64.wrap (t : Int) = (t : Int) := by rw [IntKind.wrap_i64]; omega
            have w1 : IntKind.i64.wrap ((i : Int) + (t : Int)) = ((i + t : Nat) : Int) := by rw [IntKind.wrap_i64]; omega
            have w2 : Int.tmod ((i + t : Nat) : Int) (l.length : Int) = (((i + t) % l.length : Nat) : Int) := (Int.ofNat_tmod _ _).symm
            have hml : (i + t) % l.length < l.length := Nat.mod_lt _ (by omega)
            have e5 := ilt hml
            have e6 := en_getD hml
            have hF : rotI l t (i + 1) = rotI l t i ++ [l.getD ((i + t) % l.length) En.o] := rfl
            have hRl := rotI_len l t i
            generalize l.getD ((i + t) % l.length) En.o = c at *
            generalize (i + t) % l.length = q at *
            repeat' (first | simp only [go_sem, ↓reduceIte, Nat.reduceLT, Nat.reduceEqDiff, Nat.reduceAdd, Nat.reduceLeDiff, Nat.reduceMul, Nat.reduceSub, reduceCtorEq, Int.reduceLT, Int.reduceLE, Int.reduceNeg, Int.reduceAdd, Int.reduceEq, Int.reduceToNat, f1, E2, d0, w0, w1, w2, e5, e6, nc0] | refine cst_go ?_ | refine gcst_go ?_ | refine effG_go ?_ | (refine regOk_go ?_; kernel_rfl) | refine acond_split (fun _ => ?_) (fun _ => ?_) | refine And.intro ?_ ?_ | (intro (_ : _ = _)))
            all_goals (try omega)
            refine ⟨Fs.next hlt, Nat.sub_lt_sub_left hlt (Nat.lt_succ_self _), wk_go (by decide) ?_ ?_⟩
            all_goals (try simp only [show (Fs.next hlt).i = i + 1 from rfl, hF, List.map_append, List.length_append])
            · repeat' (first | exact tw_nil | exact hw_nil | refine tw_cons rfl ?_ ?_ | refine tw_cons ?_ ?_ ?_ | refine hw_cons (by decide) rfl bwk_rfl ?_ ?_ | refine hw_cons (by decide) rfl (.inr ⟨rfl, _, _, rfl⟩) ?_ ?_ | refine hw_cons (by decide) ?_ bwk_rfl ?_ ?_ | exact trivial | refine blt_row ?_ | refine lt_set ?_ ?_ | exact lt_i _ _ | exact Lt.pt _ _ (by decide) | exact lt_b _ _ | exact Lt.sc _ | exact lt_vs _ _ | exact lt_ens _ _ | exact lt_p2s _ _ | exact lt_en _ _ | exact lt_p2 _ _ | exact Lt.mp _ (by decide) | refine lt_agg ?_ | refine lt_tup ?_ | exact lt_nil | refine lt_cons ?_ ?_ | exact Lt.ow _ _ (by decide) | refine Lt.clo _ _ ?_ | exact Lt.rs _ _ _ _ (by decide) | exact Lt.e0 | exact Lt.und | exact Lt.nb _ _ | refine lt_app ?_ ?_ | refine lt_map (fun _ => ?_) | refine Lt.sl _ ?_ | refine Lt.gd _ _ ?_ | exact Lt.rp _ _ _ _ _ (by decide) | refine Lt.cp _ ?_)
              all_goals (try rfl)
            · repeat' (first | exact tw_nil | exact hw_nil | refine tw_cons rfl ?_ ?_ | refine tw_cons ?_ ?_ ?_ | refine hw_cons (by decide) rfl bwk_rfl ?_ ?_ | refine hw_cons (by decide) rfl (.inr ⟨rfl, _, _, rfl⟩) ?_ ?_ | refine hw_cons (by decide) ?_ bwk_rfl ?_ ?_ | exact trivial | refine blt_row ?_ | refine lt_set ?_ ?_ | exact lt_i _ _ | exact Lt.pt _ _ (by decide) | exact lt_b _ _ | exact Lt.sc _ | exact lt_vs _ _ | exact lt_ens _ _ | exact lt_p2s _ _ | exact lt_en _ _ | exact lt_p2 _ _ | exact Lt.mp _ (by decide) | refine lt_agg ?_ | refine lt_tup ?_ | exact lt_nil | refine lt_cons ?_ ?_ | exact Lt.ow _ _ (by decide) | refine Lt.clo _ _ ?_ | exact Lt.rs _ _ _ _ (by decide) | exact Lt.e0 | exact Lt.und | exact Lt.nb _ _ | refine lt_app ?_ ?_ | refine lt_map (fun _ => ?_) | refine Lt.sl _ ?_ | refine Lt.gd _ _ ?_ | exact Lt.rp _ _ _ _ _ (by decide) | refine Lt.cp _ ?_)
              all_goals (try rfl)
      · have hii : i = dupI l := by omega
        by_cases hdl : dupI l < l.length
        · have hil : i < l.length := by omega
          have hend := dupI_end hdl
          rw [← hii] at hend
          have E1 := ilt hil
          have E2 := isucc hil (show l.length ≤ maxLen by have : maxLen = 9223372036854775807 := rfl; omega)
          have E3 := en_getD hil
          obtain ⟨a, hae⟩ : ∃ a, l.getD i En.o = a := ⟨_, rfl⟩
          rw [hae] at E3
          repeat' (first | simp only [go_sem, ↓reduceIte, Nat.reduceLT, Nat.reduceEqDiff, Nat.reduceAdd, Nat.reduceLeDiff, Nat.reduceMul, Nat.reduceSub, reduceCtorEq, Int.reduceLT, Int.reduceLE, Int.reduceNeg, Int.reduceAdd, Int.reduceEq, Int.reduceToNat, E1, E2, E3, nc0] | refine cst_go ?_ | refine gcst_go ?_ | refine effG_go ?_ | (refine regOk_go ?_; kernel_rfl) | refine acond_split (fun _ => ?_) (fun _ => ?_) | refine And.intro ?_ ?_ | (intro (_ : _ = _)))
          refine tr_lp hm [0, 1, 5, 6] [0] (fun x' : Fs (eqK l i) => [(7, .i x'.i)]) (fun x' : Fs (eqK l i) => []) (fun x' => (eqK l i) - x'.i) (Fs.start _) ?_ ?_ ?_
          · repeat' (first | exact tw_nil | exact hw_nil | refine tw_cons rfl ?_ ?_ | refine tw_cons ?_ ?_ ?_ | refine hw_cons (by decide) rfl bwk_rfl ?_ ?_ | refine hw_cons (by decide) rfl (.inr ⟨rfl, _, _, rfl⟩) ?_ ?_ | refine hw_cons (by decide) ?_ bwk_rfl ?_ ?_ | exact trivial | refine blt_row ?_ | refine lt_set ?_ ?_ | exact lt_i _ _ | exact Lt.pt _ _ (by decide) | exact lt_b _ _ | exact Lt.sc _ | exact lt_vs _ _ | exact lt_ens _ _ | exact lt_p2s _ _ | exact lt_en _ _ | exact lt_p2 _ _ | exact Lt.mp _ (by decide) | refine lt_agg ?_ | refine lt_tup ?_ | exact lt_nil | refine lt_cons ?_ ?_ | exact Lt.ow _ _ (by decide) | refine Lt.clo _ _ ?_ | exact Lt.rs _ _ _ _ (by decide) | exact Lt.e0 | exact Lt.und | exact Lt.nb _ _ | refine lt_app ?_ ?_ | refine lt_map (fun _ => ?_) | refine Lt.sl _ ?_ | refine Lt.gd _ _ ?_ | exact Lt.rp _ _ _ _ _ (by decide) | refine Lt.cp _ ?_)
            all_goals (try rfl)
          · repeat' (first | exact tw_nil | exact hw_nil | refine tw_cons rfl ?_ ?_ | refine tw_cons ?_ ?_ ?_ | refine hw_cons (by decide) rfl bwk_rfl ?_ ?_ | refine hw_cons (by decide) rfl (.inr ⟨rfl, _, _, rfl⟩) ?_ ?_ | refine hw_cons (by decide) ?_ bwk_rfl ?_ ?_ | exact trivial | refine blt_row ?_ | refine lt_set ?_ ?_ | exact lt_i _ _ | exact Lt.pt _ _ (by decide) | exact lt_b _ _ | exact Lt.sc _ | exact lt_vs _ _ | exact lt_ens _ _ | exact lt_p2s _ _ | exact lt_en _ _ | exact lt_p2 _ _ | exact Lt.mp _ (by decide) | refine lt_agg ?_ | refine lt_tup ?_ | exact lt_nil | refine lt_cons ?_ ?_ | exact Lt.ow _ _ (by decide) | refine Lt.clo _ _ ?_ | exact Lt.rs _ _ _ _ (by decide) | exact Lt.e0 | exact Lt.und | exact Lt.nb _ _ | refine lt_app ?_ ?_ | refine lt_map (fun _ => ?_) | refine Lt.sl _ ?_ | refine Lt.gd _ _ ?_ | exact Lt.rp _ _ _ _ _ (by decide) | refine Lt.cp _ ?_)
            all_goals (try rfl)
          · rintro ⟨k, hk⟩
            by_cases hlk : k < eqK l i
            · have hki : k < i := Nat.lt_of_lt_of_le hlk (eqK_le l i)
              have e1 := ilt hki
              have e2 := isucc hki (show i ≤ maxLen by have : maxLen = 9223372036854775807 := rfl; omega)
              have e3 := en_getD (show k < l.length by omega)
              have e4 := eqK_lt hlk
              rw [hae] at e4
              generalize l.getD k En.o = c at *
              repeat' (first | simp only [go_sem, ↓reduceIte, Nat.reduceLT, Nat.reduceEqDiff, Nat.reduceAdd, Nat.reduceLeDiff, Nat.reduceMul, Nat.reduceSub, reduceCtorEq, Int.reduceLT, Int.reduceLE, Int.reduceNeg, Int.reduceAdd, Int.reduceEq, Int.reduceToNat, e1, e2, e3, e4, E1, E2, E3, nc0] | refine cst_go ?_ | refine gcst_go ?_ | refine effG_go ?_ | (refine regOk_go ?_; kernel_rfl) | refine acond_split (fun _ => ?_) (fun _ => ?_) | refine And.intro ?_ ?_ | (intro (_ : _ = _)))
              all_goals (try omega)
              refine ⟨Fs.next hlk, Nat.sub_lt_sub_left hlk (Nat.lt_succ_self _), wk_go (by decide) ?_ ?_⟩
              all_goals (try simp only [show (Fs.next hlk).i = k + 1 from rfl, e2])
              · repeat' (first | exact tw_nil | exact hw_nil | refine tw_cons rfl ?_ ?_ | refine tw_cons ?_ ?_ ?_ | refine hw_cons (by decide) rfl bwk_rfl ?_ ?_ | refine hw_cons (by decide) rfl (.inr ⟨rfl, _, _, rfl⟩) ?_ ?_ | refine hw_cons (by decide) ?_ bwk_rfl ?_ ?_ | exact trivial | refine blt_row ?_ | refine lt_set ?_ ?_ | exact lt_i _ _ | exact Lt.pt _ _ (by decide) | exact lt_b _ _ | exact Lt.sc _ | exact lt_vs _ _ | exact lt_ens _ _ | exact lt_p2s _ _ | exact lt_en _ _ | exact lt_p2 _ _ | exact Lt.mp _ (by decide) | refine lt_agg ?_ | refine lt_tup ?_ | exact lt_nil | refine lt_cons ?_ ?_ | exact Lt.ow _ _ (by decide) | refine Lt.clo _ _ ?_ | exact Lt.rs _ _ _ _ (by decide) | exact Lt.e0 | exact Lt.und | exact Lt.nb _ _ | refine lt_app ?_ ?_ | refine lt_map (fun _ => ?_) | refine Lt.sl _ ?_ | refine Lt.gd _ _ ?_ | exact Lt.rp _ _ _ _ _ (by decide) | refine Lt.cp _ ?_)
                all_goals (try rfl)
              · repeat' (first | exact tw_nil | exact hw_nil | refine tw_cons rfl ?_ ?_ | refine tw_cons ?_ ?_ ?_ | refine hw_cons (by decide) rfl bwk_rfl ?_ ?_ | refine hw_cons (by decide) rfl (.inr ⟨rfl, _, _, rfl⟩) ?_ ?_ | refine hw_cons (by decide) ?_ bwk_rfl ?_ ?_ | exact trivial | refine blt_row ?_ | refine lt_set ?_ ?_ | exact lt_i _ _ | exact Lt.pt _ _ (by decide) | exact lt_b _ _ | exact Lt.sc _ | exact lt_vs _ _ | exact lt_ens _ _ | exact lt_p2s _ _ | exact lt_en _ _ | exact lt_p2 _ _ | exact Lt.mp _ (by decide) | refine lt_agg ?_ | refine lt_tup ?_ | exact lt_nil | refine lt_cons ?_ ?_ | exact Lt.ow _ _ (by decide) | refine Lt.clo _ _ ?_ | exact Lt.rs _ _ _ _ (by decide) | exact Lt.e0 | exact Lt.und | exact Lt.nb _ _ | refine lt_app ?_ ?_ | refine lt_map (fun _ => ?_) | refine Lt.sl _ ?_ | refine Lt.gd _ _ ?_ | exact Lt.rp _ _ _ _ _ (by decide) | refine Lt.cp _ ?_)
                all_goals (try rfl)
            · have hkk : k = eqK l i := by have : k ≤ eqK l i := hk; omega
              subst hkk
              have e1 := ilt hend
              have e3 := en_getD (show eqK l i < l.length by omega)
              have e4 := eqK_end (Nat.le_of_lt hil) hend
              rw [hae] at e4
              generalize l.getD (eqK l i) En.o = c at *
              repeat' (first | simp only [go_sem, ↓reduceIte, Nat.reduceLT, Nat.reduceEqDiff, Nat.reduceAdd, Nat.reduceLeDiff, Nat.reduceMul, Nat.reduceSub, reduceCtorEq, Int.reduceLT, Int.reduceLE, Int.reduceNeg, Int.reduceAdd, Int.reduceEq, Int.reduceToNat, e1, e3, e4, E1, E2, E3, nc0] | refine cst_go ?_ | refine gcst_go ?_ | refine effG_go ?_ | (refine regOk_go ?_; kernel_rfl) | refine acond_split (fun _ => ?_) (fun _ => ?_) | refine And.intro ?_ ?_ | (intro (_ : _ = _)))
              all_goals (try omega)
              all_goals (try rfl)
        · have hdl : dupI l = l.length := by omega
          subst hii
          have f1 := inlt (show ¬ dupI l < l.length by omega)
          repeat' (first | simp only [go_sem, ↓reduceIte, Nat.reduceLT, Nat.reduceEqDiff, Nat.reduceAdd, Nat.reduceLeDiff, Nat.reduceMul, Nat.reduceSub, reduceCtorEq, Int.reduceLT, Int.reduceLE, Int.reduceNeg, Int.reduceAdd, Int.reduceEq, Int.reduceToNat, f1, nc0] | refine cst_go ?_ | refine gcst_go ?_ | refine effG_go ?_ | (refine regOk_go ?_; kernel_rfl) | refine acond_split (fun _ => ?_) (fun _ => ?_) | refine And.intro ?_ ?_ | (intro (_ : _ = _)))
          have hD : DistE l := dupI_all hdl
          have hPl : (pairsE l).length ≤ 1000000 := by
            unfold pairsE
            rw [List.length_mergeSort]
            exact pairsR_len _ (Nat.le_trans (sortE_len l) (by omega))
          have hMb : (mxP (sortE l) (sortE l).length).1 ≤ (l.length : Int) := by
            have h1 := (mxP_bd (sortE l) (sortE l).length).2
            have h2 := sortE_len l
            omega
          refine ktr_go (tr_fz 5 0 [] rfl rfl rfl ?_)
          have hml : (rotI l t l.length).length ≤ 1000000 := by rw [rotI_len]; omega
          have k1 := c_pairs l (by omega)
          have k2 := c_max l (by omega)
          have k3 := c_max (rotI l t l.length) hml
          have k4 := c_pairs (rotI l t l.length) (by rw [rotI_len]; omega)
          rw [sort_rot hD] at k3
          rw [pairs_rot hD] at k4
          have hP1 : ∀ i, i < (pairsE l).length → ((pairsE l).getD i P2.o).a < ((pairsE l).getD i P2.o).b ∧ cJ l ((pairsE l).getD i P2.o) l.length = 1 := fun i hi => ⟨(pair_ends (getD_mem hi)).1, cJ_one hD (getD_mem hi)⟩
          have hP2 : ∀ i, i + 1 < (pairsE l).length → (pairsE l).getD i P2.o ≠ (pairsE l).getD (i + 1) P2.o := fun i hi => pair_next hi
          have hMl := rotI_len l t l.length
          rw [show dupI l = l.length from hdl]
          generalize mxP (sortE l) (sortE l).length = mm at *
          generalize rotI l t l.length = M at *
          generalize pairsE l = P at *
          have i1 : HasC Try.prog 14 [.sl (l.map En.v)] (.sl (P.map P2.v)) := ⟨k1⟩
          have i2 : HasC Try.prog 12 [.sl (l.map En.v)] (.tup [.i mm.1, .i mm.2]) := ⟨k2⟩
          have i3 : HasC Try.prog 12 [.sl (M.map En.v)] (.tup [.i mm.1, .i mm.2]) := ⟨k3⟩
          have i4 : HasC Try.prog 14 [.sl (M.map En.v)] (.sl (P.map P2.v)) := ⟨k4⟩
          have i5 : HasC Try.prog 15 [.sl (P.map P2.v), .sl (P.map P2.v)] (.b true) := ⟨c_eqp1 P hPl⟩
          have g3 : (mm.1 > (l.length : Int)) = False := eq_false (by omega)
          have g4 : ((l.length : Int) < mm.1) = False := eq_false (by omega)
          refine tr_ac hm ?_
          repeat' (first | simp only [go_sem, ↓reduceIte, Nat.reduceLT, Nat.reduceEqDiff, Nat.reduceAdd, Nat.reduceLeDiff, Nat.reduceMul, Nat.reduceSub, reduceCtorEq, Int.reduceLT, Int.reduceLE, Int.reduceNeg, Int.reduceAdd, Int.reduceEq, Int.reduceToNat, g3, g4, nc0, eq_self] | refine cst_go ?_ | refine gcst_go ?_ | refine effG_go ?_ | (refine regOk_go ?_; kernel_rfl) | refine acond_split (fun _ => ?_) (fun _ => ?_) | refine And.intro ?_ ?_ | (intro (_ : _ = _)))
          refine tr_lp hm [0, 8] [] (fun x' : Fs (P.length) => [(13, .i x'.i)]) (fun x' : Fs (P.length) => []) (fun x' => (P.length) - x'.i) (Fs.start _) ?_ ?_ ?_
          · repeat' (first | exact tw_nil | exact hw_nil | refine tw_cons rfl ?_ ?_ | refine tw_cons ?_ ?_ ?_ | refine hw_cons (by decide) rfl bwk_rfl ?_ ?_ | refine hw_cons (by decide) rfl (.inr ⟨rfl, _, _, rfl⟩) ?_ ?_ | refine hw_cons (by decide) ?_ bwk_rfl ?_ ?_ | exact trivial | refine blt_row ?_ | refine lt_set ?_ ?_ | exact lt_i _ _ | exact Lt.pt _ _ (by decide) | exact lt_b _ _ | exact Lt.sc _ | exact lt_vs _ _ | exact lt_ens _ _ | exact lt_p2s _ _ | exact lt_en _ _ | exact lt_p2 _ _ | exact Lt.mp _ (by decide) | refine lt_agg ?_ | refine lt_tup ?_ | exact lt_nil | refine lt_cons ?_ ?_ | exact Lt.ow _ _ (by decide) | refine Lt.clo _ _ ?_ | exact Lt.rs _ _ _ _ (by decide) | exact Lt.e0 | exact Lt.und | exact Lt.nb _ _ | refine lt_app ?_ ?_ | refine lt_map (fun _ => ?_) | refine Lt.sl _ ?_ | refine Lt.gd _ _ ?_ | exact Lt.rp _ _ _ _ _ (by decide) | refine Lt.cp _ ?_)
            all_goals (try rfl)
          · repeat' (first | exact tw_nil | exact hw_nil | refine tw_cons rfl ?_ ?_ | refine tw_cons ?_ ?_ ?_ | refine hw_cons (by decide) rfl bwk_rfl ?_ ?_ | refine hw_cons (by decide) rfl (.inr ⟨rfl, _, _, rfl⟩) ?_ ?_ | refine hw_cons (by decide) ?_ bwk_rfl ?_ ?_ | exact trivial | refine blt_row ?_ | refine lt_set ?_ ?_ | exact lt_i _ _ | exact Lt.pt _ _ (by decide) | exact lt_b _ _ | exact Lt.sc _ | exact lt_vs _ _ | exact lt_ens _ _ | exact lt_p2s _ _ | exact lt_en _ _ | exact lt_p2 _ _ | exact Lt.mp _ (by decide) | refine lt_agg ?_ | refine lt_tup ?_ | exact lt_nil | refine lt_cons ?_ ?_ | exact Lt.ow _ _ (by decide) | refine Lt.clo _ _ ?_ | exact Lt.rs _ _ _ _ (by decide) | exact Lt.e0 | exact Lt.und | exact Lt.nb _ _ | refine lt_app ?_ ?_ | refine lt_map (fun _ => ?_) | refine Lt.sl _ ?_ | refine Lt.gd _ _ ?_ | exact Lt.rp _ _ _ _ _ (by decide) | refine Lt.cp _ ?_)
          · rintro ⟨i, hi⟩
            by_cases hlt : i < P.length
            · have E1 := ilt hlt
              have E2 := isucc hlt (show P.length ≤ maxLen by have : maxLen = 9223372036854775807 := rfl; omega)
              have E3 := p2_getD hlt
              obtain ⟨hpa, hp1⟩ := hP1 i hlt
              obtain ⟨p, hpe⟩ : ∃ p, P.getD i P2.o = p := ⟨_, rfl⟩
              rw [hpe] at E3 hpa hp1
              have g5 : (p.a ≥ p.b) = False := eq_false (by omega)
              have g6 : (p.b ≤ p.a) = False := eq_false (by omega)
              repeat' (first | simp only [go_sem, ↓reduceIte, Nat.reduceLT, Nat.reduceEqDiff, Nat.reduceAdd, Nat.reduceLeDiff, Nat.reduceMul, Nat.reduceSub, reduceCtorEq, Int.reduceLT, Int.reduceLE, Int.reduceNeg, Int.reduceAdd, Int.reduceEq, Int.reduceToNat, E1, E2, E3, nc0] | refine cst_go ?_ | refine gcst_go ?_ | refine effG_go ?_ | (refine regOk_go ?_; kernel_rfl) | refine acond_split (fun _ => ?_) (fun _ => ?_) | refine And.intro ?_ ?_ | (intro (_ : _ = _)))
              refine tr_lp hm [0, 8, 13] [] (fun x' : Fs (l.length) => [(14, .i (cJ l p x'.i)), (15, .i x'.i)]) (fun x' : Fs (l.length) => []) (fun x' => (l.length) - x'.i) (Fs.start _) ?_ ?_ ?_
              · repeat' (first | exact tw_nil | exact hw_nil | refine tw_cons rfl ?_ ?_ | refine tw_cons ?_ ?_ ?_ | refine hw_cons (by decide) rfl bwk_rfl ?_ ?_ | refine hw_cons (by decide) rfl (.inr ⟨rfl, _, _, rfl⟩) ?_ ?_ | refine hw_cons (by decide) ?_ bwk_rfl ?_ ?_ | exact trivial | refine blt_row ?_ | refine lt_set ?_ ?_ | exact lt_i _ _ | exact Lt.pt _ _ (by decide) | exact lt_b _ _ | exact Lt.sc _ | exact lt_vs _ _ | exact lt_ens _ _ | exact lt_p2s _ _ | exact lt_en _ _ | exact lt_p2 _ _ | exact Lt.mp _ (by decide) | refine lt_agg ?_ | refine lt_tup ?_ | exact lt_nil | refine lt_cons ?_ ?_ | exact Lt.ow _ _ (by decide) | refine Lt.clo _ _ ?_ | exact Lt.rs _ _ _ _ (by decide) | exact Lt.e0 | exact Lt.und | exact Lt.nb _ _ | refine lt_app ?_ ?_ | refine lt_map (fun _ => ?_) | refine Lt.sl _ ?_ | refine Lt.gd _ _ ?_ | exact Lt.rp _ _ _ _ _ (by decide) | refine Lt.cp _ ?_)
                all_goals (try rfl)
              · repeat' (first | exact tw_nil | exact hw_nil | refine tw_cons rfl ?_ ?_ | refine tw_cons ?_ ?_ ?_ | refine hw_cons (by decide) rfl bwk_rfl ?_ ?_ | refine hw_cons (by decide) rfl (.inr ⟨rfl, _, _, rfl⟩) ?_ ?_ | refine hw_cons (by decide) ?_ bwk_rfl ?_ ?_ | exact trivial | refine blt_row ?_ | refine lt_set ?_ ?_ | exact lt_i _ _ | exact Lt.pt _ _ (by decide) | exact lt_b _ _ | exact Lt.sc _ | exact lt_vs _ _ | exact lt_ens _ _ | exact lt_p2s _ _ | exact lt_en _ _ | exact lt_p2 _ _ | exact Lt.mp _ (by decide) | refine lt_agg ?_ | refine lt_tup ?_ | exact lt_nil | refine lt_cons ?_ ?_ | exact Lt.ow _ _ (by decide) | refine Lt.clo _ _ ?_ | exact Lt.rs _ _ _ _ (by decide) | exact Lt.e0 | exact Lt.und | exact Lt.nb _ _ | refine lt_app ?_ ?_ | refine lt_map (fun _ => ?_) | refine Lt.sl _ ?_ | refine Lt.gd _ _ ?_ | exact Lt.rp _ _ _ _ _ (by decide) | refine Lt.cp _ ?_)
              · rintro ⟨j, hj⟩
                by_cases hlj : j < l.length
                · have F1 := ilt hlj
                  have F2 := isucc hlj (show l.length ≤ maxLen by have : maxLen = 9223372036854775807 := rfl; omega)
                  have F3 := en_getD hlj
                  have hjb := cJ_bd l p j
                  have hjl : j * l.length ≤ 30 * 30 := Nat.mul_le_mul (by omega) hl
                  obtain ⟨a, hae⟩ : ∃ a, l.getD j En.o = a := ⟨_, rfl⟩
                  rw [hae] at F3
                  repeat' (first | simp only [go_sem, ↓reduceIte, Nat.reduceLT, Nat.reduceEqDiff, Nat.reduceAdd, Nat.reduceLeDiff, Nat.reduceMul, Nat.reduceSub, reduceCtorEq, Int.reduceLT, Int.reduceLE, Int.reduceNeg, Int.reduceAdd, Int.reduceEq, Int.reduceToNat, F1, F2, F3, E1, E3, nc0] | refine cst_go ?_ | refine gcst_go ?_ | refine effG_go ?_ | (refine regOk_go ?_; kernel_rfl) | refine acond_split (fun _ => ?_) (fun _ => ?_) | refine And.intro ?_ ?_ | (intro (_ : _ = _)))
                  have hcj : cJ l p (j + 1) = cJ l p j + cK l p a l.length := by rw [cJ_next, hae]
                  refine tr_lp hm [0, 8, 13, 15] [] (fun x' : Fs (l.length) => [(14, .i (cJ l p j + cK l p a x'.i)), (16, .i x'.i)]) (fun x' : Fs (l.length) => []) (fun x' => (l.length) - x'.i) (Fs.start _) ?_ ?_ ?_
                  · repeat' (first | exact tw_nil | exact hw_nil | refine tw_cons rfl ?_ ?_ | refine tw_cons ?_ ?_ ?_ | refine hw_cons (by decide) rfl bwk_rfl ?_ ?_ | refine hw_cons (by decide) rfl (.inr ⟨rfl, _, _, rfl⟩) ?_ ?_ | refine hw_cons (by decide) ?_ bwk_rfl ?_ ?_ | exact trivial | refine blt_row ?_ | refine lt_set ?_ ?_ | exact lt_i _ _ | exact Lt.pt _ _ (by decide) | exact lt_b _ _ | exact Lt.sc _ | exact lt_vs _ _ | exact lt_ens _ _ | exact lt_p2s _ _ | exact lt_en _ _ | exact lt_p2 _ _ | exact Lt.mp _ (by decide) | refine lt_agg ?_ | refine lt_tup ?_ | exact lt_nil | refine lt_cons ?_ ?_ | exact Lt.ow _ _ (by decide) | refine Lt.clo _ _ ?_ | exact Lt.rs _ _ _ _ (by decide) | exact Lt.e0 | exact Lt.und | exact Lt.nb _ _ | refine lt_app ?_ ?_ | refine lt_map (fun _ => ?_) | refine Lt.sl _ ?_ | refine Lt.gd _ _ ?_ | exact Lt.rp _ _ _ _ _ (by decide) | refine Lt.cp _ ?_)
                    all_goals (try simp only [show (Fs.start l.length).i = 0 from rfl, show cK l p a 0 = 0 from rfl, Int.add_zero])
                    all_goals (try rfl)
                  · repeat' (first | exact tw_nil | exact hw_nil | refine tw_cons rfl ?_ ?_ | refine tw_cons ?_ ?_ ?_ | refine hw_cons (by decide) rfl bwk_rfl ?_ ?_ | refine hw_cons (by decide) rfl (.inr ⟨rfl, _, _, rfl⟩) ?_ ?_ | refine hw_cons (by decide) ?_ bwk_rfl ?_ ?_ | exact trivial | refine blt_row ?_ | refine lt_set ?_ ?_ | exact lt_i _ _ | exact Lt.pt _ _ (by decide) | exact lt_b _ _ | exact Lt.sc _ | exact lt_vs _ _ | exact lt_ens _ _ | exact lt_p2s _ _ | exact lt_en _ _ | exact lt_p2 _ _ | exact Lt.mp _ (by decide) | refine lt_agg ?_ | refine lt_tup ?_ | exact lt_nil | refine lt_cons ?_ ?_ | exact Lt.ow _ _ (by decide) | refine Lt.clo _ _ ?_ | exact Lt.rs _ _ _ _ (by decide) | exact Lt.e0 | exact Lt.und | exact Lt.nb _ _ | refine lt_app ?_ ?_ | refine lt_map (fun _ => ?_) | refine Lt.sl _ ?_ | refine Lt.gd _ _ ?_ | exact Lt.rp _ _ _ _ _ (by decide) | refine Lt.cp _ ?_)
                  · rintro ⟨k, hk⟩
                    by_cases hlk : k < l.length
                    · have e1 := ilt hlk
                      have e2 := isucc hlk (show l.length ≤ maxLen by have : maxLen = 9223372036854775807 := rfl; omega)
                      have e3 := en_getD hlk
                      have hin := cK_in (l := l) (p := p) (a := a) (k := k)
                      have hout := cK_out (l := l) (p := p) (a := a) (k := k)
                      have hkb := cK_bd l p a k
                      have w1 : IntKind.i64.wrap (cJ l p j + cK l p a k + 1) = cJ l p j + cK l p a k + 1 := by rw [IntKind.wrap_i64]; omega
                      generalize l.getD k En.o = c at *
                      have j1 : HasC Try.prog 16 [.agg [.i a.x, .i a.y, .i a.u, .i a.w], .agg [.i c.x, .i c.y, .i c.u, .i c.w]] (.b (ovE a c)) := ⟨c_ovE a c⟩
                      have hh : ∀ b, ((decide (a.id = p.a) && decide (c.id = p.b)) && ovE a c) = b → hitE p a c = b := fun b h => h
                      repeat' (first | with_reducible (first | exact HBs.nil | refine HBs.cons (by decide) ?_ ?_ | refine BOk.var ?_ | exact BOk.nl | exact BOk.ob | refine BOk.row ?_ | exact Lts.nil | refine Lts.cons ?_ ?_ | exact lt_i _ _ | exact Lt.pt _ _ (by decide) | exact lt_b _ _ | exact Lt.sc _ | exact lt_vs _ _ | exact lt_ens _ _ | exact lt_p2s _ _ | exact lt_en _ _ | exact lt_p2 _ _ | exact Lt.mp _ (by decide) | refine lt_agg ?_ | refine lt_tup ?_ | exact lt_nil | refine lt_cons ?_ ?_ | exact Lt.ow _ _ (by decide) | refine Lt.clo _ _ ?_ | exact Lt.rs _ _ _ _ (by decide) | exact Lt.e0 | exact Lt.und | exact Lt.nb _ _ | refine lt_app ?_ ?_ | refine lt_map (fun _ => ?_) | refine Lt.sl _ ?_ | refine Lt.gd _ _ ?_ | exact Lt.rp _ _ _ _ _ (by decide) | refine Lt.cp _ ?_) | simp only [go_sem, ↓reduceIte, Nat.reduceLT, Nat.reduceEqDiff, Nat.reduceAdd, Nat.reduceLeDiff, Nat.reduceMul, Nat.reduceSub, reduceCtorEq, Int.reduceLT, Int.reduceLE, Int.reduceNeg, Int.reduceAdd, Int.reduceEq, Int.reduceToNat, e1, e2, e3, E1, E3, F1, F3, w1, nc0] | refine cst_go ?_ | refine gcst_go ?_ | refine aext_ixcp rfl rfl rfl rfl ar_43 (by decide) (by decide) rfl ?_ | refine .inr (.inl ⟨.cp _, [], fun hv => aext_ixcp hv rfl rfl rfl ar_43 (by decide) (by decide) rfl rfl, ?_⟩) | refine effG_go ?_ | (refine regOk_go ?_; kernel_rfl) | refine acond_split (fun _ => ?_) (fun _ => ?_) | refine lt_set ?_ ?_ | exact endJ_le rfl rfl | exact HSub.nil | refine HSub.cons rfl ?_ | exact ⟨rfl, endJ_go rfl, rfl⟩ | refine keys_go rfl | refine keep_go rfl | refine le_go rfl  | refine And.intro ?_ ?_ | (intro (_ : _ = _)))
                      all_goals (try omega)
                      all_goals (try (rename_i g1 g2; rw [g1, g2]; rfl))
                      · rename_i hc
                        have hF : cJ l p j + cK l p a (k + 1) = cJ l p j + cK l p a k + 1 := by rw [hin (hh _ hc)]; omega
                        refine ⟨Fs.next hlk, Nat.sub_lt_sub_left hlk (Nat.lt_succ_self _), wk_go (by decide) ?_ ?_⟩
                        all_goals (try simp only [show (Fs.next hlk).i = k + 1 from rfl, hF])
                        · repeat' (first | exact tw_nil | exact hw_nil | refine tw_cons rfl ?_ ?_ | refine tw_cons ?_ ?_ ?_ | refine hw_cons (by decide) rfl bwk_rfl ?_ ?_ | refine hw_cons (by decide) rfl (.inr ⟨rfl, _, _, rfl⟩) ?_ ?_ | refine hw_cons (by decide) ?_ bwk_rfl ?_ ?_ | exact trivial | refine blt_row ?_ | refine lt_set ?_ ?_ | exact lt_i _ _ | exact Lt.pt _ _ (by decide) | exact lt_b _ _ | exact Lt.sc _ | exact lt_vs _ _ | exact lt_ens _ _ | exact lt_p2s _ _ | exact lt_en _ _ | exact lt_p2 _ _ | exact Lt.mp _ (by decide) | refine lt_agg ?_ | refine lt_tup ?_ | exact lt_nil | refine lt_cons ?_ ?_ | exact Lt.ow _ _ (by decide) | refine Lt.clo _ _ ?_ | exact Lt.rs _ _ _ _ (by decide) | exact Lt.e0 | exact Lt.und | exact Lt.nb _ _ | refine lt_app ?_ ?_ | refine lt_map (fun _ => ?_) | refine Lt.sl _ ?_ | refine Lt.gd _ _ ?_ | exact Lt.rp _ _ _ _ _ (by decide) | refine Lt.cp _ ?_)
                          all_goals (try rfl)
                        · repeat' (first | exact tw_nil | exact hw_nil | refine tw_cons rfl ?_ ?_ | refine tw_cons ?_ ?_ ?_ | refine hw_cons (by decide) rfl bwk_rfl ?_ ?_ | refine hw_cons (by decide) rfl (.inr ⟨rfl, _, _, rfl⟩) ?_ ?_ | refine hw_cons (by decide) ?_ bwk_rfl ?_ ?_ | exact trivial | refine blt_row ?_ | refine lt_set ?_ ?_ | exact lt_i _ _ | exact Lt.pt _ _ (by decide) | exact lt_b _ _ | exact Lt.sc _ | exact lt_vs _ _ | exact lt_ens _ _ | exact lt_p2s _ _ | exact lt_en _ _ | exact lt_p2 _ _ | exact Lt.mp _ (by decide) | refine lt_agg ?_ | refine lt_tup ?_ | exact lt_nil | refine lt_cons ?_ ?_ | exact Lt.ow _ _ (by decide) | refine Lt.clo _ _ ?_ | exact Lt.rs _ _ _ _ (by decide) | exact Lt.e0 | exact Lt.und | exact Lt.nb _ _ | refine lt_app ?_ ?_ | refine lt_map (fun _ => ?_) | refine Lt.sl _ ?_ | refine Lt.gd _ _ ?_ | exact Lt.rp _ _ _ _ _ (by decide) | refine Lt.cp _ ?_)
                          all_goals (try rfl)
                      · rename_i hc
                        have hF : cJ l p j + cK l p a (k + 1) = cJ l p j + cK l p a k := by rw [hout (hh _ hc)]
                        refine ⟨Fs.next hlk, Nat.sub_lt_sub_left hlk (Nat.lt_succ_self _), wk_go (by decide) ?_ ?_⟩
                        all_goals (try simp only [show (Fs.next hlk).i = k + 1 from rfl, hF])
                        · repeat' (first | exact tw_nil | exact hw_nil | refine tw_cons rfl ?_ ?_ | refine tw_cons ?_ ?_ ?_ | refine hw_cons (by decide) rfl bwk_rfl ?_ ?_ | refine hw_cons (by decide) rfl (.inr ⟨rfl, _, _, rfl⟩) ?_ ?_ | refine hw_cons (by decide) ?_ bwk_rfl ?_ ?_ | exact trivial | refine blt_row ?_ | refine lt_set ?_ ?_ | exact lt_i _ _ | exact Lt.pt _ _ (by decide) | exact lt_b _ _ | exact Lt.sc _ | exact lt_vs _ _ | exact lt_ens _ _ | exact lt_p2s _ _ | exact lt_en _ _ | exact lt_p2 _ _ | exact Lt.mp _ (by decide) | refine lt_agg ?_ | refine lt_tup ?_ | exact lt_nil | refine lt_cons ?_ ?_ | exact Lt.ow _ _ (by decide) | refine Lt.clo _ _ ?_ | exact Lt.rs _ _ _ _ (by decide) | exact Lt.e0 | exact Lt.und | exact Lt.nb _ _ | refine lt_app ?_ ?_ | refine lt_map (fun _ => ?_) | refine Lt.sl _ ?_ | refine Lt.gd _ _ ?_ | exact Lt.rp _ _ _ _ _ (by decide) | refine Lt.cp _ ?_)
                          all_goals (try rfl)
                        · repeat' (first | exact tw_nil | exact hw_nil | refine tw_cons rfl ?_ ?_ | refine tw_cons ?_ ?_ ?_ | refine hw_cons (by decide) rfl bwk_rfl ?_ ?_ | refine hw_cons (by decide) rfl (.inr ⟨rfl, _, _, rfl⟩) ?_ ?_ | refine hw_cons (by decide) ?_ bwk_rfl ?_ ?_ | exact trivial | refine blt_row ?_ | refine lt_set ?_ ?_ | exact lt_i _ _ | exact Lt.pt _ _ (by decide) | exact lt_b _ _ | exact Lt.sc _ | exact lt_vs _ _ | exact lt_ens _ _ | exact lt_p2s _ _ | exact lt_en _ _ | exact lt_p2 _ _ | exact Lt.mp _ (by decide) | refine lt_agg ?_ | refine lt_tup ?_ | exact lt_nil | refine lt_cons ?_ ?_ | exact Lt.ow _ _ (by decide) | refine Lt.clo _ _ ?_ | exact Lt.rs _ _ _ _ (by decide) | exact Lt.e0 | exact Lt.und | exact Lt.nb _ _ | refine lt_app ?_ ?_ | refine lt_map (fun _ => ?_) | refine Lt.sl _ ?_ | refine Lt.gd _ _ ?_ | exact Lt.rp _ _ _ _ _ (by decide) | refine Lt.cp _ ?_)
                          all_goals (try rfl)
                    · have f1 := inlt hlk
                      have hkk : k = l.length := by have : k ≤ l.length := hk; omega
                      subst hkk
                      repeat' (first | simp only [go_sem, ↓reduceIte, Nat.reduceLT, Nat.reduceEqDiff, Nat.reduceAdd, Nat.reduceLeDiff, Nat.reduceMul, Nat.reduceSub, reduceCtorEq, Int.reduceLT, Int.reduceLE, Int.reduceNeg, Int.reduceAdd, Int.reduceEq, Int.reduceToNat, f1, F2, nc0] | refine cst_go ?_ | refine gcst_go ?_ | refine effG_go ?_ | (refine regOk_go ?_; kernel_rfl) | refine acond_split (fun _ => ?_) (fun _ => ?_) | refine And.intro ?_ ?_ | (intro (_ : _ = _)))
                      refine ⟨Fs.next hlj, Nat.sub_lt_sub_left hlj (Nat.lt_succ_self _), wk_go (by decide) ?_ ?_⟩
                      all_goals (try simp only [show (Fs.next hlj).i = j + 1 from rfl, hcj])
                      · repeat' (first | exact tw_nil | exact hw_nil | refine tw_cons rfl ?_ ?_ | refine tw_cons ?_ ?_ ?_ | refine hw_cons (by decide) rfl bwk_rfl ?_ ?_ | refine hw_cons (by decide) rfl (.inr ⟨rfl, _, _, rfl⟩) ?_ ?_ | refine hw_cons (by decide) ?_ bwk_rfl ?_ ?_ | exact trivial | refine blt_row ?_ | refine lt_set ?_ ?_ | exact lt_i _ _ | exact Lt.pt _ _ (by decide) | exact lt_b _ _ | exact Lt.sc _ | exact lt_vs _ _ | exact lt_ens _ _ | exact lt_p2s _ _ | exact lt_en _ _ | exact lt_p2 _ _ | exact Lt.mp _ (by decide) | refine lt_agg ?_ | refine lt_tup ?_ | exact lt_nil | refine lt_cons ?_ ?_ | exact Lt.ow _ _ (by decide) | refine Lt.clo _ _ ?_ | exact Lt.rs _ _ _ _ (by decide) | exact Lt.e0 | exact Lt.und | exact Lt.nb _ _ | refine lt_app ?_ ?_ | refine lt_map (fun _ => ?_) | refine Lt.sl _ ?_ | refine Lt.gd _ _ ?_ | exact Lt.rp _ _ _ _ _ (by decide) | refine Lt.cp _ ?_)
                        all_goals (try rfl)
                      · repeat' (first | exact tw_nil | exact hw_nil | refine tw_cons rfl ?_ ?_ | refine tw_cons ?_ ?_ ?_ | refine hw_cons (by decide) rfl bwk_rfl ?_ ?_ | refine hw_cons (by decide) rfl (.inr ⟨rfl, _, _, rfl⟩) ?_ ?_ | refine hw_cons (by decide) ?_ bwk_rfl ?_ ?_ | exact trivial | refine blt_row ?_ | refine lt_set ?_ ?_ | exact lt_i _ _ | exact Lt.pt _ _ (by decide) | exact lt_b _ _ | exact Lt.sc _ | exact lt_vs _ _ | exact lt_ens _ _ | exact lt_p2s _ _ | exact lt_en _ _ | exact lt_p2 _ _ | exact Lt.mp _ (by decide) | refine lt_agg ?_ | refine lt_tup ?_ | exact lt_nil | refine lt_cons ?_ ?_ | exact Lt.ow _ _ (by decide) | refine Lt.clo _ _ ?_ | exact Lt.rs _ _ _ _ (by decide) | exact Lt.e0 | exact Lt.und | exact Lt.nb _ _ | refine lt_app ?_ ?_ | refine lt_map (fun _ => ?_) | refine Lt.sl _ ?_ | refine Lt.gd _ _ ?_ | exact Lt.rp _ _ _ _ _ (by decide) | refine Lt.cp _ ?_)
                        all_goals (try rfl)
                · have f1 := inlt hlj
                  have hjj : j = l.length := by have : j ≤ l.length := hj; omega
                  subst hjj
                  obtain ⟨z, hz⟩ : ∃ z : Bool, (cJ l p l.length = 1) = (z = true) := ⟨true, by rw [hp1]; simp⟩
                  have hzt : z = true := by rw [← hz]; exact hp1
                  cases i with
                  | zero =>
                    have w4 : IntKind.i64.wrap 1 = ((0 + 1 : Nat) : Int) := by kernel_rfl
                    have w3 : IntKind.i64.wrap (((0 : Nat) : Int) - 1) = -1 := by kernel_rfl
                    repeat' (first | with_reducible (first | exact HBs.nil | refine HBs.cons (by decide) ?_ ?_ | refine BOk.var ?_ | exact BOk.nl | exact BOk.ob | refine BOk.row ?_ | exact Lts.nil | refine Lts.cons ?_ ?_ | exact lt_i _ _ | exact Lt.pt _ _ (by decide) | exact lt_b _ _ | exact Lt.sc _ | exact lt_vs _ _ | exact lt_ens _ _ | exact lt_p2s _ _ | exact lt_en _ _ | exact lt_p2 _ _ | exact Lt.mp _ (by decide) | refine lt_agg ?_ | refine lt_tup ?_ | exact lt_nil | refine lt_cons ?_ ?_ | exact Lt.ow _ _ (by decide) | refine Lt.clo _ _ ?_ | exact Lt.rs _ _ _ _ (by decide) | exact Lt.e0 | exact Lt.und | exact Lt.nb _ _ | refine lt_app ?_ ?_ | refine lt_map (fun _ => ?_) | refine Lt.sl _ ?_ | refine Lt.gd _ _ ?_ | exact Lt.rp _ _ _ _ _ (by decide) | refine Lt.cp _ ?_) | simp only [go_sem, ↓reduceIte, Nat.reduceLT, Nat.reduceEqDiff, Nat.reduceAdd, Nat.reduceLeDiff, Nat.reduceMul, Nat.reduceSub, reduceCtorEq, Int.reduceLT, Int.reduceLE, Int.reduceNeg, Int.reduceAdd, Int.reduceEq, Int.reduceToNat, f1, hz, Bool.decide_eq_true, Bool.not_not, w3, g5, g6, E1, E2, E3, nc0, Int.reduceNeg] | refine cst_go ?_ | refine gcst_go ?_ | refine aext_ixcp rfl rfl rfl rfl ar_43 (by decide) (by decide) rfl ?_ | refine .inr (.inl ⟨.cp _, [], fun hv => aext_ixcp hv rfl rfl rfl ar_43 (by decide) (by decide) rfl rfl, ?_⟩) | refine aext_pick rfl rfl rfl rfl ?_ | refine .inr (.inr (aext_pick rfl rfl rfl rfl ?_)) | refine ⟨.sc (.bool false), [], ?_⟩ | refine .inl ?_ | refine effG_go ?_ | (refine regOk_go ?_; kernel_rfl) | refine acond_split (fun _ => ?_) (fun _ => ?_) | refine lt_set ?_ ?_ | exact endJ_le rfl rfl | exact HSub.nil | refine HSub.cons rfl ?_ | exact ⟨rfl, endJ_go rfl, rfl⟩ | refine keys_go rfl | refine keep_go rfl | refine le_go rfl  | refine And.intro ?_ ?_ | (intro (_ : _ = _)))
                    all_goals (try omega)
                    · rename_i hc
                      rw [hzt] at hc; cases hc
                    · refine ⟨Fs.next hlt, Nat.sub_lt_sub_left hlt (Nat.lt_succ_self _), wk_go (by decide) ?_ ?_⟩
                      all_goals (try simp only [show (Fs.next hlt).i = 0 + 1 from rfl, w4])
                      · repeat' (first | exact tw_nil | exact hw_nil | refine tw_cons rfl ?_ ?_ | refine tw_cons ?_ ?_ ?_ | refine hw_cons (by decide) rfl bwk_rfl ?_ ?_ | refine hw_cons (by decide) rfl (.inr ⟨rfl, _, _, rfl⟩) ?_ ?_ | refine hw_cons (by decide) ?_ bwk_rfl ?_ ?_ | exact trivial | refine blt_row ?_ | refine lt_set ?_ ?_ | exact lt_i _ _ | exact Lt.pt _ _ (by decide) | exact lt_b _ _ | exact Lt.sc _ | exact lt_vs _ _ | exact lt_ens _ _ | exact lt_p2s _ _ | exact lt_en _ _ | exact lt_p2 _ _ | exact Lt.mp _ (by decide) | refine lt_agg ?_ | refine lt_tup ?_ | exact lt_nil | refine lt_cons ?_ ?_ | exact Lt.ow _ _ (by decide) | refine Lt.clo _ _ ?_ | exact Lt.rs _ _ _ _ (by decide) | exact Lt.e0 | exact Lt.und | exact Lt.nb _ _ | refine lt_app ?_ ?_ | refine lt_map (fun _ => ?_) | refine Lt.sl _ ?_ | refine Lt.gd _ _ ?_ | exact Lt.rp _ _ _ _ _ (by decide) | refine Lt.cp _ ?_)
                        all_goals (try rfl)
                      · repeat' (first | exact tw_nil | exact hw_nil | refine tw_cons rfl ?_ ?_ | refine tw_cons ?_ ?_ ?_ | refine hw_cons (by decide) rfl bwk_rfl ?_ ?_ | refine hw_cons (by decide) rfl (.inr ⟨rfl, _, _, rfl⟩) ?_ ?_ | refine hw_cons (by decide) ?_ bwk_rfl ?_ ?_ | exact trivial | refine blt_row ?_ | refine lt_set ?_ ?_ | exact lt_i _ _ | exact Lt.pt _ _ (by decide) | exact lt_b _ _ | exact Lt.sc _ | exact lt_vs _ _ | exact lt_ens _ _ | exact lt_p2s _ _ | exact lt_en _ _ | exact lt_p2 _ _ | exact Lt.mp _ (by decide) | refine lt_agg ?_ | refine lt_tup ?_ | exact lt_nil | refine lt_cons ?_ ?_ | exact Lt.ow _ _ (by decide) | refine Lt.clo _ _ ?_ | exact Lt.rs _ _ _ _ (by decide) | exact Lt.e0 | exact Lt.und | exact Lt.nb _ _ | refine lt_app ?_ ?_ | refine lt_map (fun _ => ?_) | refine Lt.sl _ ?_ | refine Lt.gd _ _ ?_ | exact Lt.rp _ _ _ _ _ (by decide) | refine Lt.cp _ ?_)
                        all_goals (try rfl)
                  | succ i =>
                    have e8 := p2_getD (show i < P.length by omega)
                    have e9 := hP2 i hlt
                    have w2 : IntKind.i64.wrap (((i + 1 : Nat) : Int) - 1) = (i : Int) := by rw [IntKind.wrap_i64]; omega
                    have e10 := ilt (show i < P.length by omega)
                    have g7 : (((i + 1 : Nat) : Int) > 0) = True := eq_true (by omega)
                    have g8 : ((0 : Int) < ((i + 1 : Nat) : Int)) = True := eq_true (by omega)
                    rw [hpe] at e9
                    generalize P.getD i P2.o = q at *
                    have g9 : (decide (q.a = p.a) && decide (q.b = p.b)) = false := by
                      cases hh : (decide (q.a = p.a) && decide (q.b = p.b)) with
                      | false => rfl
                      | true =>
                        simp only [Bool.and_eq_true, decide_eq_true_eq] at hh
                        exact absurd (by cases q; cases p; simp_all) e9
                    repeat' (first | with_reducible (first | exact HBs.nil | refine HBs.cons (by decide) ?_ ?_ | refine BOk.var ?_ | exact BOk.nl | exact BOk.ob | refine BOk.row ?_ | exact Lts.nil | refine Lts.cons ?_ ?_ | exact lt_i _ _ | exact Lt.pt _ _ (by decide) | exact lt_b _ _ | exact Lt.sc _ | exact lt_vs _ _ | exact lt_ens _ _ | exact lt_p2s _ _ | exact lt_en _ _ | exact lt_p2 _ _ | exact Lt.mp _ (by decide) | refine lt_agg ?_ | refine lt_tup ?_ | exact lt_nil | refine lt_cons ?_ ?_ | exact Lt.ow _ _ (by decide) | refine Lt.clo _ _ ?_ | exact Lt.rs _ _ _ _ (by decide) | exact Lt.e0 | exact Lt.und | exact Lt.nb _ _ | refine lt_app ?_ ?_ | refine lt_map (fun _ => ?_) | refine Lt.sl _ ?_ | refine Lt.gd _ _ ?_ | exact Lt.rp _ _ _ _ _ (by decide) | refine Lt.cp _ ?_) | simp only [go_sem, ↓reduceIte, Nat.reduceLT, Nat.reduceEqDiff, Nat.reduceAdd, Nat.reduceLeDiff, Nat.reduceMul, Nat.reduceSub, reduceCtorEq, Int.reduceLT, Int.reduceLE, Int.reduceNeg, Int.reduceAdd, Int.reduceEq, Int.reduceToNat, f1, hz, Bool.decide_eq_true, Bool.not_not, g5, g6, g7, g8, g9, w2, e8, e10, E1, E2, E3, nc0] | refine cst_go ?_ | refine gcst_go ?_ | refine aext_ixcp rfl rfl rfl rfl ar_43 (by decide) (by decide) rfl ?_ | refine .inr (.inl ⟨.cp _, [], fun hv => aext_ixcp hv rfl rfl rfl ar_43 (by decide) (by decide) rfl rfl, ?_⟩) | refine effG_go ?_ | (refine regOk_go ?_; kernel_rfl) | refine acond_split (fun _ => ?_) (fun _ => ?_) | refine lt_set ?_ ?_ | exact endJ_le rfl rfl | exact HSub.nil | refine HSub.cons rfl ?_ | exact ⟨rfl, endJ_go rfl, rfl⟩ | refine keys_go rfl | refine keep_go rfl | refine le_go rfl  | refine And.intro ?_ ?_ | (intro (_ : _ = _)))
                    all_goals (try omega)
                    · rename_i hc
                      rw [hzt] at hc; cases hc
                    · refine ⟨Fs.next hlt, Nat.sub_lt_sub_left hlt (Nat.lt_succ_self _), wk_go (by decide) ?_ ?_⟩
                      all_goals (try simp only [show (Fs.next hlt).i = (i + 1) + 1 from rfl, E2])
                      · repeat' (first | exact tw_nil | exact hw_nil | refine tw_cons rfl ?_ ?_ | refine tw_cons ?_ ?_ ?_ | refine hw_cons (by decide) rfl bwk_rfl ?_ ?_ | refine hw_cons (by decide) rfl (.inr ⟨rfl, _, _, rfl⟩) ?_ ?_ | refine hw_cons (by decide) ?_ bwk_rfl ?_ ?_ | exact trivial | refine blt_row ?_ | refine lt_set ?_ ?_ | exact lt_i _ _ | exact Lt.pt _ _ (by decide) | exact lt_b _ _ | exact Lt.sc _ | exact lt_vs _ _ | exact lt_ens _ _ | exact lt_p2s _ _ | exact lt_en _ _ | exact lt_p2 _ _ | exact Lt.mp _ (by decide) | refine lt_agg ?_ | refine lt_tup ?_ | exact lt_nil | refine lt_cons ?_ ?_ | exact Lt.ow _ _ (by decide) | refine Lt.clo _ _ ?_ | exact Lt.rs _ _ _ _ (by decide) | exact Lt.e0 | exact Lt.und | exact Lt.nb _ _ | refine lt_app ?_ ?_ | refine lt_map (fun _ => ?_) | refine Lt.sl _ ?_ | refine Lt.gd _ _ ?_ | exact Lt.rp _ _ _ _ _ (by decide) | refine Lt.cp _ ?_)
                        all_goals (try rfl)
                      · repeat' (first | exact tw_nil | exact hw_nil | refine tw_cons rfl ?_ ?_ | refine tw_cons ?_ ?_ ?_ | refine hw_cons (by decide) rfl bwk_rfl ?_ ?_ | refine hw_cons (by decide) rfl (.inr ⟨rfl, _, _, rfl⟩) ?_ ?_ | refine hw_cons (by decide) ?_ bwk_rfl ?_ ?_ | exact trivial | refine blt_row ?_ | refine lt_set ?_ ?_ | exact lt_i _ _ | exact Lt.pt _ _ (by decide) | exact lt_b _ _ | exact Lt.sc _ | exact lt_vs _ _ | exact lt_ens _ _ | exact lt_p2s _ _ | exact lt_en _ _ | exact lt_p2 _ _ | exact Lt.mp _ (by decide) | refine lt_agg ?_ | refine lt_tup ?_ | exact lt_nil | refine lt_cons ?_ ?_ | exact Lt.ow _ _ (by decide) | refine Lt.clo _ _ ?_ | exact Lt.rs _ _ _ _ (by decide) | exact Lt.e0 | exact Lt.und | exact Lt.nb _ _ | refine lt_app ?_ ?_ | refine lt_map (fun _ => ?_) | refine Lt.sl _ ?_ | refine Lt.gd _ _ ?_ | exact Lt.rp _ _ _ _ _ (by decide) | refine Lt.cp _ ?_)
                        all_goals (try rfl)
            · have f1 := inlt hlt
              repeat' (first | simp only [go_sem, ↓reduceIte, Nat.reduceLT, Nat.reduceEqDiff, Nat.reduceAdd, Nat.reduceLeDiff, Nat.reduceMul, Nat.reduceSub, reduceCtorEq, Int.reduceLT, Int.reduceLE, Int.reduceNeg, Int.reduceAdd, Int.reduceEq, Int.reduceToNat, f1, nc0] | refine cst_go ?_ | refine gcst_go ?_ | refine effG_go ?_ | (refine regOk_go ?_; kernel_rfl) | refine acond_split (fun _ => ?_) (fun _ => ?_) | refine And.intro ?_ ?_ | (intro (_ : _ = _)))
              all_goals (try rfl)
  · have g1 : ((l.length : Int) > 30) = True := eq_true (by omega)
    have g2 : ((30 : Int) < (l.length : Int)) = True := eq_true (by omega)
    refine tr_ac hm ?_
    repeat' (first | simp only [go_sem, ↓reduceIte, Nat.reduceLT, Nat.reduceEqDiff, Nat.reduceAdd, Nat.reduceLeDiff, Nat.reduceMul, Nat.reduceSub, reduceCtorEq, Int.reduceLT, Int.reduceLE, Int.reduceNeg, Int.reduceAdd, Int.reduceEq, Int.reduceToNat, g1, g2, nc0] | refine cst_go ?_ | refine gcst_go ?_ | refine effG_go ?_ | (refine regOk_go ?_; kernel_rfl) | refine acond_split (fun _ => ?_) (fun _ => ?_) | refine And.intro ?_ ?_ | (intro (_ : _ = _)))
    all_goals (try rfl)

end Go.Proofs.Ytfhpalfchhinlaa
