/-
  The laws of chapter 39 that speak of no reference. Conditions: none.
-/
import Derived.Test.YtgjmmipabpocdaaC46
import Derived.Test.YtgjmmipabpocdaaM40
import Derived.Outline
set_option linter.all false
namespace Go.Proofs.Ytgjmmipabpocdaa
open Go.RowKit Go.AL Go.Carom

set_option maxRecDepth 20000 in
set_option maxHeartbeats 4000000 in
theorem c_issm39 (was now : List Bd) (js : List Jt) (hw : was.length ≤ maxLen) (hn : now.length ≤ maxLen) (hwF : ∀ b ∈ was, b.fs.length ≤ maxLen) (hnF : ∀ b ∈ now, b.fs.length ≤ maxLen) : PCall Try.prog 6 [.agg [.sl (was.map Bd.v), .sl (now.map Bd.v), .sl (js.map Jt.v)]] (.b (small39 was js && small39 now js)) := by
  refine pcall_of hm Try.func6 rfl (by kernel_rfl) (by rw [Try.ntmps6]; exact Nat.le_of_ble_eq_true rfl) (lt_cons (lt_agg (lt_cons (lt_bds _ _) (lt_cons (lt_bds _ _) (lt_cons (lt_jts _ _) lt_nil)))) lt_nil) (lt_b _ _) ?_
  rw [Try.ntmps6, Try.results6]
  have i1 : HasC Try.prog 12 [.sl (was.map Bd.v), .sl (js.map Jt.v)] (.b (small39 was js)) := ⟨c_small39 was hw js hwF⟩
  have i2 : HasC Try.prog 12 [.sl (now.map Bd.v), .sl (js.map Jt.v)] (.b (small39 now js)) := ⟨c_small39 now hn js hnF⟩
  repeat' (first | simp only [go_sem, ↓reduceIte, Nat.reduceLT, Nat.reduceEqDiff, Nat.reduceAdd, Nat.reduceLeDiff, Nat.reduceMul, Nat.reduceSub, reduceCtorEq, Int.reduceLT, Int.reduceLE, Int.reduceNeg, Int.reduceAdd, Int.reduceEq, Int.reduceToNat, nc0] | refine cst_go ?_ | refine gcst_go ?_ | (refine regOk_go ?_; kernel_rfl) | refine acond_split (fun _ => ?_) (fun _ => ?_) | refine And.intro ?_ ?_ | (intro (_ : _ = _)))
  all_goals (try rfl)

set_option maxRecDepth 20000 in
set_option maxHeartbeats 4000000 in
theorem l_only (was now : List Bd) (js : List Jt) (hw : was.length ≤ maxLen) (hn : now.length ≤ maxLen) (hwF : ∀ b ∈ was, b.fs.length ≤ maxLen) (hnF : ∀ b ∈ now, b.fs.length ≤ maxLen) (hx : PCall Try.prog 7 [] (.b true)) : PCall Try.prog 5 [.agg [.sl (was.map Bd.v), .sl (now.map Bd.v), .sl (js.map Jt.v)]] (.b true) := by
  refine pcall_of hm Try.func5 rfl (by kernel_rfl) (by rw [Try.ntmps5]; exact Nat.le_of_ble_eq_true rfl) (lt_cons (lt_agg (lt_cons (lt_bds _ _) (lt_cons (lt_bds _ _) (lt_cons (lt_jts _ _) lt_nil)))) lt_nil) (lt_b _ _) ?_
  rw [Try.ntmps5, Try.results5]
  have i0 : HasC Try.prog 7 [] (.b true) := ⟨hx⟩
  have i1 : HasC Try.prog 6 [.agg [.sl (was.map Bd.v), .sl (now.map Bd.v), .sl (js.map Jt.v)]] (.b (small39 was js && small39 now js)) := ⟨c_issm39 was now js hw hn hwF hnF⟩
  cases hS : (small39 was js && small39 now js) with
  | false =>
    repeat' (first | simp only [go_sem, ↓reduceIte, Nat.reduceLT, Nat.reduceEqDiff, Nat.reduceAdd, Nat.reduceLeDiff, Nat.reduceMul, Nat.reduceSub, reduceCtorEq, Int.reduceLT, Int.reduceLE, Int.reduceNeg, Int.reduceAdd, Int.reduceEq, Int.reduceToNat, hS, nc0] | refine cst_go ?_ | refine gcst_go ?_ | refine gcst_dead ?_ | (refine regOk_go ?_; kernel_rfl) | refine acond_split (fun _ => ?_) (fun _ => ?_) | refine And.intro ?_ ?_ | (intro (_ : _ = _)))
    all_goals (try rfl)
  | true =>
    have hS' := hS
    rw [Bool.and_eq_true] at hS'
    obtain ⟨hW, hJ, hW5⟩ := small39_in hS'.1
    obtain ⟨hN, _, hN5⟩ := small39_in hS'.2
    have hLl := stopL_len was now js now.length
    have hmx : now.length ≤ maxLen := by have := hN.1; have : maxLen = 9223372036854775807 := rfl; omega
    have i2 : HasC Try.prog 8 [.sl (was.map Bd.v), .sl (now.map Bd.v), .sl (js.map Jt.v)] (.tup [.sl ((stopL was now js now.length).map Bd.v), .sl ((stopE was now js now.length).map Evt.v)]) := ⟨c_stopall was now js hW hN hJ⟩
    repeat' (first | simp only [go_sem, ↓reduceIte, Nat.reduceLT, Nat.reduceEqDiff, Nat.reduceAdd, Nat.reduceLeDiff, Nat.reduceMul, Nat.reduceSub, reduceCtorEq, Int.reduceLT, Int.reduceLE, Int.reduceNeg, Int.reduceAdd, Int.reduceEq, Int.reduceToNat, hS, hLl, eq_self, nc0] | refine cst_go ?_ | refine gcst_go ?_ | (refine regOk_go ?_; kernel_rfl) | refine acond_split (fun _ => ?_) (fun _ => ?_) | refine And.intro ?_ ?_ | (intro (_ : _ = _)))
    refine tr_lp hm [1, 3] [0] (fun x' : FS now.length => [(5, .i x'.i)]) (fun x' : FS now.length => []) (fun x' => now.length - x'.i) (FS.start _) ?_ ?_ ?_
    · repeat' (first | exact tw_nil | exact hw_nil | refine tw_cons rfl ?_ ?_ | refine tw_cons ?_ ?_ ?_ | refine hw_cons (by decide) rfl bwk_rfl ?_ ?_ | refine hw_cons (by decide) rfl (.inr ⟨rfl, _, _, rfl⟩) ?_ ?_ | refine hw_cons (by decide) ?_ bwk_rfl ?_ ?_ | exact trivial | refine blt_row ?_ | refine lt_set ?_ ?_ | exact lt_i _ _ | exact Lt.pt _ _ (by decide) | exact lt_b _ _ | exact Lt.sc _ | exact lt_vs _ _ | exact lt_fxs _ _ | exact lt_bds _ _ | exact lt_jts _ _ | refine lt_agg ?_ | refine lt_tup ?_ | exact lt_nil | refine lt_cons ?_ ?_ | exact Lt.ow _ _ (by decide) | refine Lt.clo _ _ ?_ | exact Lt.rs _ _ _ _ (by decide) | exact lt_fx _ _ | exact lt_bd _ _ | exact lt_evt _ _ | exact lt_evts _ _ | exact Lt.e0 | exact Lt.und | exact Lt.nb _ _ | refine lt_app ?_ ?_ | refine lt_map (fun _ => ?_) | refine Lt.sl _ ?_ | refine Lt.gd _ _ ?_ | exact Lt.rp _ _ _ _ _ (by decide) | refine Lt.cp _ ?_)
      all_goals (try rfl)
    · repeat' (first | exact tw_nil | exact hw_nil | refine tw_cons rfl ?_ ?_ | refine tw_cons ?_ ?_ ?_ | refine hw_cons (by decide) rfl bwk_rfl ?_ ?_ | refine hw_cons (by decide) rfl (.inr ⟨rfl, _, _, rfl⟩) ?_ ?_ | refine hw_cons (by decide) ?_ bwk_rfl ?_ ?_ | exact trivial | refine blt_row ?_ | refine lt_set ?_ ?_ | exact lt_i _ _ | exact Lt.pt _ _ (by decide) | exact lt_b _ _ | exact Lt.sc _ | exact lt_vs _ _ | exact lt_fxs _ _ | exact lt_bds _ _ | exact lt_jts _ _ | refine lt_agg ?_ | refine lt_tup ?_ | exact lt_nil | refine lt_cons ?_ ?_ | exact Lt.ow _ _ (by decide) | refine Lt.clo _ _ ?_ | exact Lt.rs _ _ _ _ (by decide) | exact lt_fx _ _ | exact lt_bd _ _ | exact lt_evt _ _ | exact lt_evts _ _ | exact Lt.e0 | exact Lt.und | exact Lt.nb _ _ | refine lt_app ?_ ?_ | refine lt_map (fun _ => ?_) | refine Lt.sl _ ?_ | refine Lt.gd _ _ ?_ | exact Lt.rp _ _ _ _ _ (by decide) | refine Lt.cp _ ?_)
    · rintro ⟨i, hi⟩
      by_cases hlt : i < now.length
      · have e1 := ilt hlt
        have e2 := isucc hlt hmx
        have e3 := bd_getD hlt
        have hg := stopL_getD (was := was) (now := now) (js := js) hlt
        obtain ⟨x, y, a, ha⟩ := stopI_at (was := was) (js := js) hlt
        have e4 := bd_getD (l := stopL was now js now.length) (i := i) (by omega)
        rw [hg, ha] at e4
        simp only [Bd.at] at e4
        have sN := hN.get i
        generalize now.getD i Bd.o = bi at *
        have j1 : HasC Try.prog 10 [.agg [.i bi.id, .i bi.kd, .i bi.px, .i bi.py, .i bi.an, .i bi.vx, .i bi.vy, .i bi.av, .i bi.gx, .i bi.gy, .i bi.tq, .i bi.ld, .i bi.ad, .i bi.gs, .b bi.bul, .b bi.fr, .b bi.ns, .b bi.asl, .i bi.idl, .sl (bi.fs.map Fx.v)], .agg [.i bi.id, .i bi.kd, .i bi.px, .i bi.py, .i bi.an, .i bi.vx, .i bi.vy, .i bi.av, .i bi.gx, .i bi.gy, .i bi.tq, .i bi.ld, .i bi.ad, .i bi.gs, .b bi.bul, .b bi.fr, .b bi.ns, .b bi.asl, .i bi.idl, .sl (bi.fs.map Fx.v)]] (.b true) := ⟨c_eqbd bi sN⟩
        repeat' (first | simp only [go_sem, ↓reduceIte, Nat.reduceLT, Nat.reduceEqDiff, Nat.reduceAdd, Nat.reduceLeDiff, Nat.reduceMul, Nat.reduceSub, reduceCtorEq, Int.reduceLT, Int.reduceLE, Int.reduceNeg, Int.reduceAdd, Int.reduceEq, Int.reduceToNat, e1, e2, e3, e4, hLl, nc0] | refine cst_go ?_ | refine gcst_go ?_ | (refine regOk_go ?_; kernel_rfl) | refine acond_split (fun _ => ?_) (fun _ => ?_) | refine And.intro ?_ ?_ | (intro (_ : _ = _)))
        all_goals (try omega)
        refine ⟨FS.next hlt, Nat.sub_lt_sub_left hlt (Nat.lt_succ_self _), wk_go (by decide) ?_ ?_⟩
        · repeat' (first | exact tw_nil | exact hw_nil | refine tw_cons rfl ?_ ?_ | refine tw_cons ?_ ?_ ?_ | refine hw_cons (by decide) rfl bwk_rfl ?_ ?_ | refine hw_cons (by decide) rfl (.inr ⟨rfl, _, _, rfl⟩) ?_ ?_ | refine hw_cons (by decide) ?_ bwk_rfl ?_ ?_ | exact trivial | refine blt_row ?_ | refine lt_set ?_ ?_ | exact lt_i _ _ | exact Lt.pt _ _ (by decide) | exact lt_b _ _ | exact Lt.sc _ | exact lt_vs _ _ | exact lt_fxs _ _ | exact lt_bds _ _ | exact lt_jts _ _ | refine lt_agg ?_ | refine lt_tup ?_ | exact lt_nil | refine lt_cons ?_ ?_ | exact Lt.ow _ _ (by decide) | refine Lt.clo _ _ ?_ | exact Lt.rs _ _ _ _ (by decide) | exact lt_fx _ _ | exact lt_bd _ _ | exact lt_evt _ _ | exact lt_evts _ _ | exact Lt.e0 | exact Lt.und | exact Lt.nb _ _ | refine lt_app ?_ ?_ | refine lt_map (fun _ => ?_) | refine Lt.sl _ ?_ | refine Lt.gd _ _ ?_ | exact Lt.rp _ _ _ _ _ (by decide) | refine Lt.cp _ ?_)
          all_goals (try rfl)
        · repeat' (first | exact tw_nil | exact hw_nil | refine tw_cons rfl ?_ ?_ | refine tw_cons ?_ ?_ ?_ | refine hw_cons (by decide) rfl bwk_rfl ?_ ?_ | refine hw_cons (by decide) rfl (.inr ⟨rfl, _, _, rfl⟩) ?_ ?_ | refine hw_cons (by decide) ?_ bwk_rfl ?_ ?_ | exact trivial | refine blt_row ?_ | refine lt_set ?_ ?_ | exact lt_i _ _ | exact Lt.pt _ _ (by decide) | exact lt_b _ _ | exact Lt.sc _ | exact lt_vs _ _ | exact lt_fxs _ _ | exact lt_bds _ _ | exact lt_jts _ _ | refine lt_agg ?_ | refine lt_tup ?_ | exact lt_nil | refine lt_cons ?_ ?_ | exact Lt.ow _ _ (by decide) | refine Lt.clo _ _ ?_ | exact Lt.rs _ _ _ _ (by decide) | exact lt_fx _ _ | exact lt_bd _ _ | exact lt_evt _ _ | exact lt_evts _ _ | exact Lt.e0 | exact Lt.und | exact Lt.nb _ _ | refine lt_app ?_ ?_ | refine lt_map (fun _ => ?_) | refine Lt.sl _ ?_ | refine Lt.gd _ _ ?_ | exact Lt.rp _ _ _ _ _ (by decide) | refine Lt.cp _ ?_)
      · have f1 := inlt hlt
        repeat' (first | simp only [go_sem, ↓reduceIte, Nat.reduceLT, Nat.reduceEqDiff, Nat.reduceAdd, Nat.reduceLeDiff, Nat.reduceMul, Nat.reduceSub, reduceCtorEq, Int.reduceLT, Int.reduceLE, Int.reduceNeg, Int.reduceAdd, Int.reduceEq, Int.reduceToNat, f1, hLl, eq_self] | refine cst_go ?_ | refine gcst_go ?_ | (refine regOk_go ?_; kernel_rfl) | refine acond_split (fun _ => ?_) (fun _ => ?_) | refine And.intro ?_ ?_ | (intro (_ : _ = _)))
        all_goals (try rfl)

set_option maxRecDepth 20000 in
set_option maxHeartbeats 4000000 in
theorem l_indep (was now : List Bd) (js : List Jt) (hw : was.length ≤ maxLen) (hn : now.length ≤ maxLen) (hwF : ∀ b ∈ was, b.fs.length ≤ maxLen) (hnF : ∀ b ∈ now, b.fs.length ≤ maxLen) (hx : PCall Try.prog 7 [] (.b true)) : PCall Try.prog 3 [.agg [.sl (was.map Bd.v), .sl (now.map Bd.v), .sl (js.map Jt.v)]] (.b true) := by
  refine pcall_of hm Try.func3 rfl (by kernel_rfl) (by rw [Try.ntmps3]; exact Nat.le_of_ble_eq_true rfl) (lt_cons (lt_agg (lt_cons (lt_bds _ _) (lt_cons (lt_bds _ _) (lt_cons (lt_jts _ _) lt_nil)))) lt_nil) (lt_b _ _) ?_
  rw [Try.ntmps3, Try.results3]
  have i0 : HasC Try.prog 7 [] (.b true) := ⟨hx⟩
  have i1 : HasC Try.prog 6 [.agg [.sl (was.map Bd.v), .sl (now.map Bd.v), .sl (js.map Jt.v)]] (.b (small39 was js && small39 now js)) := ⟨c_issm39 was now js hw hn hwF hnF⟩
  cases hS : (small39 was js && small39 now js) with
  | false =>
    repeat' (first | simp only [go_sem, ↓reduceIte, Nat.reduceLT, Nat.reduceEqDiff, Nat.reduceAdd, Nat.reduceLeDiff, Nat.reduceMul, Nat.reduceSub, reduceCtorEq, Int.reduceLT, Int.reduceLE, Int.reduceNeg, Int.reduceAdd, Int.reduceEq, Int.reduceToNat, hS, nc0] | refine cst_go ?_ | refine gcst_go ?_ | refine gcst_dead ?_ | (refine regOk_go ?_; kernel_rfl) | refine acond_split (fun _ => ?_) (fun _ => ?_) | refine And.intro ?_ ?_ | (intro (_ : _ = _)))
    all_goals (try rfl)
  | true =>
    have hS' := hS
    rw [Bool.and_eq_true] at hS'
    obtain ⟨hW, hJ, hW5⟩ := small39_in hS'.1
    obtain ⟨hN, _, hN5⟩ := small39_in hS'.2
    have hLl := stopL_len was now js now.length
    have hmx : now.length ≤ maxLen := by have := hN.1; have : maxLen = 9223372036854775807 := rfl; omega
    have i2 : HasC Try.prog 8 [.sl (was.map Bd.v), .sl (now.map Bd.v), .sl (js.map Jt.v)] (.tup [.sl ((stopL was now js now.length).map Bd.v), .sl ((stopE was now js now.length).map Evt.v)]) := ⟨c_stopall was now js hW hN hJ⟩
    repeat' (first | simp only [go_sem, ↓reduceIte, Nat.reduceLT, Nat.reduceEqDiff, Nat.reduceAdd, Nat.reduceLeDiff, Nat.reduceMul, Nat.reduceSub, reduceCtorEq, Int.reduceLT, Int.reduceLE, Int.reduceNeg, Int.reduceAdd, Int.reduceEq, Int.reduceToNat, hS, hLl, eq_self, nc0] | refine cst_go ?_ | refine gcst_go ?_ | (refine regOk_go ?_; kernel_rfl) | refine acond_split (fun _ => ?_) (fun _ => ?_) | refine And.intro ?_ ?_ | (intro (_ : _ = _)))
    refine tr_lp hm [1, 3, 4] [0] (fun x' : FS now.length => [(5, .i (stopE was now js x'.i).length), (6, .i x'.i)]) (fun x' : FS now.length => []) (fun x' => now.length - x'.i) (FS.start _) ?_ ?_ ?_
    · repeat' (first | exact tw_nil | exact hw_nil | refine tw_cons rfl ?_ ?_ | refine tw_cons ?_ ?_ ?_ | refine hw_cons (by decide) rfl bwk_rfl ?_ ?_ | refine hw_cons (by decide) rfl (.inr ⟨rfl, _, _, rfl⟩) ?_ ?_ | refine hw_cons (by decide) ?_ bwk_rfl ?_ ?_ | exact trivial | refine blt_row ?_ | refine lt_set ?_ ?_ | exact lt_i _ _ | exact Lt.pt _ _ (by decide) | exact lt_b _ _ | exact Lt.sc _ | exact lt_vs _ _ | exact lt_fxs _ _ | exact lt_bds _ _ | exact lt_jts _ _ | refine lt_agg ?_ | refine lt_tup ?_ | exact lt_nil | refine lt_cons ?_ ?_ | exact Lt.ow _ _ (by decide) | refine Lt.clo _ _ ?_ | exact Lt.rs _ _ _ _ (by decide) | exact lt_fx _ _ | exact lt_bd _ _ | exact lt_evt _ _ | exact lt_evts _ _ | exact Lt.e0 | exact Lt.und | exact Lt.nb _ _ | refine lt_app ?_ ?_ | refine lt_map (fun _ => ?_) | refine Lt.sl _ ?_ | refine Lt.gd _ _ ?_ | exact Lt.rp _ _ _ _ _ (by decide) | refine Lt.cp _ ?_)
      all_goals (try rfl)
    · repeat' (first | exact tw_nil | exact hw_nil | refine tw_cons rfl ?_ ?_ | refine tw_cons ?_ ?_ ?_ | refine hw_cons (by decide) rfl bwk_rfl ?_ ?_ | refine hw_cons (by decide) rfl (.inr ⟨rfl, _, _, rfl⟩) ?_ ?_ | refine hw_cons (by decide) ?_ bwk_rfl ?_ ?_ | exact trivial | refine blt_row ?_ | refine lt_set ?_ ?_ | exact lt_i _ _ | exact Lt.pt _ _ (by decide) | exact lt_b _ _ | exact Lt.sc _ | exact lt_vs _ _ | exact lt_fxs _ _ | exact lt_bds _ _ | exact lt_jts _ _ | refine lt_agg ?_ | refine lt_tup ?_ | exact lt_nil | refine lt_cons ?_ ?_ | exact Lt.ow _ _ (by decide) | refine Lt.clo _ _ ?_ | exact Lt.rs _ _ _ _ (by decide) | exact lt_fx _ _ | exact lt_bd _ _ | exact lt_evt _ _ | exact lt_evts _ _ | exact Lt.e0 | exact Lt.und | exact Lt.nb _ _ | refine lt_app ?_ ?_ | refine lt_map (fun _ => ?_) | refine Lt.sl _ ?_ | refine Lt.gd _ _ ?_ | exact Lt.rp _ _ _ _ _ (by decide) | refine Lt.cp _ ?_)
    · rintro ⟨i, hi⟩
      by_cases hlt : i < now.length
      · have e1 := ilt hlt
        have e2 := isucc hlt hmx
        have e3 := bd_getD hlt
        have hg := stopL_getD (was := was) (now := now) (js := js) hlt
        have e4 := bd_getD (l := stopL was now js now.length) (i := i) (by omega)
        rw [hg] at e4
        obtain ⟨x, y, a, ha⟩ := stopI_at (was := was) (js := js) hlt
        have hb := stopI_bullet (was := was) (now := now) (js := js) (m := i)
        have hs := stopI_same (was := was) (now := now) (js := js) hlt
        have hEi := stopE_in was now js i
        have hEo := stopE_out was now js i
        have hgE := stopE_getD (was := was) (now := now) (js := js) hlt
        have hEl := stopE_len was now js i
        have sN := hN.get i
        have j1 : HasC Try.prog 9 [.sl (was.map Bd.v), .sl (now.map Bd.v), .sl (js.map Jt.v), .i (i : Int)] (.tup [.agg [.i (stopI was now js (i : Int)).1.id, .i (stopI was now js (i : Int)).1.kd, .i (stopI was now js (i : Int)).1.px, .i (stopI was now js (i : Int)).1.py, .i (stopI was now js (i : Int)).1.an, .i (stopI was now js (i : Int)).1.vx, .i (stopI was now js (i : Int)).1.vy, .i (stopI was now js (i : Int)).1.av, .i (stopI was now js (i : Int)).1.gx, .i (stopI was now js (i : Int)).1.gy, .i (stopI was now js (i : Int)).1.tq, .i (stopI was now js (i : Int)).1.ld, .i (stopI was now js (i : Int)).1.ad, .i (stopI was now js (i : Int)).1.gs, .b (stopI was now js (i : Int)).1.bul, .b (stopI was now js (i : Int)).1.fr, .b (stopI was now js (i : Int)).1.ns, .b (stopI was now js (i : Int)).1.asl, .i (stopI was now js (i : Int)).1.idl, .sl ((stopI was now js (i : Int)).1.fs.map Fx.v)], .b (stopI was now js (i : Int)).2]) := ⟨c_stop was now js hW hN hJ i⟩
        generalize stopI was now js (i : Int) = r at *
        obtain ⟨sb, sk⟩ := r
        simp only at ha hb hs hEi hEo hgE e4 j1
        have sB : sb.S := by rw [ha]; exact sN
        generalize now.getD i Bd.o = bi at *
        have j2 : HasC Try.prog 10 [.agg [.i sb.id, .i sb.kd, .i sb.px, .i sb.py, .i sb.an, .i sb.vx, .i sb.vy, .i sb.av, .i sb.gx, .i sb.gy, .i sb.tq, .i sb.ld, .i sb.ad, .i sb.gs, .b sb.bul, .b sb.fr, .b sb.ns, .b sb.asl, .i sb.idl, .sl (sb.fs.map Fx.v)], .agg [.i sb.id, .i sb.kd, .i sb.px, .i sb.py, .i sb.an, .i sb.vx, .i sb.vy, .i sb.av, .i sb.gx, .i sb.gy, .i sb.tq, .i sb.ld, .i sb.ad, .i sb.gs, .b sb.bul, .b sb.fr, .b sb.ns, .b sb.asl, .i sb.idl, .sl (sb.fs.map Fx.v)]] (.b true) := ⟨c_eqbd sb sB⟩
        have j3 : HasC Try.prog 10 [.agg [.i bi.id, .i bi.kd, .i bi.px, .i bi.py, .i bi.an, .i bi.vx, .i bi.vy, .i bi.av, .i bi.gx, .i bi.gy, .i bi.tq, .i bi.ld, .i bi.ad, .i bi.gs, .b bi.bul, .b bi.fr, .b bi.ns, .b bi.asl, .i bi.idl, .sl (bi.fs.map Fx.v)], .agg [.i bi.id, .i bi.kd, .i bi.px, .i bi.py, .i bi.an, .i bi.vx, .i bi.vy, .i bi.av, .i bi.gx, .i bi.gy, .i bi.tq, .i bi.ld, .i bi.ad, .i bi.gs, .b bi.bul, .b bi.fr, .b bi.ns, .b bi.asl, .i bi.idl, .sl (bi.fs.map Fx.v)]] (.b true) := ⟨c_eqbd bi sN⟩
        cases sk with
        | false =>
          have hsb := hs rfl
          subst hsb
          have hE := hEo rfl
          repeat' (first | simp only [go_sem, ↓reduceIte, Nat.reduceLT, Nat.reduceEqDiff, Nat.reduceAdd, Nat.reduceLeDiff, Nat.reduceMul, Nat.reduceSub, reduceCtorEq, Int.reduceLT, Int.reduceLE, Int.reduceNeg, Int.reduceAdd, Int.reduceEq, Int.reduceToNat, e1, e2, e3, e4, hLl, eq_self, nc0] | refine cst_go ?_ | refine gcst_go ?_ | refine gcst_dead ?_ | (refine regOk_go ?_; kernel_rfl) | refine acond_split (fun _ => ?_) (fun _ => ?_) | refine And.intro ?_ ?_ | (intro (_ : _ = _)))
          all_goals (try omega)
          refine ⟨FS.next hlt, Nat.sub_lt_sub_left hlt (Nat.lt_succ_self _), wk_go (by decide) ?_ ?_⟩
          all_goals (try simp only [show (FS.next hlt).i = i + 1 from rfl, hE, List.length_append, List.length_cons, List.length_nil])
          · repeat' (first | exact tw_nil | exact hw_nil | refine tw_cons rfl ?_ ?_ | refine tw_cons ?_ ?_ ?_ | refine hw_cons (by decide) rfl bwk_rfl ?_ ?_ | refine hw_cons (by decide) rfl (.inr ⟨rfl, _, _, rfl⟩) ?_ ?_ | refine hw_cons (by decide) ?_ bwk_rfl ?_ ?_ | exact trivial | refine blt_row ?_ | refine lt_set ?_ ?_ | exact lt_i _ _ | exact Lt.pt _ _ (by decide) | exact lt_b _ _ | exact Lt.sc _ | exact lt_vs _ _ | exact lt_fxs _ _ | exact lt_bds _ _ | exact lt_jts _ _ | refine lt_agg ?_ | refine lt_tup ?_ | exact lt_nil | refine lt_cons ?_ ?_ | exact Lt.ow _ _ (by decide) | refine Lt.clo _ _ ?_ | exact Lt.rs _ _ _ _ (by decide) | exact lt_fx _ _ | exact lt_bd _ _ | exact lt_evt _ _ | exact lt_evts _ _ | exact Lt.e0 | exact Lt.und | exact Lt.nb _ _ | refine lt_app ?_ ?_ | refine lt_map (fun _ => ?_) | refine Lt.sl _ ?_ | refine Lt.gd _ _ ?_ | exact Lt.rp _ _ _ _ _ (by decide) | refine Lt.cp _ ?_)
            all_goals (try rfl)
          · repeat' (first | exact tw_nil | exact hw_nil | refine tw_cons rfl ?_ ?_ | refine tw_cons ?_ ?_ ?_ | refine hw_cons (by decide) rfl bwk_rfl ?_ ?_ | refine hw_cons (by decide) rfl (.inr ⟨rfl, _, _, rfl⟩) ?_ ?_ | refine hw_cons (by decide) ?_ bwk_rfl ?_ ?_ | exact trivial | refine blt_row ?_ | refine lt_set ?_ ?_ | exact lt_i _ _ | exact Lt.pt _ _ (by decide) | exact lt_b _ _ | exact Lt.sc _ | exact lt_vs _ _ | exact lt_fxs _ _ | exact lt_bds _ _ | exact lt_jts _ _ | refine lt_agg ?_ | refine lt_tup ?_ | exact lt_nil | refine lt_cons ?_ ?_ | exact Lt.ow _ _ (by decide) | refine Lt.clo _ _ ?_ | exact Lt.rs _ _ _ _ (by decide) | exact lt_fx _ _ | exact lt_bd _ _ | exact lt_evt _ _ | exact lt_evts _ _ | exact Lt.e0 | exact Lt.und | exact Lt.nb _ _ | refine lt_app ?_ ?_ | refine lt_map (fun _ => ?_) | refine Lt.sl _ ?_ | refine Lt.gd _ _ ?_ | exact Lt.rp _ _ _ _ _ (by decide) | refine Lt.cp _ ?_)
        | true =>
          have hE := hEi rfl
          have hbb := (hb rfl).2
          obtain ⟨hg1, hg2⟩ := hgE rfl
          have hexb : (!bi.bul || !decide (bi.kd = 3) || bi.asl) = false := by
            unfold bullet at hbb
            rw [← Bool.not_and, ← Bool.not_not (b := bi.asl), ← Bool.not_and, hbb]; rfl
          have hid : sb.id = bi.id := by rw [ha]; rfl
          have e5 := evt_getD hg1
          rw [hg2] at e5
          simp only [evS, hid] at e5
          have e6 := ilt hg1
          have e7 := isucc hg1 (show (stopE was now js now.length).length ≤ maxLen by have := stopE_len was now js now.length; omega)
          have e8 : (((stopE was now js now.length).length : Int) ≤ ((stopE was now js i).length : Int)) = False := eq_false (by omega)
          repeat' (first | with_reducible (first | exact HBs.nil | refine HBs.cons (by decide) ?_ ?_ | refine BOk.var ?_ | exact BOk.nl | exact BOk.ob | refine BOk.row ?_ | exact Lts.nil | refine Lts.cons ?_ ?_ | exact lt_i _ _ | exact Lt.pt _ _ (by decide) | exact lt_b _ _ | exact Lt.sc _ | exact lt_vs _ _ | exact lt_fxs _ _ | exact lt_bds _ _ | exact lt_jts _ _ | refine lt_agg ?_ | refine lt_tup ?_ | exact lt_nil | refine lt_cons ?_ ?_ | exact Lt.ow _ _ (by decide) | refine Lt.clo _ _ ?_ | exact Lt.rs _ _ _ _ (by decide) | exact lt_fx _ _ | exact lt_bd _ _ | exact lt_evt _ _ | exact lt_evts _ _ | exact Lt.e0 | exact Lt.und | exact Lt.nb _ _ | refine lt_app ?_ ?_ | refine lt_map (fun _ => ?_) | refine Lt.sl _ ?_ | refine Lt.gd _ _ ?_ | exact Lt.rp _ _ _ _ _ (by decide) | refine Lt.cp _ ?_) | simp only [go_sem, ↓reduceIte, Nat.reduceLT, Nat.reduceEqDiff, Nat.reduceAdd, Nat.reduceLeDiff, Nat.reduceMul, Nat.reduceSub, reduceCtorEq, Int.reduceLT, Int.reduceLE, Int.reduceNeg, Int.reduceAdd, Int.reduceEq, Int.reduceToNat, e1, e2, e3, e4, e5, e6, e7, e8, hexb, hLl, eq_self, nc0] | refine cst_go ?_ | refine gcst_go ?_ | refine gcst_deadb ?_ | (refine regOk_go ?_; kernel_rfl) | refine acond_split (fun _ => ?_) (fun _ => ?_) | refine lt_set ?_ ?_ | exact endJ_le rfl rfl | exact HSub.nil | refine HSub.cons rfl ?_ | exact ⟨rfl, endJ_go rfl, rfl⟩ | refine keys_go rfl | refine keep_go rfl | refine le_go rfl  | refine And.intro ?_ ?_ | (intro (_ : _ = _)))
          all_goals (try omega)
          refine ⟨FS.next hlt, Nat.sub_lt_sub_left hlt (Nat.lt_succ_self _), wk_go (by decide) ?_ ?_⟩
          all_goals (try simp only [show (FS.next hlt).i = i + 1 from rfl, hE, List.length_append, List.length_cons, List.length_nil])
          · repeat' (first | exact tw_nil | exact hw_nil | refine tw_cons rfl ?_ ?_ | refine tw_cons ?_ ?_ ?_ | refine hw_cons (by decide) rfl bwk_rfl ?_ ?_ | refine hw_cons (by decide) rfl (.inr ⟨rfl, _, _, rfl⟩) ?_ ?_ | refine hw_cons (by decide) ?_ bwk_rfl ?_ ?_ | exact trivial | refine blt_row ?_ | refine lt_set ?_ ?_ | exact lt_i _ _ | exact Lt.pt _ _ (by decide) | exact lt_b _ _ | exact Lt.sc _ | exact lt_vs _ _ | exact lt_fxs _ _ | exact lt_bds _ _ | exact lt_jts _ _ | refine lt_agg ?_ | refine lt_tup ?_ | exact lt_nil | refine lt_cons ?_ ?_ | exact Lt.ow _ _ (by decide) | refine Lt.clo _ _ ?_ | exact Lt.rs _ _ _ _ (by decide) | exact lt_fx _ _ | exact lt_bd _ _ | exact lt_evt _ _ | exact lt_evts _ _ | exact Lt.e0 | exact Lt.und | exact Lt.nb _ _ | refine lt_app ?_ ?_ | refine lt_map (fun _ => ?_) | refine Lt.sl _ ?_ | refine Lt.gd _ _ ?_ | exact Lt.rp _ _ _ _ _ (by decide) | refine Lt.cp _ ?_)
            all_goals (try rfl)
          · repeat' (first | exact tw_nil | exact hw_nil | refine tw_cons rfl ?_ ?_ | refine tw_cons ?_ ?_ ?_ | refine hw_cons (by decide) rfl bwk_rfl ?_ ?_ | refine hw_cons (by decide) rfl (.inr ⟨rfl, _, _, rfl⟩) ?_ ?_ | refine hw_cons (by decide) ?_ bwk_rfl ?_ ?_ | exact trivial | refine blt_row ?_ | refine lt_set ?_ ?_ | exact lt_i _ _ | exact Lt.pt _ _ (by decide) | exact lt_b _ _ | exact Lt.sc _ | exact lt_vs _ _ | exact lt_fxs _ _ | exact lt_bds _ _ | exact lt_jts _ _ | refine lt_agg ?_ | refine lt_tup ?_ | exact lt_nil | refine lt_cons ?_ ?_ | exact Lt.ow _ _ (by decide) | refine Lt.clo _ _ ?_ | exact Lt.rs _ _ _ _ (by decide) | exact lt_fx _ _ | exact lt_bd _ _ | exact lt_evt _ _ | exact lt_evts _ _ | exact Lt.e0 | exact Lt.und | exact Lt.nb _ _ | refine lt_app ?_ ?_ | refine lt_map (fun _ => ?_) | refine Lt.sl _ ?_ | refine Lt.gd _ _ ?_ | exact Lt.rp _ _ _ _ _ (by decide) | refine Lt.cp _ ?_)
      · have f1 := inlt hlt
        have hii : i = now.length := by omega
        subst hii
        repeat' (first | simp only [go_sem, ↓reduceIte, Nat.reduceLT, Nat.reduceEqDiff, Nat.reduceAdd, Nat.reduceLeDiff, Nat.reduceMul, Nat.reduceSub, reduceCtorEq, Int.reduceLT, Int.reduceLE, Int.reduceNeg, Int.reduceAdd, Int.reduceEq, Int.reduceToNat, f1, hLl, eq_self] | refine cst_go ?_ | refine gcst_go ?_ | (refine regOk_go ?_; kernel_rfl) | refine acond_split (fun _ => ?_) (fun _ => ?_) | refine And.intro ?_ ?_ | (intro (_ : _ = _)))
        all_goals (try rfl)

set_option maxRecDepth 20000 in
set_option maxHeartbeats 4000000 in
theorem l_mis (was now : List Bd) (js : List Jt) (hw : was.length ≤ maxLen) (hn : now.length ≤ maxLen) (hwF : ∀ b ∈ was, b.fs.length ≤ maxLen) (hnF : ∀ b ∈ now, b.fs.length ≤ maxLen) (n : Int) (hx : PCall Try.prog 7 [] (.b true)) : PCall Try.prog 4 [.agg [.sl (was.map Bd.v), .sl (now.map Bd.v), .sl (js.map Jt.v)], .i n] (.b true) := by
  refine pcall_of hm Try.func4 rfl (by kernel_rfl) (by rw [Try.ntmps4]; exact Nat.le_of_ble_eq_true rfl) (lt_cons (lt_agg (lt_cons (lt_bds _ _) (lt_cons (lt_bds _ _) (lt_cons (lt_jts _ _) lt_nil)))) (lt_cons (lt_i _ _) lt_nil)) (lt_b _ _) ?_
  rw [Try.ntmps4, Try.results4]
  have i0 : HasC Try.prog 7 [] (.b true) := ⟨hx⟩
  have i1 : HasC Try.prog 6 [.agg [.sl (was.map Bd.v), .sl (now.map Bd.v), .sl (js.map Jt.v)]] (.b (small39 was js && small39 now js)) := ⟨c_issm39 was now js hw hn hwF hnF⟩
  cases hS : (small39 was js && small39 now js) with
  | false =>
    repeat' (first | simp only [go_sem, ↓reduceIte, Nat.reduceLT, Nat.reduceEqDiff, Nat.reduceAdd, Nat.reduceLeDiff, Nat.reduceMul, Nat.reduceSub, reduceCtorEq, Int.reduceLT, Int.reduceLE, Int.reduceNeg, Int.reduceAdd, Int.reduceEq, Int.reduceToNat, hS, nc0] | refine cst_go ?_ | refine gcst_go ?_ | refine gcst_dead ?_ | (refine regOk_go ?_; kernel_rfl) | refine acond_split (fun _ => ?_) (fun _ => ?_) | refine And.intro ?_ ?_ | (intro (_ : _ = _)))
    all_goals (try rfl)
  | true =>
    have hS' := hS
    rw [Bool.and_eq_true] at hS'
    obtain ⟨hW, hJ, hW5⟩ := small39_in hS'.1
    obtain ⟨hN, _, hN5⟩ := small39_in hS'.2
    have hLl := stopL_len was now js now.length
    have hmx : now.length ≤ maxLen := by have := hN.1; have : maxLen = 9223372036854775807 := rfl; omega
    by_cases hz : now.length = 0
    · have d0 : ((now.length : Int) = 0) = True := eq_true (by omega)
      repeat' (first | simp only [go_sem, ↓reduceIte, Nat.reduceLT, Nat.reduceEqDiff, Nat.reduceAdd, Nat.reduceLeDiff, Nat.reduceMul, Nat.reduceSub, reduceCtorEq, Int.reduceLT, Int.reduceLE, Int.reduceNeg, Int.reduceAdd, Int.reduceEq, Int.reduceToNat, hS, d0, nc0] | refine cst_go ?_ | refine gcst_go ?_ | refine gcst_dead ?_ | (refine regOk_go ?_; kernel_rfl) | refine acond_split (fun _ => ?_) (fun _ => ?_) | refine And.intro ?_ ?_ | (intro (_ : _ = _)))
      all_goals (try rfl)
    · have d0 : ((now.length : Int) = 0) = False := eq_false (by omega)
      have hD1 : ((now.map Bd.v).take now.length).drop 1 = (now.drop 1).map Bd.v := by
        rw [← List.map_take, List.take_length, ← List.map_drop]
      have hl1 : (now.drop 1).length = now.length - 1 := List.length_drop
      have i2 : HasC Try.prog 8 [.sl (was.map Bd.v), .sl ((now.drop 1).map Bd.v), .sl (js.map Jt.v)] (.tup [.sl ((stopL was (now.drop 1) js (now.drop 1).length).map Bd.v), .sl ((stopE was (now.drop 1) js (now.drop 1).length).map Evt.v)]) := ⟨c_stopall was (now.drop 1) js hW hN.drop1 hJ⟩
      have i3 : HasC Try.prog 11 [.sl (was.map Bd.v), .sl (now.map Bd.v), .sl (js.map Jt.v), .i (now.length : Int)] (.tup [.i 0, .b false]) := ⟨by have h := c_fst was now js hW hN hJ (now.length : Int); rw [fst_big] at h; exact h⟩
      have i4 : HasC Try.prog 9 [.sl (was.map Bd.v), .sl (now.map Bd.v), .sl (js.map Jt.v), .i (-1)] (.tup [.agg [.i 0, .i 0, .i 0, .i 0, .i 0, .i 0, .i 0, .i 0, .i 0, .i 0, .i 0, .i 0, .i 0, .i 0, .b false, .b false, .b false, .b false, .i 0, .sl []], .b false]) := ⟨by have h := c_stop was now js hW hN hJ (-1); rw [stopI_out (by omega)] at h; exact h⟩
      have q5 : PCall Try.prog 10 [.agg [.i 0, .i 0, .i 0, .i 0, .i 0, .i 0, .i 0, .i 0, .i 0, .i 0, .i 0, .i 0, .i 0, .i 0, .b false, .b false, .b false, .b false, .i 0, .sl []], .agg [.i 0, .i 0, .i 0, .i 0, .i 0, .i 0, .i 0, .i 0, .i 0, .i 0, .i 0, .i 0, .i 0, .i 0, .b false, .b false, .b false, .b false, .i 0, .sl []]] (.b true) := c_eqbd Bd.o Bd.o_S
      have hLl1 := stopL_len was (now.drop 1) js (now.drop 1).length
      by_cases hE : was.length = now.length
      · have dE : ((was.length : Int) = (now.length : Int)) = True := eq_true (by omega)
        have hne : was.length ≠ (now.drop 1).length := by omega
        have hE0 : (stopE was (now.drop 1) js (now.drop 1).length).length = 0 := by rw [stopE_mis hne]; rfl
        have hsub : IntKind.i64.wrap ((now.length : Int) - 1) = ((now.drop 1).length : Int) := by
          rw [hl1, w64_id (by omega) (by omega)]; omega
        repeat' (first | with_reducible (first | exact HBs.nil | refine HBs.cons (by decide) ?_ ?_ | refine BOk.var ?_ | exact BOk.nl | exact BOk.ob | refine BOk.row ?_ | exact Lts.nil | refine Lts.cons ?_ ?_ | exact lt_i _ _ | exact Lt.pt _ _ (by decide) | exact lt_b _ _ | exact Lt.sc _ | exact lt_vs _ _ | exact lt_fxs _ _ | exact lt_bds _ _ | exact lt_jts _ _ | refine lt_agg ?_ | refine lt_tup ?_ | exact lt_nil | refine lt_cons ?_ ?_ | exact Lt.ow _ _ (by decide) | refine Lt.clo _ _ ?_ | exact Lt.rs _ _ _ _ (by decide) | exact lt_fx _ _ | exact lt_bd _ _ | exact lt_evt _ _ | exact lt_evts _ _ | exact Lt.e0 | exact Lt.und | exact Lt.nb _ _ | refine lt_app ?_ ?_ | refine lt_map (fun _ => ?_) | refine Lt.sl _ ?_ | refine Lt.gd _ _ ?_ | exact Lt.rp _ _ _ _ _ (by decide) | refine Lt.cp _ ?_) | simp only [go_sem, ↓reduceIte, Nat.reduceLT, Nat.reduceEqDiff, Nat.reduceAdd, Nat.reduceLeDiff, Nat.reduceMul, Nat.reduceSub, reduceCtorEq, Int.reduceLT, Int.reduceLE, Int.reduceNeg, Int.reduceAdd, Int.reduceEq, Int.reduceToNat, hS, d0, hD1, eq_self, nc0, dE, hE0, hsub, hLl1] | refine cst_go ?_ | refine gcst_go ?_ | exact NRs.nil | refine NRs.cons ?_ ?_ | exact NR.refl _ | exact NR.nl rfl | refine NR.aggs ?_ | refine NR.sls ?_ | refine gcst_true (cst_nl q5 ?_ ?_) | refine cst_nl q5 ?_ ?_ | (refine regOk_go ?_; kernel_rfl) | refine acond_split (fun _ => ?_) (fun _ => ?_) | refine lt_set ?_ ?_ | exact endJ_le rfl rfl | exact HSub.nil | refine HSub.cons rfl ?_ | exact ⟨rfl, endJ_go rfl, rfl⟩ | refine keys_go rfl | refine keep_go rfl | refine le_go rfl  | refine And.intro ?_ ?_ | (intro (_ : _ = _)))
        all_goals (try rfl)
        all_goals (try exact bds_len _)
        all_goals (try omega)
        refine tr_lp hm [2, 5] [0] (fun x' : FS (now.drop 1).length => [(11, .i x'.i)]) (fun x' : FS (now.drop 1).length => []) (fun x' => (now.drop 1).length - x'.i) (FS.start _) ?_ ?_ ?_
        · repeat' (first | exact tw_nil | exact hw_nil | refine tw_cons rfl ?_ ?_ | refine tw_cons ?_ ?_ ?_ | refine hw_cons (by decide) rfl bwk_rfl ?_ ?_ | refine hw_cons (by decide) rfl (.inr ⟨rfl, _, _, rfl⟩) ?_ ?_ | refine hw_cons (by decide) ?_ bwk_rfl ?_ ?_ | exact trivial | refine blt_row ?_ | refine lt_set ?_ ?_ | exact lt_i _ _ | exact Lt.pt _ _ (by decide) | exact lt_b _ _ | exact Lt.sc _ | exact lt_vs _ _ | exact lt_fxs _ _ | exact lt_bds _ _ | exact lt_jts _ _ | refine lt_agg ?_ | refine lt_tup ?_ | exact lt_nil | refine lt_cons ?_ ?_ | exact Lt.ow _ _ (by decide) | refine Lt.clo _ _ ?_ | exact Lt.rs _ _ _ _ (by decide) | exact lt_fx _ _ | exact lt_bd _ _ | exact lt_evt _ _ | exact lt_evts _ _ | exact Lt.e0 | exact Lt.und | exact Lt.nb _ _ | refine lt_app ?_ ?_ | refine lt_map (fun _ => ?_) | refine Lt.sl _ ?_ | refine Lt.gd _ _ ?_ | exact Lt.rp _ _ _ _ _ (by decide) | refine Lt.cp _ ?_)
          all_goals (try rfl)
        · repeat' (first | exact tw_nil | exact hw_nil | refine tw_cons rfl ?_ ?_ | refine tw_cons ?_ ?_ ?_ | refine hw_cons (by decide) rfl bwk_rfl ?_ ?_ | refine hw_cons (by decide) rfl (.inr ⟨rfl, _, _, rfl⟩) ?_ ?_ | refine hw_cons (by decide) ?_ bwk_rfl ?_ ?_ | exact trivial | refine blt_row ?_ | refine lt_set ?_ ?_ | exact lt_i _ _ | exact Lt.pt _ _ (by decide) | exact lt_b _ _ | exact Lt.sc _ | exact lt_vs _ _ | exact lt_fxs _ _ | exact lt_bds _ _ | exact lt_jts _ _ | refine lt_agg ?_ | refine lt_tup ?_ | exact lt_nil | refine lt_cons ?_ ?_ | exact Lt.ow _ _ (by decide) | refine Lt.clo _ _ ?_ | exact Lt.rs _ _ _ _ (by decide) | exact lt_fx _ _ | exact lt_bd _ _ | exact lt_evt _ _ | exact lt_evts _ _ | exact Lt.e0 | exact Lt.und | exact Lt.nb _ _ | refine lt_app ?_ ?_ | refine lt_map (fun _ => ?_) | refine Lt.sl _ ?_ | refine Lt.gd _ _ ?_ | exact Lt.rp _ _ _ _ _ (by decide) | refine Lt.cp _ ?_)
        · rintro ⟨i, hi⟩
          by_cases hlt : i < (now.drop 1).length
          · have e1 := ilt hlt
            have hlt1 : i + 1 < now.length := by omega
            have e2 := isucc (i := i) (n := now.length) (by omega) hmx
            have e3 := bd_getD hlt1
            have e6 := ilt hlt1
            have e4 := bd_getD (l := stopL was (now.drop 1) js (now.drop 1).length) (i := i) (by omega)
            rw [stopL_mis hne hlt] at e4
            have sN := hN.get (i + 1)
            generalize now.getD (i + 1) Bd.o = bi at *
            have j1 : HasC Try.prog 10 [.agg [.i bi.id, .i bi.kd, .i bi.px, .i bi.py, .i bi.an, .i bi.vx, .i bi.vy, .i bi.av, .i bi.gx, .i bi.gy, .i bi.tq, .i bi.ld, .i bi.ad, .i bi.gs, .b bi.bul, .b bi.fr, .b bi.ns, .b bi.asl, .i bi.idl, .sl (bi.fs.map Fx.v)], .agg [.i bi.id, .i bi.kd, .i bi.px, .i bi.py, .i bi.an, .i bi.vx, .i bi.vy, .i bi.av, .i bi.gx, .i bi.gy, .i bi.tq, .i bi.ld, .i bi.ad, .i bi.gs, .b bi.bul, .b bi.fr, .b bi.ns, .b bi.asl, .i bi.idl, .sl (bi.fs.map Fx.v)]] (.b true) := ⟨c_eqbd bi sN⟩
            repeat' (first | simp only [go_sem, ↓reduceIte, Nat.reduceLT, Nat.reduceEqDiff, Nat.reduceAdd, Nat.reduceLeDiff, Nat.reduceMul, Nat.reduceSub, reduceCtorEq, Int.reduceLT, Int.reduceLE, Int.reduceNeg, Int.reduceAdd, Int.reduceEq, Int.reduceToNat, e1, e2, e3, e4, e6, dE, hLl1, nc0] | refine cst_go ?_ | refine gcst_go ?_ | (refine regOk_go ?_; kernel_rfl) | refine acond_split (fun _ => ?_) (fun _ => ?_) | refine And.intro ?_ ?_ | (intro (_ : _ = _)))
            all_goals (try omega)
            refine ⟨FS.next hlt, Nat.sub_lt_sub_left hlt (Nat.lt_succ_self _), wk_go (by decide) ?_ ?_⟩
            · repeat' (first | exact tw_nil | exact hw_nil | refine tw_cons rfl ?_ ?_ | refine tw_cons ?_ ?_ ?_ | refine hw_cons (by decide) rfl bwk_rfl ?_ ?_ | refine hw_cons (by decide) rfl (.inr ⟨rfl, _, _, rfl⟩) ?_ ?_ | refine hw_cons (by decide) ?_ bwk_rfl ?_ ?_ | exact trivial | refine blt_row ?_ | refine lt_set ?_ ?_ | exact lt_i _ _ | exact Lt.pt _ _ (by decide) | exact lt_b _ _ | exact Lt.sc _ | exact lt_vs _ _ | exact lt_fxs _ _ | exact lt_bds _ _ | exact lt_jts _ _ | refine lt_agg ?_ | refine lt_tup ?_ | exact lt_nil | refine lt_cons ?_ ?_ | exact Lt.ow _ _ (by decide) | refine Lt.clo _ _ ?_ | exact Lt.rs _ _ _ _ (by decide) | exact lt_fx _ _ | exact lt_bd _ _ | exact lt_evt _ _ | exact lt_evts _ _ | exact Lt.e0 | exact Lt.und | exact Lt.nb _ _ | refine lt_app ?_ ?_ | refine lt_map (fun _ => ?_) | refine Lt.sl _ ?_ | refine Lt.gd _ _ ?_ | exact Lt.rp _ _ _ _ _ (by decide) | refine Lt.cp _ ?_)
              all_goals (try rfl)
            · repeat' (first | exact tw_nil | exact hw_nil | refine tw_cons rfl ?_ ?_ | refine tw_cons ?_ ?_ ?_ | refine hw_cons (by decide) rfl bwk_rfl ?_ ?_ | refine hw_cons (by decide) rfl (.inr ⟨rfl, _, _, rfl⟩) ?_ ?_ | refine hw_cons (by decide) ?_ bwk_rfl ?_ ?_ | exact trivial | refine blt_row ?_ | refine lt_set ?_ ?_ | exact lt_i _ _ | exact Lt.pt _ _ (by decide) | exact lt_b _ _ | exact Lt.sc _ | exact lt_vs _ _ | exact lt_fxs _ _ | exact lt_bds _ _ | exact lt_jts _ _ | refine lt_agg ?_ | refine lt_tup ?_ | exact lt_nil | refine lt_cons ?_ ?_ | exact Lt.ow _ _ (by decide) | refine Lt.clo _ _ ?_ | exact Lt.rs _ _ _ _ (by decide) | exact lt_fx _ _ | exact lt_bd _ _ | exact lt_evt _ _ | exact lt_evts _ _ | exact Lt.e0 | exact Lt.und | exact Lt.nb _ _ | refine lt_app ?_ ?_ | refine lt_map (fun _ => ?_) | refine Lt.sl _ ?_ | refine Lt.gd _ _ ?_ | exact Lt.rp _ _ _ _ _ (by decide) | refine Lt.cp _ ?_)
          · have f1 := inlt hlt
            repeat' (first | simp only [go_sem, ↓reduceIte, Nat.reduceLT, Nat.reduceEqDiff, Nat.reduceAdd, Nat.reduceLeDiff, Nat.reduceMul, Nat.reduceSub, reduceCtorEq, Int.reduceLT, Int.reduceLE, Int.reduceNeg, Int.reduceAdd, Int.reduceEq, Int.reduceToNat, f1, dE, hLl1, eq_self] | refine cst_go ?_ | refine gcst_go ?_ | (refine regOk_go ?_; kernel_rfl) | refine acond_split (fun _ => ?_) (fun _ => ?_) | refine And.intro ?_ ?_ | (intro (_ : _ = _)))
            all_goals (try rfl)
      · have dE : ((was.length : Int) = (now.length : Int)) = False := eq_false (by omega)
        repeat' (first | with_reducible (first | exact HBs.nil | refine HBs.cons (by decide) ?_ ?_ | refine BOk.var ?_ | exact BOk.nl | exact BOk.ob | refine BOk.row ?_ | exact Lts.nil | refine Lts.cons ?_ ?_ | exact lt_i _ _ | exact Lt.pt _ _ (by decide) | exact lt_b _ _ | exact Lt.sc _ | exact lt_vs _ _ | exact lt_fxs _ _ | exact lt_bds _ _ | exact lt_jts _ _ | refine lt_agg ?_ | refine lt_tup ?_ | exact lt_nil | refine lt_cons ?_ ?_ | exact Lt.ow _ _ (by decide) | refine Lt.clo _ _ ?_ | exact Lt.rs _ _ _ _ (by decide) | exact lt_fx _ _ | exact lt_bd _ _ | exact lt_evt _ _ | exact lt_evts _ _ | exact Lt.e0 | exact Lt.und | exact Lt.nb _ _ | refine lt_app ?_ ?_ | refine lt_map (fun _ => ?_) | refine Lt.sl _ ?_ | refine Lt.gd _ _ ?_ | exact Lt.rp _ _ _ _ _ (by decide) | refine Lt.cp _ ?_) | simp only [go_sem, ↓reduceIte, Nat.reduceLT, Nat.reduceEqDiff, Nat.reduceAdd, Nat.reduceLeDiff, Nat.reduceMul, Nat.reduceSub, reduceCtorEq, Int.reduceLT, Int.reduceLE, Int.reduceNeg, Int.reduceAdd, Int.reduceEq, Int.reduceToNat, hS, d0, hD1, eq_self, nc0, dE, hLl1] | refine cst_go ?_ | refine gcst_go ?_ | exact NRs.nil | refine NRs.cons ?_ ?_ | exact NR.refl _ | exact NR.nl rfl | refine NR.aggs ?_ | refine NR.sls ?_ | refine gcst_true (cst_nl q5 ?_ ?_) | refine cst_nl q5 ?_ ?_ | (refine regOk_go ?_; kernel_rfl) | refine acond_split (fun _ => ?_) (fun _ => ?_) | refine lt_set ?_ ?_ | exact endJ_le rfl rfl | exact HSub.nil | refine HSub.cons rfl ?_ | exact ⟨rfl, endJ_go rfl, rfl⟩ | refine keys_go rfl | refine keep_go rfl | refine le_go rfl  | refine And.intro ?_ ?_ | (intro (_ : _ = _)))
        all_goals (try rfl)
        all_goals (try exact bds_len _)
        all_goals (try omega)
        refine tr_lp hm [2, 5] [0] (fun x' : FS (now.drop 1).length => [(11, .i x'.i)]) (fun x' : FS (now.drop 1).length => []) (fun x' => (now.drop 1).length - x'.i) (FS.start _) ?_ ?_ ?_
        · repeat' (first | exact tw_nil | exact hw_nil | refine tw_cons rfl ?_ ?_ | refine tw_cons ?_ ?_ ?_ | refine hw_cons (by decide) rfl bwk_rfl ?_ ?_ | refine hw_cons (by decide) rfl (.inr ⟨rfl, _, _, rfl⟩) ?_ ?_ | refine hw_cons (by decide) ?_ bwk_rfl ?_ ?_ | exact trivial | refine blt_row ?_ | refine lt_set ?_ ?_ | exact lt_i _ _ | exact Lt.pt _ _ (by decide) | exact lt_b _ _ | exact Lt.sc _ | exact lt_vs _ _ | exact lt_fxs _ _ | exact lt_bds _ _ | exact lt_jts _ _ | refine lt_agg ?_ | refine lt_tup ?_ | exact lt_nil | refine lt_cons ?_ ?_ | exact Lt.ow _ _ (by decide) | refine Lt.clo _ _ ?_ | exact Lt.rs _ _ _ _ (by decide) | exact lt_fx _ _ | exact lt_bd _ _ | exact lt_evt _ _ | exact lt_evts _ _ | exact Lt.e0 | exact Lt.und | exact Lt.nb _ _ | refine lt_app ?_ ?_ | refine lt_map (fun _ => ?_) | refine Lt.sl _ ?_ | refine Lt.gd _ _ ?_ | exact Lt.rp _ _ _ _ _ (by decide) | refine Lt.cp _ ?_)
          all_goals (try rfl)
        · repeat' (first | exact tw_nil | exact hw_nil | refine tw_cons rfl ?_ ?_ | refine tw_cons ?_ ?_ ?_ | refine hw_cons (by decide) rfl bwk_rfl ?_ ?_ | refine hw_cons (by decide) rfl (.inr ⟨rfl, _, _, rfl⟩) ?_ ?_ | refine hw_cons (by decide) ?_ bwk_rfl ?_ ?_ | exact trivial | refine blt_row ?_ | refine lt_set ?_ ?_ | exact lt_i _ _ | exact Lt.pt _ _ (by decide) | exact lt_b _ _ | exact Lt.sc _ | exact lt_vs _ _ | exact lt_fxs _ _ | exact lt_bds _ _ | exact lt_jts _ _ | refine lt_agg ?_ | refine lt_tup ?_ | exact lt_nil | refine lt_cons ?_ ?_ | exact Lt.ow _ _ (by decide) | refine Lt.clo _ _ ?_ | exact Lt.rs _ _ _ _ (by decide) | exact lt_fx _ _ | exact lt_bd _ _ | exact lt_evt _ _ | exact lt_evts _ _ | exact Lt.e0 | exact Lt.und | exact Lt.nb _ _ | refine lt_app ?_ ?_ | refine lt_map (fun _ => ?_) | refine Lt.sl _ ?_ | refine Lt.gd _ _ ?_ | exact Lt.rp _ _ _ _ _ (by decide) | refine Lt.cp _ ?_)
        · rintro ⟨i, hi⟩
          repeat' (first | simp only [go_sem, ↓reduceIte, Nat.reduceLT, Nat.reduceEqDiff, Nat.reduceAdd, Nat.reduceLeDiff, Nat.reduceMul, Nat.reduceSub, reduceCtorEq, Int.reduceLT, Int.reduceLE, Int.reduceNeg, Int.reduceAdd, Int.reduceEq, Int.reduceToNat, dE, hLl1, eq_self] | refine cst_go ?_ | refine gcst_go ?_ | (refine regOk_go ?_; kernel_rfl) | refine acond_split (fun _ => ?_) (fun _ => ?_) | refine And.intro ?_ ?_ | (intro (_ : _ = _)))
          all_goals (try rfl)

end Go.Proofs.Ytgjmmipabpocdaa
