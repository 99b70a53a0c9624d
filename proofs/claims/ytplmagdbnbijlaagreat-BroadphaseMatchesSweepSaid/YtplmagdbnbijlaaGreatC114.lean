/-
  The reference's FindPairs. Conditions: none.
-/
import Derived.Test.YtplmagdbnbijlaaGreatC112
import Derived.Test.YtplmagdbnbijlaaGreatMC
import Derived.Test.YtplmagdbnbijlaaGreatAlF
import Derived.Outline
set_option linter.all false
namespace Go.Proofs.YtplmagdbnbijlaaGreat
open Go.RowKit Go.AL Go.Carom
set_option maxRecDepth 20000 in
set_option maxHeartbeats 4000000 in
theorem c_rconn (l : List Jt) (hl : l.length ≤ 1000000) (a b : Int) : PCall Tryz.prog 24 [.sl (l.map Jt.v), .i a, .i b] (.b (conn l a b)) := by
  refine pcall_of hm Tryz.func24 rfl (by kernel_rfl) (by rw [Tryz.ntmps24]; exact Nat.le_of_ble_eq_true rfl) (lt_cons (lt_jts _ _) (lt_cons (lt_i _ _) (lt_cons (lt_i _ _) lt_nil))) (lt_b _ _) ?_
  rw [Tryz.ntmps24, Tryz.results24]
  rw [conn_all]
  repeat' (first | simp only [go_sem, ↓reduceIte, Nat.reduceLT, Nat.reduceEqDiff, Nat.reduceAdd, Nat.reduceLeDiff, Nat.reduceMul, Nat.reduceSub, reduceCtorEq, Int.reduceLT, Int.reduceLE, Int.reduceNeg, Int.reduceAdd, Int.reduceEq, Int.reduceToNat, nc0])
  refine tr_lp hm [0, 1, 2] [] (fun x' : LS (l.length) (fun i => !jcon a b (l.getD i Jt.o)) => [(7, .i x'.i)]) (fun x' : LS (l.length) (fun i => !jcon a b (l.getD i Jt.o)) => []) (fun x' => l.length - x'.i) (LS.start _ _) ?_ ?_ ?_
  · repeat' (first | exact tw_nil | refine tw_cons rfl ?_ ?_ | exact lt_i _ _ | exact lt_jts _ _)
  · repeat' (first | exact hw_nil)
  · rintro ⟨i, hi, hh⟩
    by_cases hlt : i < l.length
    · have e1 := ilt hlt
      have e2 := isucc hlt (show l.length ≤ maxLen by have : maxLen = 9223372036854775807 := rfl; omega)
      have e3 := jt_getD hlt
      repeat' (first | simp only [go_sem, ↓reduceIte, Nat.reduceLT, Nat.reduceEqDiff, Nat.reduceAdd, Nat.reduceLeDiff, Nat.reduceMul, Nat.reduceSub, reduceCtorEq, Int.reduceLT, Int.reduceLE, Int.reduceNeg, Int.reduceAdd, Int.reduceEq, Int.reduceToNat, e1, e2, e3, rjcon] | refine acond_split (fun _ => ?_) (fun _ => ?_) | refine And.intro ?_ ?_ | (intro (_ : _ = _)))
      all_goals (try omega)
      all_goals (try (rename_i h1 h2; rw [h1, h2]; rfl))
      all_goals (try (rename_i h1 h2 h3; rw [h1, h2, h3]; rfl))
      all_goals (try (rename_i h1; rw [h1]; rfl))
      · rename_i hc
        refine leaf_b ?_
        rw [LS.fail hlt (show (!jcon a b (l.getD i Jt.o)) = false by rw [hc]; rfl)]; rfl
      · rename_i hc
        refine ⟨LS.next hlt hh (show (!jcon a b (l.getD i Jt.o)) = true by rw [hc]; rfl), Nat.sub_lt_sub_left hlt (Nat.lt_succ_self _), wk_go (by decide) ?_ ?_⟩
        · repeat' (first | exact tw_nil | refine tw_cons rfl ?_ ?_ | exact lt_i _ _ | exact lt_jts _ _)
        · repeat' (first | exact hw_nil)
    · have f1 := inlt hlt
      have hd := LS.done hlt hh
      repeat' (first | simp only [go_sem, ↓reduceIte, Nat.reduceLT, Nat.reduceEqDiff, Nat.reduceAdd, Nat.reduceLeDiff, Nat.reduceMul, Nat.reduceSub, reduceCtorEq, Int.reduceLT, Int.reduceLE, Int.reduceNeg, Int.reduceAdd, Int.reduceEq, Int.reduceToNat, f1])
      all_goals (refine leaf_b ?_; rw [hd]; rfl)
theorem okB_cond (bs : List Bd) (js : List Jt) (i k : Nat) : (((((decide ((bs.getD k Bd.o).id ≤ (bs.getD i Bd.o).id) || !frst bs i) || !frst bs k) || (!decide ((bs.getD i Bd.o).kd = 3) && !decide ((bs.getD k Bd.o).kd = 3))) || conn js (bs.getD i Bd.o).id (bs.getD k Bd.o).id)) = !okB bs js i k := by
  unfold okB
  generalize decide ((bs.getD k Bd.o).id ≤ (bs.getD i Bd.o).id) = z1
  generalize frst bs i = z2
  generalize frst bs k = z3
  generalize decide ((bs.getD i Bd.o).kd = 3) = z4
  generalize decide ((bs.getD k Bd.o).kd = 3) = z5
  generalize conn js (bs.getD i Bd.o).id (bs.getD k Bd.o).id = z6
  cases z1 <;> cases z2 <;> cases z3 <;> cases z4 <;> cases z5 <;> cases z6 <;> rfl
theorem kQ_in {a b : Bd} {p q : Nat} (h : okQ a b p q = true) : kQ a b p (q + 1) = kQ a b p q ++ [keyQ a b p q] := if_pos h
theorem kQ_out {a b : Bd} {p q : Nat} (h : okQ a b p q = false) : kQ a b p (q + 1) = kQ a b p q := if_neg (by rw [h]; decide)
theorem kQ_len (a b : Bd) (p : Nat) : ∀ q, (kQ a b p q).length ≤ q
  | 0 => Nat.le_refl _
  | q + 1 => by
    have := kQ_len a b p q
    cases h : okQ a b p q with
    | true => rw [kQ_in h, List.length_append, List.length_singleton]; omega
    | false => rw [kQ_out h]; omega
theorem kP_len (a b : Bd) (m : Nat) (hb : b.fs.length ≤ m) : ∀ p, (kP a b p).length ≤ p * m
  | 0 => by simp [kP]
  | p + 1 => by
    have h1 := kP_len a b m hb p
    have h2 := kQ_len a b p b.fs.length
    show (kP a b p ++ kQ a b p b.fs.length).length ≤ _
    rw [List.length_append, Nat.succ_mul]; omega
theorem kB_in {bs : List Bd} {js : List Jt} {i k : Nat} (h : okB bs js i k = true) : kB bs js i (k + 1) = kB bs js i k ++ kP (bs.getD i Bd.o) (bs.getD k Bd.o) (bs.getD i Bd.o).fs.length := if_pos h
theorem kB_out {bs : List Bd} {js : List Jt} {i k : Nat} (h : okB bs js i k = false) : kB bs js i (k + 1) = kB bs js i k := if_neg (by rw [h]; decide)
theorem kB_len {bs : List Bd} (hw : FW bs) (js : List Jt) {i : Nat} (hi : i < bs.length) : ∀ k, k ≤ bs.length → (kB bs js i k).length ≤ k * 64
  | 0, _ => by simp [kB]
  | k + 1, hk => by
    have h1 := kB_len hw js hi k (by omega)
    have h3 := (hw.f _ (getD_mem (d := Bd.o) hi)).1
    have h4 := (hw.f _ (getD_mem (l := bs) (j := k) (d := Bd.o) (by omega))).1
    rw [Nat.succ_mul]
    cases h : okB bs js i k with
    | true =>
      have h2 := kP_len (bs.getD i Bd.o) (bs.getD k Bd.o) 8 h4 (bs.getD i Bd.o).fs.length
      rw [kB_in h, List.length_append]; omega
    | false => rw [kB_out h]; omega
theorem kA_len {bs : List Bd} (hw : FW bs) (js : List Jt) : ∀ i, i ≤ bs.length → (kA bs js i).length ≤ i * 1280
  | 0, _ => by simp [kA]
  | i + 1, hi => by
    have h1 := kA_len hw js i (by omega)
    have h2 := kB_len hw js (i := i) (by omega) bs.length (Nat.le_refl _)
    have h3 := hw.b
    show (kA bs js i ++ kB bs js i bs.length).length ≤ _
    rw [List.length_append, Nat.succ_mul]; omega
theorem kA_next (bs : List Bd) (js : List Jt) (i : Nat) : kA bs js (i + 1) = kA bs js i ++ kB bs js i bs.length := rfl
theorem kP_next (a b : Bd) (p : Nat) : kP a b (p + 1) = kP a b p ++ kQ a b p b.fs.length := rfl
set_option maxRecDepth 20000 in
set_option maxHeartbeats 4000000 in
theorem c_rfp (bs : List Bd) (js : List Jt) (hw : FW bs) (hj : js.length ≤ 1000000) : PCall Tryz.prog 20 [.sl (bs.map Bd.v), .sl (js.map Jt.v)] (.sl ((fpR bs js).map K4.v)) := by
  refine pcall_of_tr hm Tryz.func20 rfl (by kernel_rfl) Tryz.ntmps20 Tryz.results20 rfl (lt_cons (lt_bds _ _) (lt_cons (lt_jts _ _) lt_nil)) (lt_k4s _ _) ?_
  have m0 : maxLen = 9223372036854775807 := rfl
  have hb := hw.b
  refine tr_ac hm ?_
  repeat' (first | simp only [go_sem, ↓reduceIte, Nat.reduceLT, Nat.reduceEqDiff, Nat.reduceAdd, Nat.reduceLeDiff, Nat.reduceMul, Nat.reduceSub, reduceCtorEq, Int.reduceLT, Int.reduceLE, Int.reduceNeg, Int.reduceAdd, Int.reduceEq, Int.reduceToNat, nc0])
  refine tr_frz0 1 rfl ?_
  simp only [frzT, frz, dropH, true_and, and_true, and_self, if_true, ↓reduceIte, Nat.reduceEqDiff, false_and, and_false, if_false]
  refine tr_lp hm [0, 1] [] (fun x' : Fs bs.length => [(5, .sl ((insL (kA bs js x'.i)).map K4.v)), (6, .i x'.i)]) (fun x' : Fs bs.length => []) (fun x' => bs.length - x'.i) (Fs.start _) ?_ ?_ ?_
  · repeat' (first | exact tw_nil | refine tw_cons rfl ?_ ?_ | exact lt_i _ _ | exact lt_bds _ _ | exact lt_jts _ _ | exact lt_k4s _ _)
    all_goals (try rfl)
  · repeat' (first | exact hw_nil)
    all_goals (try rfl)
  · rintro ⟨i, hi⟩
    by_cases hli : i < bs.length
    · have H1 := ilt hli
      have H2 := isucc hli (show bs.length ≤ maxLen by omega)
      have H3 := bd_getD hli
      have hAl := kA_len hw js i hi
      have hNI := kA_next bs js i
      have hA1 : (kA bs js i).length ≤ 100000 := by omega
      generalize kA bs js i = A1 at *
      repeat' (first | simp only [go_sem, ↓reduceIte, Nat.reduceLT, Nat.reduceEqDiff, Nat.reduceAdd, Nat.reduceLeDiff, Nat.reduceMul, Nat.reduceSub, reduceCtorEq, Int.reduceLT, Int.reduceLE, Int.reduceNeg, Int.reduceAdd, Int.reduceEq, Int.reduceToNat, H1, H2, H3, nc0])
      all_goals (try omega)
      refine tr_lp hm [0, 1, 6] [] (fun x' : Fs bs.length => [(5, .sl ((insL (A1 ++ kB bs js i x'.i)).map K4.v)), (7, .i x'.i)]) (fun x' : Fs bs.length => []) (fun x' => bs.length - x'.i) (Fs.start _) ?_ ?_ ?_
      · repeat' (first | exact tw_nil | refine tw_cons rfl ?_ ?_ | refine tw_cons ?_ ?_ ?_ | exact lt_i _ _ | exact lt_bds _ _ | exact lt_jts _ _ | exact lt_k4s _ _)
        all_goals (try simp only [show (Fs.start bs.length).i = 0 from rfl, show kB bs js i 0 = [] from rfl, List.append_nil])
        all_goals (try rfl)
      · repeat' (first | exact hw_nil)
        all_goals (try rfl)
      · rintro ⟨k, hk⟩
        by_cases hlk : k < bs.length
        · have HLK := hlk
          have G1 := ilt hlk
          have G2 := isucc hlk (show bs.length ≤ maxLen by omega)
          have G3 := bd_getD hlk
          have hBl := kB_len hw js hli k hk
          have hcond := okB_cond bs js i k
          have hI := fun h => kB_in (bs := bs) (js := js) (i := i) (k := k) h
          have hO := fun h => kB_out (bs := bs) (js := js) (i := i) (k := k) h
          obtain ⟨haf, hav⟩ := hw.f _ (getD_mem (d := Bd.o) hli)
          obtain ⟨hbf, hbv⟩ := hw.f _ (getD_mem (d := Bd.o) hlk)
          have j6 : HasC Tryz.prog 63 [.sl (bs.map Bd.v), .i (i : Int)] (.b (frst bs i)) := ⟨c_first bs i hli (by omega)⟩
          have j7 : HasC Tryz.prog 63 [.sl (bs.map Bd.v), .i (k : Int)] (.b (frst bs k)) := ⟨c_first bs k hlk (by omega)⟩
          have j8 : HasC Tryz.prog 24 [.sl (js.map Jt.v), .i (bs.getD i Bd.o).id, .i (bs.getD k Bd.o).id] (.b (conn js (bs.getD i Bd.o).id (bs.getD k Bd.o).id)) := ⟨c_rconn js hj _ _⟩
          generalize frst bs i = z2 at *
          generalize frst bs k = z3 at *
          generalize bs.getD i Bd.o = a at *
          generalize bs.getD k Bd.o = b at *
          have hAB : (A1 ++ kB bs js i k).length ≤ 1000000 - 2000 := by rw [List.length_append]; omega
          have hNO := fun h => congrArg (fun q => A1 ++ q) (hO h)
          have hNI := fun h => congrArg (fun q => A1 ++ q) (hI h)
          simp only [← List.append_assoc] at hNI
          generalize A1 ++ kB bs js i k = A0 at *
          repeat' (first | simp only [go_sem, ↓reduceIte, Nat.reduceLT, Nat.reduceEqDiff, Nat.reduceAdd, Nat.reduceLeDiff, Nat.reduceMul, Nat.reduceSub, reduceCtorEq, Int.reduceLT, Int.reduceLE, Int.reduceNeg, Int.reduceAdd, Int.reduceEq, Int.reduceToNat, G1, G2, G3, H1, H2, H3, nc0] | refine gcst_go ?_ | (refine regOk_go ?_; kernel_rfl) | refine acond_split (fun _ => ?_) (fun _ => ?_) | refine And.intro ?_ ?_ | (intro (_ : _ = _)))
          all_goals (try omega)
          all_goals (try (rename_i h1 h2; rw [h1, h2]; rfl))
          all_goals (try (rename_i h1; rw [h1]; rfl))
          · rename_i hc
            have hNK := hNO (by have h' := hcond.symm.trans hc; simpa using h')
            refine ⟨Fs.next HLK, Nat.sub_lt_sub_left HLK (Nat.lt_succ_self _), wk_go (by decide) ?_ ?_⟩
            all_goals (try simp only [show (Fs.next HLK).i = k + 1 from rfl, hNK])
            · repeat' (first | exact tw_nil | refine tw_cons rfl ?_ ?_ | exact lt_i _ _ | exact lt_bds _ _ | exact lt_jts _ _ | exact lt_k4s _ _)
              all_goals (try rfl)
            · repeat' (first | exact hw_nil)
              all_goals (try rfl)
          · rename_i hc
            have hNK := hNI (by have h' := hcond.symm.trans hc; simpa using h')
            refine tr_lp hm [0, 1, 6, 7, 8, 9] [3, 5] (fun x' : Fs a.fs.length => [(5, .sl ((insL (A0 ++ kP a b x'.i)).map K4.v)), (10, .i x'.i)]) (fun x' : Fs a.fs.length => []) (fun x' => a.fs.length - x'.i) (Fs.start _) ?_ ?_ ?_
            · repeat' (first | exact tw_nil | refine tw_cons rfl ?_ ?_ | refine tw_cons ?_ ?_ ?_ | exact lt_i _ _ | exact Lt.pt _ _ (by decide) | exact lt_bds _ _ | exact lt_jts _ _ | exact lt_k4s _ _)
              all_goals (try simp only [show (Fs.start a.fs.length).i = 0 from rfl, show kP a b 0 = [] from rfl, List.append_nil])
              all_goals (try rfl)
            · repeat' (first | exact hw_nil | refine hw_cons (by decide) rfl bwk_rfl ?_ ?_ | exact lt_i _ _ | exact lt_b _ _ | exact lt_fxs _ _ | refine lt_agg ?_ | exact lt_nil | refine lt_cons ?_ ?_)
              all_goals (try rfl)
            · rintro ⟨p, hp⟩
              by_cases hlp : p < a.fs.length
              · have E1 := ilt hlp
                have E2 := isucc hlp (show a.fs.length ≤ maxLen by omega)
                have E3 := fx_getD hlp
                have hvp := hav _ (getD_mem (d := Fx.o) hlp)
                have hPl := kP_len a b 8 hbf p
                have hNP : A0 ++ kP a b (p + 1) = (A0 ++ kP a b p) ++ kQ a b p b.fs.length := by rw [kP_next, List.append_assoc]
                have hAA : (A0 ++ kP a b p).length ≤ 1000000 - 1000 := by rw [List.length_append]; omega
                generalize A0 ++ kP a b p = A at *
                repeat' (first | simp only [go_sem, ↓reduceIte, Nat.reduceLT, Nat.reduceEqDiff, Nat.reduceAdd, Nat.reduceLeDiff, Nat.reduceMul, Nat.reduceSub, reduceCtorEq, Int.reduceLT, Int.reduceLE, Int.reduceNeg, Int.reduceAdd, Int.reduceEq, Int.reduceToNat, E1, E2, E3, nc0])
                all_goals (try omega)
                refine tr_lp hm [0, 1, 6, 7, 8, 9, 10] [3, 5] (fun x' : Fs b.fs.length => [(5, .sl ((insL (A ++ kQ a b p x'.i)).map K4.v)), (11, .i x'.i)]) (fun x' : Fs b.fs.length => []) (fun x' => b.fs.length - x'.i) (Fs.start _) ?_ ?_ ?_
                · repeat' (first | exact tw_nil | refine tw_cons rfl ?_ ?_ | refine tw_cons ?_ ?_ ?_ | exact lt_i _ _ | exact Lt.pt _ _ (by decide) | exact lt_bds _ _ | exact lt_jts _ _ | exact lt_k4s _ _)
                  all_goals (try simp only [show (Fs.start b.fs.length).i = 0 from rfl, show kQ a b p 0 = [] from rfl, List.append_nil])
                  all_goals (try rfl)
                · repeat' (first | exact hw_nil | refine hw_cons (by decide) rfl bwk_rfl ?_ ?_ | exact lt_i _ _ | exact lt_b _ _ | exact lt_fxs _ _ | refine lt_agg ?_ | exact lt_nil | refine lt_cons ?_ ?_)
                  all_goals (try rfl)
                · rintro ⟨q, hq⟩
                  by_cases hlq : q < b.fs.length
                  · have e1 := ilt hlq
                    have e2 := isucc hlq (show b.fs.length ≤ maxLen by omega)
                    have e3 := fx_getD hlq
                    have hvq := hbv _ (getD_mem (d := Fx.o) hlq)
                    have hQl := kQ_len a b p q
                    have hAl := insL_len (A ++ kQ a b p q)
                    rw [List.length_append] at hAl
                    have hI := fun h => kQ_in (a := a) (b := b) (p := p) (q := q) h
                    have hO := fun h => kQ_out (a := a) (b := b) (p := p) (q := q) h
                    have hok : okQ a b p q = (shd (a.fs.getD p Fx.o) (b.fs.getD q Fx.o) && ovQ (pxQ a (a.fs.getD p Fx.o)) (pxQ b (b.fs.getD q Fx.o))) := rfl
                    have j1 : HasC Tryz.prog 23 [.agg [.i (a.fs.getD p Fx.o).k, .i (a.fs.getD p Fx.o).r, .sl ((a.fs.getD p Fx.o).vs.map ev), .i (a.fs.getD p Fx.o).den, .i (a.fs.getD p Fx.o).fri, .i (a.fs.getD p Fx.o).res, .b (a.fs.getD p Fx.o).sen, .i (a.fs.getD p Fx.o).cat, .i (a.fs.getD p Fx.o).msk, .i (a.fs.getD p Fx.o).grp], .agg [.i (b.fs.getD q Fx.o).k, .i (b.fs.getD q Fx.o).r, .sl ((b.fs.getD q Fx.o).vs.map ev), .i (b.fs.getD q Fx.o).den, .i (b.fs.getD q Fx.o).fri, .i (b.fs.getD q Fx.o).res, .b (b.fs.getD q Fx.o).sen, .i (b.fs.getD q Fx.o).cat, .i (b.fs.getD q Fx.o).msk, .i (b.fs.getD q Fx.o).grp]] (.b (shd (a.fs.getD p Fx.o) (b.fs.getD q Fx.o))) := ⟨c_rshd _ _⟩
                    have j2 : HasC Tryz.prog 65 [.agg [.i a.id, .i a.kd, .i a.px, .i a.py, .i a.an, .i a.vx, .i a.vy, .i a.av, .i a.gx, .i a.gy, .i a.tq, .i a.ld, .i a.ad, .i a.gs, .b a.bul, .b a.fr, .b a.ns, .b a.asl, .i a.idl, .sl (a.fs.map Fx.v)], .i (p : Int)] (.agg [.i (pxQ a (a.fs.getD p Fx.o)).a, .i (pxQ a (a.fs.getD p Fx.o)).b, .i (pxQ a (a.fs.getD p Fx.o)).c, .i (pxQ a (a.fs.getD p Fx.o)).d]) := ⟨c_rbox a p hlp (by omega)⟩
                    have j3 : HasC Tryz.prog 65 [.agg [.i b.id, .i b.kd, .i b.px, .i b.py, .i b.an, .i b.vx, .i b.vy, .i b.av, .i b.gx, .i b.gy, .i b.tq, .i b.ld, .i b.ad, .i b.gs, .b b.bul, .b b.fr, .b b.ns, .b b.asl, .i b.idl, .sl (b.fs.map Fx.v)], .i (q : Int)] (.agg [.i (pxQ b (b.fs.getD q Fx.o)).a, .i (pxQ b (b.fs.getD q Fx.o)).b, .i (pxQ b (b.fs.getD q Fx.o)).c, .i (pxQ b (b.fs.getD q Fx.o)).d]) := ⟨c_rbox b q hlq (by omega)⟩
                    have j4 : HasC Tryz.prog 64 [.agg [.i (pxQ a (a.fs.getD p Fx.o)).a, .i (pxQ a (a.fs.getD p Fx.o)).b, .i (pxQ a (a.fs.getD p Fx.o)).c, .i (pxQ a (a.fs.getD p Fx.o)).d], .agg [.i (pxQ b (b.fs.getD q Fx.o)).a, .i (pxQ b (b.fs.getD q Fx.o)).b, .i (pxQ b (b.fs.getD q Fx.o)).c, .i (pxQ b (b.fs.getD q Fx.o)).d]] (.b (ovQ (pxQ a (a.fs.getD p Fx.o)) (pxQ b (b.fs.getD q Fx.o)))) := ⟨c_rboverlaps _ _ _ _ _ _ _ _⟩
                    have j5 : HasC Tryz.prog 66 [.sl ((insL (A ++ kQ a b p q)).map K4.v), .agg [.i a.id, .i (p : Int), .i b.id, .i (q : Int)]] (.sl ((insK (keyQ a b p q) (insL (A ++ kQ a b p q))).map K4.v)) := ⟨c_rinsK (insL (A ++ kQ a b p q)) (by omega) (keyQ a b p q)⟩
                    rw [← insL_snoc, List.append_assoc] at j5
                    generalize pxQ a (a.fs.getD p Fx.o) = x at *
                    generalize pxQ b (b.fs.getD q Fx.o) = y at *
                    generalize (a.fs.getD p Fx.o) = f1 at *
                    generalize (b.fs.getD q Fx.o) = f2 at *
                    cases h1 : shd f1 f2 with
                    | true =>
                      rw [h1] at j1
                      cases h2 : ovQ x y with
                      | true =>
                        rw [h2] at j4
                        have hF := hI (by rw [hok, h1, h2]; rfl)
                        repeat' (first | simp only [go_sem, ↓reduceIte, Nat.reduceLT, Nat.reduceEqDiff, Nat.reduceAdd, Nat.reduceLeDiff, Nat.reduceMul, Nat.reduceSub, reduceCtorEq, Int.reduceLT, Int.reduceLE, Int.reduceNeg, Int.reduceAdd, Int.reduceEq, Int.reduceToNat, e1, e2, e3, E1, E2, E3, nc0] | refine cst_go ?_ | refine gcst_go ?_ | (refine regOk_go ?_; kernel_rfl) | refine And.intro ?_ ?_)
                        all_goals (try omega)
                        refine ⟨Fs.next hlq, Nat.sub_lt_sub_left hlq (Nat.lt_succ_self _), wk_go (by decide) ?_ ?_⟩
                        all_goals (try simp only [show (Fs.next hlq).i = q + 1 from rfl, hF])
                        · repeat' (first | exact tw_nil | refine tw_cons rfl ?_ ?_ | exact lt_i _ _ | exact Lt.pt _ _ (by decide) | exact lt_bds _ _ | exact lt_jts _ _ | exact lt_k4s _ _)
                          all_goals (try rfl)
                        · repeat' (first | exact hw_nil | refine hw_cons (by decide) rfl bwk_rfl ?_ ?_ | exact lt_i _ _ | exact lt_b _ _ | exact lt_fxs _ _ | refine lt_agg ?_ | exact lt_nil | refine lt_cons ?_ ?_)
                          all_goals (try rfl)
                      | false =>
                        rw [h2] at j4
                        have hF := hO (by rw [hok, h1, h2]; rfl)
                        repeat' (first | simp only [go_sem, ↓reduceIte, Nat.reduceLT, Nat.reduceEqDiff, Nat.reduceAdd, Nat.reduceLeDiff, Nat.reduceMul, Nat.reduceSub, reduceCtorEq, Int.reduceLT, Int.reduceLE, Int.reduceNeg, Int.reduceAdd, Int.reduceEq, Int.reduceToNat, e1, e2, e3, E1, E2, E3, nc0] | refine cst_go ?_ | refine gcst_go ?_ | (refine regOk_go ?_; kernel_rfl) | refine And.intro ?_ ?_)
                        all_goals (try omega)
                        refine ⟨Fs.next hlq, Nat.sub_lt_sub_left hlq (Nat.lt_succ_self _), wk_go (by decide) ?_ ?_⟩
                        all_goals (try simp only [show (Fs.next hlq).i = q + 1 from rfl, hF])
                        · repeat' (first | exact tw_nil | refine tw_cons rfl ?_ ?_ | exact lt_i _ _ | exact Lt.pt _ _ (by decide) | exact lt_bds _ _ | exact lt_jts _ _ | exact lt_k4s _ _)
                          all_goals (try rfl)
                        · repeat' (first | exact hw_nil | refine hw_cons (by decide) rfl bwk_rfl ?_ ?_ | exact lt_i _ _ | exact lt_b _ _ | exact lt_fxs _ _ | refine lt_agg ?_ | exact lt_nil | refine lt_cons ?_ ?_)
                          all_goals (try rfl)
                    | false =>
                      rw [h1] at j1
                      have hF := hO (by rw [hok, h1]; rfl)
                      repeat' (first | simp only [go_sem, ↓reduceIte, Nat.reduceLT, Nat.reduceEqDiff, Nat.reduceAdd, Nat.reduceLeDiff, Nat.reduceMul, Nat.reduceSub, reduceCtorEq, Int.reduceLT, Int.reduceLE, Int.reduceNeg, Int.reduceAdd, Int.reduceEq, Int.reduceToNat, e1, e2, e3, E1, E2, E3, nc0] | refine cst_go ?_ | refine gcst_go ?_ | (refine regOk_go ?_; kernel_rfl) | refine And.intro ?_ ?_)
                      all_goals (try omega)
                      refine ⟨Fs.next hlq, Nat.sub_lt_sub_left hlq (Nat.lt_succ_self _), wk_go (by decide) ?_ ?_⟩
                      all_goals (try simp only [show (Fs.next hlq).i = q + 1 from rfl, hF])
                      · repeat' (first | exact tw_nil | refine tw_cons rfl ?_ ?_ | exact lt_i _ _ | exact Lt.pt _ _ (by decide) | exact lt_bds _ _ | exact lt_jts _ _ | exact lt_k4s _ _)
                        all_goals (try rfl)
                      · repeat' (first | exact hw_nil | refine hw_cons (by decide) rfl bwk_rfl ?_ ?_ | exact lt_i _ _ | exact lt_b _ _ | exact lt_fxs _ _ | refine lt_agg ?_ | exact lt_nil | refine lt_cons ?_ ?_)
                        all_goals (try rfl)
                  · have f1 := inlt hlq
                    have hqq : q = b.fs.length := by omega
                    subst hqq
                    repeat' (first | simp only [go_sem, ↓reduceIte, Nat.reduceLT, Nat.reduceEqDiff, Nat.reduceAdd, Nat.reduceLeDiff, Nat.reduceMul, Nat.reduceSub, reduceCtorEq, Int.reduceLT, Int.reduceLE, Int.reduceNeg, Int.reduceAdd, Int.reduceEq, Int.reduceToNat, f1, E1, E2, E3, nc0])
                    all_goals (try omega)
                    refine ⟨Fs.next hlp, Nat.sub_lt_sub_left hlp (Nat.lt_succ_self _), wk_go (by decide) ?_ ?_⟩
                    all_goals (try simp only [show (Fs.next hlp).i = p + 1 from rfl, hNP])
                    · repeat' (first | exact tw_nil | refine tw_cons rfl ?_ ?_ | exact lt_i _ _ | exact Lt.pt _ _ (by decide) | exact lt_bds _ _ | exact lt_jts _ _ | exact lt_k4s _ _)
                      all_goals (try rfl)
                    · repeat' (first | exact hw_nil | refine hw_cons (by decide) rfl bwk_rfl ?_ ?_ | exact lt_i _ _ | exact lt_b _ _ | exact lt_fxs _ _ | refine lt_agg ?_ | exact lt_nil | refine lt_cons ?_ ?_)
                      all_goals (try rfl)
              · have f1 := inlt hlp
                have hpp : p = a.fs.length := by omega
                subst hpp
                repeat' (first | simp only [go_sem, ↓reduceIte, Nat.reduceLT, Nat.reduceEqDiff, Nat.reduceAdd, Nat.reduceLeDiff, Nat.reduceMul, Nat.reduceSub, reduceCtorEq, Int.reduceLT, Int.reduceLE, Int.reduceNeg, Int.reduceAdd, Int.reduceEq, Int.reduceToNat, f1, G1, G2, nc0])
                all_goals (try omega)
                refine ⟨Fs.next HLK, Nat.sub_lt_sub_left HLK (Nat.lt_succ_self _), wk_go (by decide) ?_ ?_⟩
                all_goals (try simp only [show (Fs.next HLK).i = k + 1 from rfl, hNK])
                · repeat' (first | exact tw_nil | refine tw_cons rfl ?_ ?_ | exact lt_i _ _ | exact lt_bds _ _ | exact lt_jts _ _ | exact lt_k4s _ _)
                  all_goals (try rfl)
                · repeat' (first | exact hw_nil)
                  all_goals (try rfl)
        · have f1 := inlt hlk
          have hkk : k = bs.length := by omega
          subst hkk
          repeat' (first | simp only [go_sem, ↓reduceIte, Nat.reduceLT, Nat.reduceEqDiff, Nat.reduceAdd, Nat.reduceLeDiff, Nat.reduceMul, Nat.reduceSub, reduceCtorEq, Int.reduceLT, Int.reduceLE, Int.reduceNeg, Int.reduceAdd, Int.reduceEq, Int.reduceToNat, f1, H1, H2, nc0])
          all_goals (try omega)
          refine ⟨Fs.next hli, Nat.sub_lt_sub_left hli (Nat.lt_succ_self _), wk_go (by decide) ?_ ?_⟩
          all_goals (try simp only [show (Fs.next hli).i = i + 1 from rfl, hNI])
          · repeat' (first | exact tw_nil | refine tw_cons rfl ?_ ?_ | exact lt_i _ _ | exact lt_bds _ _ | exact lt_jts _ _ | exact lt_k4s _ _)
            all_goals (try rfl)
          · repeat' (first | exact hw_nil)
            all_goals (try rfl)
    · have f1 := inlt hli
      have hii : i = bs.length := by omega
      subst hii
      have hR : insL (kA bs js bs.length) = fpR bs js := rfl
      repeat' (first | simp only [go_sem, ↓reduceIte, Nat.reduceLT, Nat.reduceEqDiff, Nat.reduceAdd, Nat.reduceLeDiff, Nat.reduceMul, Nat.reduceSub, reduceCtorEq, Int.reduceLT, Int.reduceLE, Int.reduceNeg, Int.reduceAdd, Int.reduceEq, Int.reduceToNat, f1, hR, nc0])
      all_goals (try rfl)
end Go.Proofs.YtplmagdbnbijlaaGreat
