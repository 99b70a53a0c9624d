/-
  Package bvh: Pairs of a tree that is only read. Conditions: none.
-/
import Derived.Test.YtlkngccfikeaiaaC134
import Derived.Test.YtlkngccfikeaiaaC28
import Derived.Outline
set_option linter.all false
namespace Go.Proofs.Ytlkngccfikeaiaa
open Go.RowKit Go.AL Go.Carom
theorem mip_ck (em : Bool) (w : World) (a0 : Int) : (Instr.checkKey em 10000 3 (formV false [.int .i64 a0])).run Try.prog w = .ok () w := by kernel_rfl
theorem mip_key : KeyT Try.prog 3 false [some .i64] where
  eq := by kernel_rfl
  agg := by kernel_rfl
  one := by decide
  ck := fun em w xs h => by
    match xs, (show xs.length = 1 by simpa using congrArg List.length h), h with
    | [a0], _, h =>
      simp only [List.map_cons, List.map_nil, List.cons.injEq, and_true] at h
      obtain ⟨m0, rfl⟩ := kind_int (h)
      exact mip_ck em w m0
instance mip_map : HasM Try.prog 46 false [some .i64] (.pointer none) := hasM_of (kt := 3) (et := 47) (by kernel_rfl) mip_key (by kernel_rfl)
theorem prA_next (t : BT) (a : Int) {k : Nat} (h : k < (t.qry (byId t.lv a)).length) : t.prA a (k + 1) = t.prA a k ++ (if a < ati (t.qry (byId t.lv a)) k then [⟨a, ati (t.qry (byId t.lv a)) k⟩] else []) := by
  unfold BT.prA
  rw [take_succ_getD _ 0 h, List.filter_append, List.map_append]
  congr 1
  show List.map _ (List.filter _ [ati (t.qry (byId t.lv a)) k]) = _
  by_cases hb : a < ati (t.qry (byId t.lv a)) k
  · rw [if_pos hb]; simp [hb]
  · rw [if_neg hb]; simp [hb]
theorem prA_len (t : BT) (a : Int) (k : Nat) : (t.prA a k).length ≤ t.lv.length := by
  unfold BT.prA
  rw [List.length_map]
  have h1 := List.length_filter_le (fun b => decide (a < b)) ((t.qry (byId t.lv a)).take k)
  have h2 := col_len (byId t.lv a) t
  have h3 := qry_len (byId t.lv a) t
  rw [List.length_take] at h1
  omega
theorem prs_len (t : BT) : ∀ i, (t.prs i).length ≤ i * t.lv.length
  | 0 => by simp [BT.prs]
  | i + 1 => by
    have h1 := prs_len t i
    have h2 := prA_len t (ati t.ids i) (t.qry (byId t.lv (ati t.ids i))).length
    show (t.prs i ++ _).length ≤ _
    rw [List.length_append, Nat.succ_mul]; omega
set_option maxRecDepth 20000 in
set_option maxHeartbeats 8000000 in
theorem c_tprs (t : BT) (hl : t.lv.length ≤ 1000) (hd : DistE t.lv) {keys : List (List Value)} {vs : List AV} (hks : ∀ k ∈ keys, k.map kindOf = [some .i64].map some) (hlen : vs.length = keys.length)
    (hmq : ∀ e ∈ t.lv, mqV [.int .i64 e.id] keys vs (.pointer none) = .cp (BT.lf e).c) {bt bm nx : Nat} (hb : bt < nx) (hbm : bm < nx) (hbb : bt ≠ bm) (hvs : ∀ v ∈ vs, Lt nx v) :
    CallS Try.prog (hk [(bt, .var (.agg [.cp t.c, .mp bm])), (bm, mqB false keys vs)]) nx 11 [.pt bt 0] ⟨.ow (nx + 1) t.pairs.length, [(bt, .var (.agg [.cp t.c, .mp bm])), (bm, mqB false keys vs), (nx + 1, .row 45 2 (t.pairs).length ((t.pairs).map P2.v))], 2, [bt, bm]⟩ := by
  have hvs2 : ∀ m, nx ≤ m → ∀ v ∈ vs, Lt m v := fun m hm v hv => (hvs v hv).mono hm
  refine calls_go (.ow (nx + 1) t.pairs.length) [(bt, .var (.agg [.cp t.c, .mp bm])), (bm, mqB false keys vs), (nx + 1, .row 45 2 (t.pairs).length ((t.pairs).map P2.v))] 2 hm Try.func11 rfl (by kernel_rfl) Try.ntmps11 Try.results11 rfl ?_ ?_ ?_ ?_ ?_ ?_ ?_
  · exact Lts.cons (Lt.pt _ _ hb) Lts.nil
  · exact HBs.cons hb (BOk.var (lt_agg (lt_cons (lt_bt _ _) (lt_cons (Lt.mp _ hbm) lt_nil)))) (HBs.cons hbm (BOk.mq hvs) HBs.nil)
  · exact Lt.ow _ _ (by omega)
  · exact HBs.cons (by omega) (BOk.var (lt_agg (lt_cons (lt_bt _ _) (lt_cons (Lt.mp _ (by omega)) lt_nil)))) (HBs.cons (by omega) (BOk.mq (hvs2 _ (by omega))) (HBs.cons (by omega) (BOk.row (lt_map fun _ => lt_p2 _ _)) HBs.nil))
  · simp [keysOk]; omega
  · intro p hp
    simp only [List.mem_cons, List.not_mem_nil, or_false] at hp
    rcases hp with rfl | rfl
    · exact List.mem_cons_self
    · exact List.mem_cons_of_mem _ List.mem_cons_self
  have m0 : maxLen = 9223372036854775807 := rfl
  have hidl : (t.lv.map En.id).length = t.lv.length := by simp
  have hil : t.ids.length = t.lv.length := by unfold BT.ids; rw [ascH_len, hidl]
  have z0 : (bt = bm) = False := eq_false (by omega)
  have z1 : (bt = nx) = False := eq_false (by omega)
  have z2 : (bt = nx + 1) = False := eq_false (by omega)
  have z3 : (bt = nx + 2) = False := eq_false (by omega)
  have z4 : (bt = nx + 3) = False := eq_false (by omega)
  have z5 : (bt = nx + 4) = False := eq_false (by omega)
  have z6 : (bt = nx + 5) = False := eq_false (by omega)
  have z7 : (bm = bt) = False := eq_false (by omega)
  have z8 : (bm = nx) = False := eq_false (by omega)
  have z9 : (bm = nx + 1) = False := eq_false (by omega)
  have z10 : (bm = nx + 2) = False := eq_false (by omega)
  have z11 : (bm = nx + 3) = False := eq_false (by omega)
  have z12 : (bm = nx + 4) = False := eq_false (by omega)
  have z13 : (bm = nx + 5) = False := eq_false (by omega)
  have z14 : (nx = bt) = False := eq_false (by omega)
  have z15 : (nx = bm) = False := eq_false (by omega)
  have z16 : (nx = nx + 1) = False := eq_false (by omega)
  have z17 : (nx = nx + 2) = False := eq_false (by omega)
  have z18 : (nx = nx + 3) = False := eq_false (by omega)
  have z19 : (nx = nx + 4) = False := eq_false (by omega)
  have z20 : (nx = nx + 5) = False := eq_false (by omega)
  have z21 : (nx + 1 = bt) = False := eq_false (by omega)
  have z22 : (nx + 1 = bm) = False := eq_false (by omega)
  have z23 : (nx + 1 = nx) = False := eq_false (by omega)
  have z24 : (nx + 1 = nx + 2) = False := eq_false (by omega)
  have z25 : (nx + 1 = nx + 3) = False := eq_false (by omega)
  have z26 : (nx + 1 = nx + 4) = False := eq_false (by omega)
  have z27 : (nx + 1 = nx + 5) = False := eq_false (by omega)
  have z28 : (nx + 2 = bt) = False := eq_false (by omega)
  have z29 : (nx + 2 = bm) = False := eq_false (by omega)
  have z30 : (nx + 2 = nx) = False := eq_false (by omega)
  have z31 : (nx + 2 = nx + 1) = False := eq_false (by omega)
  have z32 : (nx + 2 = nx + 3) = False := eq_false (by omega)
  have z33 : (nx + 2 = nx + 4) = False := eq_false (by omega)
  have z34 : (nx + 2 = nx + 5) = False := eq_false (by omega)
  have z35 : (nx + 3 = bt) = False := eq_false (by omega)
  have z36 : (nx + 3 = bm) = False := eq_false (by omega)
  have z37 : (nx + 3 = nx) = False := eq_false (by omega)
  have z38 : (nx + 3 = nx + 1) = False := eq_false (by omega)
  have z39 : (nx + 3 = nx + 2) = False := eq_false (by omega)
  have z40 : (nx + 3 = nx + 4) = False := eq_false (by omega)
  have z41 : (nx + 3 = nx + 5) = False := eq_false (by omega)
  have z42 : (nx + 4 = bt) = False := eq_false (by omega)
  have z43 : (nx + 4 = bm) = False := eq_false (by omega)
  have z44 : (nx + 4 = nx) = False := eq_false (by omega)
  have z45 : (nx + 4 = nx + 1) = False := eq_false (by omega)
  have z46 : (nx + 4 = nx + 2) = False := eq_false (by omega)
  have z47 : (nx + 4 = nx + 3) = False := eq_false (by omega)
  have z48 : (nx + 4 = nx + 5) = False := eq_false (by omega)
  have z49 : (nx + 5 = bt) = False := eq_false (by omega)
  have z50 : (nx + 5 = bm) = False := eq_false (by omega)
  have z51 : (nx + 5 = nx) = False := eq_false (by omega)
  have z52 : (nx + 5 = nx + 1) = False := eq_false (by omega)
  have z53 : (nx + 5 = nx + 2) = False := eq_false (by omega)
  have z54 : (nx + 5 = nx + 3) = False := eq_false (by omega)
  have z55 : (nx + 5 = nx + 4) = False := eq_false (by omega)
  have hasc : (ascH (t.lv.map En.id)).length = t.lv.length := hil
  refine tr_ac hm ?_
  repeat' (first | simp only [go_sem, ↓reduceIte, Nat.reduceLT, Nat.reduceAdd, Nat.reduceLeDiff, reduceCtorEq, z14, z15, z21, z22, z23, z28, z29, z30, z31, hasc, Nat.add_zero] | refine aext_ppn rfl (.pt _ _) rfl rfl (by decide) ?_ | refine cst_c0 (c_ids0 t _ (by omega)) ?_ | refine cst_c1 (c_asc (by omega) (t.lv.map En.id) (by rw [hidl]; omega)) (by simp only [hk_cons, z28, z29, z30, z31, if_true, if_false]) ?_)
  refine tr_lp hm [0, 15, 16] [] (fun x' : Fs t.lv.length => [(3, .ow (nx + 1) (t.prs x'.i).length), (17, .i x'.i)]) (fun x' : Fs t.lv.length => [(nx + 1, .row 45 2 (t.prs x'.i).length ((t.prs x'.i).map P2.v)), (bt, .var (.agg [.cp t.c, .mp bm])), (bm, mqB false keys vs), (nx + 2, .row 3 1 t.lv.length (t.ids.map AV.i))]) (fun x' => t.lv.length - x'.i) (Fs.start _) ?_ ?_ ?_
  · repeat' (first | exact tw_nil | refine tw_cons rfl ?_ ?_ | exact lt_i _ _)
    all_goals (try rfl)
    all_goals (try (exact Lt.ow _ _ (by omega)))
    all_goals (try (exact Lt.pt _ _ (by omega)))
  · exact ⟨⟨by omega, ⟨_, (by simp only [hk_cons, z21, z22, z23, z24, if_true, if_false] <;> rfl), (.inr ⟨rfl, _, _, rfl⟩)⟩, lt_map fun _ => lt_p2 _ _⟩, ⟨⟨by omega, ⟨_, (by simp only [hk_cons, z0, z1, z2, z3, if_true, if_false] <;> rfl), bwk_rfl⟩, lt_agg (lt_cons (lt_bt _ _) (lt_cons (Lt.mp _ (by omega)) lt_nil))⟩, ⟨⟨by omega, ⟨_, (by simp only [hk_cons, z7, z8, z9, z10, if_true, if_false] <;> rfl), bwk_rfl⟩, hvs2 _ (by omega)⟩, ⟨⟨by omega, ⟨_, (by simp only [hk_cons, z28, z29, z30, z31, if_true, if_false] <;> rfl), bwk_rfl⟩, lt_map fun _ => lt_i _ _⟩, trivial⟩⟩⟩⟩
  · rintro ⟨i, hi⟩
    by_cases hlt : i < t.lv.length
    · have e1 := ilt hlt
      have e2 := isucc hlt (show t.lv.length ≤ maxLen by omega)
      have hget := i_at t.ids (k := i) (by omega)
      obtain ⟨q, hqm, hqi⟩ : ∃ e ∈ t.lv, e.id = ati t.ids i := List.mem_map.1 (((asc_lt hd.ids).2 _).1 (ati_mem (show i < t.ids.length by omega)))
      have hbq : byId t.lv (ati t.ids i) = q := by rw [← hqi]; exact byId_eq hd hqm
      have hq1 := hmq q hqm
      rw [hqi, btc_lf] at hq1
      have hpn := fun k => prA_next t (ati t.ids i) (k := k)
      have hps : t.prs (i + 1) = t.prs i ++ t.prA (ati t.ids i) (t.qry q).length := by rw [← hbq]; rfl
      have hp1 := prs_len t i
      have hp2 := fun k => prA_len t (ati t.ids i) k
      have hsq : i * t.lv.length ≤ 1000 * 1000 := Nat.mul_le_mul (by omega) (by omega)
      rw [hbq] at hpn
      generalize ati t.ids i = a at *
      have hql := qry_len q t
      have hcl := col_len q t
      rw [hql] at hps
      have hz : t.prs i ++ t.prA a (Fs.start (t.col q).length).i = t.prs i := by show t.prs i ++ t.prA a 0 = t.prs i; simp [BT.prA]
      repeat' (first | simp only [go_sem, ↓reduceIte, Nat.reduceLT, Nat.reduceEqDiff, Nat.reduceAdd, Nat.reduceLeDiff, reduceCtorEq, e1, hget, hq1, z2, z28, z29, z31, z49, z50, z52, z53, hql, Nat.add_zero] | refine aext_lookup_q [.int .i64 a] keys vs rfl rfl rfl (by simp only [hk_cons, z7, z9, z10, if_true, if_false]) rfl rfl hks hlen ?_ | refine cst_c1 (c_qry q t (by omega) (bm := bm) (by omega) (by omega)) (by simp only [hk_cons, z0, z2, z3, if_true, if_false]) ?_ | refine And.intro ?_ ?_)
      all_goals (try omega)
      refine tr_lp hm [0, 5, 15, 16, 17, 31, 32] [] (fun x' : Fs (t.col q).length => [(3, .ow (nx + 1) (t.prs i ++ t.prA a x'.i).length), (33, .i x'.i)]) (fun x' : Fs (t.col q).length => [(nx + 1, .row 45 2 (t.prs i ++ t.prA a x'.i).length ((t.prs i ++ t.prA a x'.i).map P2.v)), (bt, .var (.agg [.cp t.c, .mp bm])), (bm, mqB false keys vs), (nx + 2, .row 3 1 t.lv.length (t.ids.map AV.i)), (nx + 5, .row 3 1 (t.col q).length ((t.qry q).map AV.i))]) (fun x' => (t.col q).length - x'.i) (Fs.start _) ?_ ?_ ?_
      · repeat' (first | exact tw_nil | refine tw_cons rfl ?_ ?_ | refine tw_cons ?_ ?_ ?_ | exact lt_i _ _)
        all_goals (try rfl)
        all_goals (try (rw [hz]; rfl))
        all_goals (try (exact Lt.ow _ _ (by omega)))
        all_goals (try (exact Lt.pt _ _ (by omega)))
      · exact ⟨⟨by omega, ⟨_, (by simp only [hk_cons, hz, z21, z22, z24, z27, if_true, if_false] <;> rfl), bwk_rfl⟩, lt_map fun _ => lt_p2 _ _⟩, ⟨⟨by omega, ⟨_, (by simp only [hk_cons, z0, z2, z3, z6, if_true, if_false] <;> rfl), bwk_rfl⟩, lt_agg (lt_cons (lt_bt _ _) (lt_cons (Lt.mp _ (by omega)) lt_nil))⟩, ⟨⟨by omega, ⟨_, (by simp only [hk_cons, z7, z9, z10, z13, if_true, if_false] <;> rfl), bwk_rfl⟩, hvs2 _ (by omega)⟩, ⟨⟨by omega, ⟨_, (by simp only [hk_cons, z28, z29, z31, z34, if_true, if_false] <;> rfl), bwk_rfl⟩, lt_map fun _ => lt_i _ _⟩, ⟨⟨by omega, ⟨_, (by simp only [hk_cons, z49, z50, z52, z53, if_true, if_false] <;> rfl), bwk_rfl⟩, lt_map fun _ => lt_i _ _⟩, trivial⟩⟩⟩⟩⟩
      · rintro ⟨k, hk⟩
        have hp3 := hp2 k
        by_cases hlk : k < (t.col q).length
        · have g1 := ilt hlk
          have g2 := isucc hlk (show (t.col q).length ≤ maxLen by omega)
          have g3 := i_at (t.qry q) (k := k) (by omega)
          have g4 := hpn k (by omega)
          generalize ati (t.qry q) k = c at *
          by_cases hac : a < c
          · rw [if_pos hac] at g4
            have g5 : (a < c) = True := eq_true hac
            have g6 : (t.prs i ++ t.prA a k).map P2.v ++ [AV.agg [.i a, .i c]] = (t.prs i ++ t.prA a (k + 1)).map P2.v := by rw [g4, ← List.append_assoc, List.map_append (l₂ := [(⟨a, c⟩ : P2)])]; rfl
            have g7 : (t.prs i ++ t.prA a k).length + 1 = (t.prs i ++ t.prA a (k + 1)).length := by rw [g4, ← List.append_assoc, List.length_append (bs := [(⟨a, c⟩ : P2)])]; rfl
            have g8 : (t.prs i ++ t.prA a k).length ≤ 1001000 := by rw [List.length_append]; omega
            repeat' (first | simp only [go_sem, ↓reduceIte, Nat.reduceLT, Nat.reduceEqDiff, Nat.reduceAdd, Nat.reduceLeDiff, Nat.reduceMul, reduceCtorEq, g1, g2, g3, g5, g6, g7, z49, z50, z52, z53, Nat.add_zero] | refine And.intro ?_ ?_)
            all_goals (try omega)
            refine ⟨Fs.next hlk, Nat.sub_lt_sub_left hlk (Nat.lt_succ_self _), wk_go (by omega) ?_ ⟨⟨by omega, ⟨_, (by simp only [hk_cons, z21, z22, z24, z27, if_true, if_false] <;> rfl), bwk_rfl⟩, lt_map fun _ => lt_p2 _ _⟩, ⟨⟨by omega, ⟨_, (by simp only [hk_cons, z0, z2, z3, z6, if_true, if_false] <;> rfl), bwk_rfl⟩, lt_agg (lt_cons (lt_bt _ _) (lt_cons (Lt.mp _ (by omega)) lt_nil))⟩, ⟨⟨by omega, ⟨_, (by simp only [hk_cons, z7, z9, z10, z13, if_true, if_false] <;> rfl), bwk_rfl⟩, hvs2 _ (by omega)⟩, ⟨⟨by omega, ⟨_, (by simp only [hk_cons, z28, z29, z31, z34, if_true, if_false] <;> rfl), bwk_rfl⟩, lt_map fun _ => lt_i _ _⟩, ⟨⟨by omega, ⟨_, (by simp only [hk_cons, z49, z50, z52, z53, if_true, if_false] <;> rfl), bwk_rfl⟩, lt_map fun _ => lt_i _ _⟩, trivial⟩⟩⟩⟩⟩⟩
            · repeat' (first | exact tw_nil | refine tw_cons rfl ?_ ?_ | exact lt_i _ _)
              all_goals (try rfl)
              all_goals (try (exact Lt.ow _ _ (by omega)))
              all_goals (try (exact Lt.pt _ _ (by omega)))
          · rw [if_neg hac, List.append_nil] at g4
            have g5 : (a < c) = False := eq_false hac
            repeat' (first | simp only [go_sem, ↓reduceIte, Nat.reduceLT, Nat.reduceEqDiff, Nat.reduceAdd, Nat.reduceLeDiff, reduceCtorEq, g1, g2, g3, g5, z49, z50, z52, z53, Nat.add_zero] | refine And.intro ?_ ?_)
            all_goals (try omega)
            refine ⟨Fs.next hlk, Nat.sub_lt_sub_left hlk (Nat.lt_succ_self _), wk_go (by omega) ?_ ⟨⟨by omega, ⟨_, (by simp only [hk_cons, show (Fs.next hlk).i = k + 1 from rfl, g4, z21, z22, z24, z27, if_true, if_false]), bwk_rfl⟩, lt_map fun _ => lt_p2 _ _⟩, ⟨⟨by omega, ⟨_, (by simp only [hk_cons, z0, z2, z3, z6, if_true, if_false] <;> rfl), bwk_rfl⟩, lt_agg (lt_cons (lt_bt _ _) (lt_cons (Lt.mp _ (by omega)) lt_nil))⟩, ⟨⟨by omega, ⟨_, (by simp only [hk_cons, z7, z9, z10, z13, if_true, if_false] <;> rfl), bwk_rfl⟩, hvs2 _ (by omega)⟩, ⟨⟨by omega, ⟨_, (by simp only [hk_cons, z28, z29, z31, z34, if_true, if_false] <;> rfl), bwk_rfl⟩, lt_map fun _ => lt_i _ _⟩, ⟨⟨by omega, ⟨_, (by simp only [hk_cons, z49, z50, z52, z53, if_true, if_false] <;> rfl), bwk_rfl⟩, lt_map fun _ => lt_i _ _⟩, trivial⟩⟩⟩⟩⟩⟩
            · repeat' (first | exact tw_nil | refine tw_cons rfl ?_ ?_ | refine tw_cons ?_ ?_ ?_ | exact lt_i _ _)
              all_goals (try rfl)
              all_goals (try (rw [show (Fs.next hlk).i = k + 1 from rfl, g4]; rfl))
              all_goals (try (exact Lt.ow _ _ (by omega)))
              all_goals (try (exact Lt.pt _ _ (by omega)))
        · have hkk : k = (t.col q).length := by have : k ≤ (t.col q).length := hk; omega
          subst hkk
          have f1 := inlt hlk
          repeat' (first | simp only [go_sem, ↓reduceIte, Nat.reduceLT, Nat.reduceEqDiff, reduceCtorEq, f1, e2, Nat.add_zero])
          all_goals (try omega)
          refine ⟨Fs.next hlt, Nat.sub_lt_sub_left hlt (Nat.lt_succ_self _), wk_go (by omega) ?_ ⟨⟨by omega, ⟨_, (by rw [show (Fs.next hlt).i = i + 1 from rfl, hps]; simp only [hk_cons, z21, z22, z24, z27, if_true, if_false]), bwk_rfl⟩, lt_map fun _ => lt_p2 _ _⟩, ⟨⟨by omega, ⟨_, (by simp only [hk_cons, z0, z2, z3, z6, if_true, if_false] <;> rfl), bwk_rfl⟩, lt_agg (lt_cons (lt_bt _ _) (lt_cons (Lt.mp _ (by omega)) lt_nil))⟩, ⟨⟨by omega, ⟨_, (by simp only [hk_cons, z7, z9, z10, z13, if_true, if_false] <;> rfl), bwk_rfl⟩, hvs2 _ (by omega)⟩, ⟨⟨by omega, ⟨_, (by simp only [hk_cons, z28, z29, z31, z34, if_true, if_false] <;> rfl), bwk_rfl⟩, lt_map fun _ => lt_i _ _⟩, trivial⟩⟩⟩⟩⟩
          · repeat' (first | exact tw_nil | refine tw_cons rfl ?_ ?_ | refine tw_cons ?_ ?_ ?_ | exact lt_i _ _)
            all_goals (try rfl)
            all_goals (try (rw [show (Fs.next hlt).i = i + 1 from rfl, hps]; rfl))
            all_goals (try (exact Lt.ow _ _ (by omega)))
            all_goals (try (exact Lt.pt _ _ (by omega)))
    · have hii : i = t.lv.length := by have : i ≤ t.lv.length := hi; omega
      subst hii
      have f1 := inlt hlt
      have hpp : t.pairs = t.prs t.lv.length := by unfold BT.pairs; rw [hil]
      repeat' (first | simp only [go_sem, ↓reduceIte, Nat.reduceLT, Nat.reduceEqDiff, reduceCtorEq, f1, Nat.add_zero] | refine And.intro ?_ ?_)
      all_goals (try rw [hpp])
      exact HSub.cons (by simp only [hk_cons, z0, z2, z3, if_true, if_false] <;> rfl) (HSub.cons (by simp only [hk_cons, z7, z9, z10, if_true, if_false] <;> rfl) (HSub.cons (by simp only [hk_cons, z21, z22, z24, if_true, if_false] <;> rfl) HSub.nil))
end Go.Proofs.Ytlkngccfikeaiaa
