/-
  Package bvh: Insert, New. Conditions: none.
-/
import Derived.Test.YtlkngccfikeaiaaC143
import Derived.Test.YtlkngccfikeaiaaAlP
import Derived.Outline
set_option linter.all false
namespace Go.Proofs.Ytlkngccfikeaiaa
open Go.RowKit Go.AL Go.Carom
theorem hk_put (H : HH) (b : Nat) (x : ABox) (c : Nat) : hk (hput H b x) c = if c = b then some x else hk H c := by rw [hk_hput]; rfl
theorem held_put {H L : HH} {n : Nat} {x : ABox} (h : Held (hk H) L) (hn : ∀ b ∈ L.map (·.1), b ≠ n) : Held (hk (hput H n x)) L := fun p hp => by
  rw [hk_put, if_neg (hn p.1 (List.mem_map.2 ⟨p, hp, rfl⟩))]
  exact h p hp
def rtA : Option NT → AV
  | none => .sc (.pointer none)
  | some t => .pt t.b 0
def tnos : Option NT → List Nat
  | none => []
  | some t => t.nos
def trH (bt bm : Nat) : Option NT → HH
  | none => [(bt, .var (.agg [.sc (.pointer none), .mp bm]))]
  | some t => bigH bt bm [] t
def keysM (kb : List (Int × Nat)) : List (List Value) := kb.map fun p => [.int .i64 p.1]
def valsM (kb : List (Int × Nat)) : List AV := kb.map fun p => .pt p.2 0
def stH (bt bm : Nat) (o : Option NT) (kb : List (Int × Nat)) : HH := (bm, mqB false (keysM kb) (valsM kb)) :: trH bt bm o
theorem tr_keys (bt bm : Nat) (o : Option NT) : (trH bt bm o).map (·.1) = bt :: tnos o := by
  cases o with
  | none => rfl
  | some t => show (bigH bt bm [] t).map (·.1) = _; rw [big_keys, show cns [] = [] from rfl, List.append_nil]; rfl
theorem st_keys (bt bm : Nat) (o : Option NT) (kb : List (Int × Nat)) : (stH bt bm o kb).map (·.1) = bm :: bt :: tnos o := by
  show bm :: (trH bt bm o).map (·.1) = _
  rw [tr_keys]
theorem keysM_len (kb : List (Int × Nat)) : (keysM kb).length = kb.length := by simp [keysM]
theorem vals_len (kb : List (Int × Nat)) : (valsM kb).length = (keysM kb).length := by simp [keysM, valsM]
theorem keysM_k (kb : List (Int × Nat)) : ∀ k ∈ keysM kb, k.map kindOf = [some .i64].map some := fun k hk => by
  obtain ⟨p, _, rfl⟩ := List.mem_map.1 hk; rfl
structure SI (nx bt bm : Nat) (o : Option NT) (kb : List (Int × Nat)) : Prop where
  nd : (bm :: bt :: tnos o).Nodup
  lt : ∀ k ∈ bm :: bt :: tnos o, k < nx
  sz : (tnos o).length ≤ 190
  hok : ∀ t, o = some t → t.Hok
  kl : kb.length ≤ 100
  kv : ∀ p ∈ kb, p.2 < nx
theorem SI.zi {nx bt bm : Nat} {t : NT} {kb : List (Int × Nat)} (I : SI nx bt bm (some t) kb) : ZI nx bt [] t := by
  have h1 := I.nd
  refine ⟨?_, fun k hk => I.lt k ?_, ?_, I.hok t rfl, fun f hf => by cases hf⟩
  · rw [show cns [] = [] from rfl, List.append_nil]; exact (List.nodup_cons.1 h1).2
  · rw [show cns [] = [] from rfl, List.append_nil] at hk; exact List.mem_cons_of_mem _ hk
  · rw [show cns [] = [] from rfl, List.append_nil]; have := I.sz; exact Nat.le_trans this (by omega)
theorem SI.hbs {nx bt bm : Nat} {o : Option NT} {kb : List (Int × Nat)} (I : SI nx bt bm o kb) : HBs nx (stH bt bm o kb) := by
  have q_bm := I.lt bm List.mem_cons_self
  have q_bt := I.lt bt (List.mem_cons_of_mem _ List.mem_cons_self)
  refine .cons q_bm (.mq fun v hv => ?_) ?_
  · obtain ⟨p, hp, rfl⟩ := List.mem_map.1 hv
    exact Lt.pt _ _ (I.kv p hp)
  · cases o with
    | none => exact .cons q_bt (.var (lt_agg (lt_cons (Lt.sc _) (lt_cons (Lt.mp _ q_bm) lt_nil)))) .nil
    | some t => exact I.zi.hbs q_bm
theorem st_held {nx bt bm : Nat} {o : Option NT} {kb : List (Int × Nat)} (I : SI nx bt bm o kb) : Held (hk (stH bt bm o kb)) (stH bt bm o kb) := held_hk (by rw [st_keys]; exact I.nd)
theorem st_bm {H : HH} {bt bm : Nat} {o : Option NT} {kb : List (Int × Nat)} (h : Held (hk H) (stH bt bm o kb)) : hk H bm = some (mqB false (keysM kb) (valsM kb)) := (held_cons.1 h).1
theorem st_bt {H : HH} {bt bm : Nat} {o : Option NT} {kb : List (Int × Nat)} (h : Held (hk H) (stH bt bm o kb)) : hk H bt = some (.var (.agg [rtA o, .mp bm])) := by
  have h1 := (held_cons.1 h).2
  cases o with
  | none => exact (held_cons.1 h1).1
  | some t => exact (held_cons.1 (show Held _ ((bt, _) :: (t.hp (paZ []) ++ ctx [] t.b)) from h1)).1
set_option maxRecDepth 20000 in
set_option maxHeartbeats 8000000 in
theorem c_insA {nx bt bm : Nat} {o : Option NT} {kb : List (Int × Nat)} (e : En) (I : SI nx bt bm o kb) (hv : vE e = false) : CallS Try.prog (hk (stH bt bm o kb)) nx 6 [.pt bt 0, .i e.id, .agg [.i e.x, .i e.y, .i e.u, .i e.w]] ⟨.i 2, stH bt bm o kb, 1, (stH bt bm o kb).map (·.1)⟩ := by
  have q_bm := I.lt bm List.mem_cons_self
  have q_bt := I.lt bt (List.mem_cons_of_mem _ List.mem_cons_self)
  have I2 : SI (nx + 1) bt bm o kb := ⟨I.nd, fun k hk => Nat.lt_succ_of_lt (I.lt k hk), I.sz, I.hok, I.kl, fun p hp => Nat.lt_succ_of_lt (I.kv p hp)⟩
  have hsub : ∀ c, c ∈ bm :: bt :: tnos o → c ∈ bm :: bt :: tnos o := fun _ h => h
  refine calls_go (.i 2) (stH bt bm o kb) 1 hm Try.func6 rfl (by kernel_rfl) Try.ntmps6 Try.results6 rfl ?_ ?_ ?_ ?_ ?_ ?_ ?_
  · exact Lts.cons (Lt.pt _ _ q_bt) (Lts.cons (lt_i _ _) (Lts.cons (lt_agg (lt_cons (lt_i _ _) (lt_cons (lt_i _ _) (lt_cons (lt_i _ _) (lt_cons (lt_i _ _) lt_nil))))) Lts.nil))
  · exact I.hbs
  · exact lt_i _ _
  · exact I2.hbs
  · exact keys_nodup (by rw [st_keys]; exact I2.nd)
  · intro p hp
    have h1 : p.1 ∈ (stH bt bm o kb).map (·.1) := List.mem_map.2 ⟨p, hp, rfl⟩
    rw [st_keys] at h1 ⊢
    exact hsub _ h1
  have m0 : maxLen = 9223372036854775807 := rfl
  have hHh := st_held I
  have hbm := st_bm hHh
  have hbt := st_bt hHh
  have hbb : bm ≠ bt := fun h => (List.nodup_cons.1 I.nd).1 (h ▸ List.mem_cons_self)
  have hkeys := st_keys bt bm o kb
  have z1 : (bt = nx) = False := eq_false (by omega)
  have z2 : (bm = nx) = False := eq_false (by omega)
  have z3 : (bt = nx + 1) = False := eq_false (by omega)
  have z4 : (bm = nx + 1) = False := eq_false (by omega)
  have z5 : (nx = nx + 1) = False := eq_false (by omega)
  have z6 : (nx + 1 = nx) = False := eq_false (by omega)
  have z7 : (bt = bm) = False := eq_false (Ne.symm hbb)
  have z8 : (bm = bt) = False := eq_false hbb
  have z9 : (nx = bm) = False := eq_false (by omega)
  have zA : (nx + 1 = bm) = False := eq_false (by omega)
  have i1 : HasC Try.prog 14 [.agg [.i e.x, .i e.y, .i e.u, .i e.w]] (.b (vE e)) := ⟨c_bvalid _ _ _ _⟩
  refine tr_ac hm ?_
  generalize hg : stH bt bm o kb = Hh at *
  rw [hv] at i1
  repeat' (first | simp only [go_sem, ↓reduceIte, Nat.reduceLT, Nat.reduceEqDiff, Nat.reduceAdd, Nat.reduceLeDiff, reduceCtorEq, hk_put, Nat.add_zero] | refine cst_go ?_ | refine aext_ppn rfl (.pt _ _) rfl rfl (by decide) ?_)
  all_goals (try exact hsub_held (held_put (hg ▸ hHh) (fun c hc => by rw [hkeys] at hc; have := I.lt c hc; omega)))
theorem mqV_pt {k : List Value} {kb : List (Int × Nat)} (h : mqH k (keysM kb) = true) : ∃ q, mqV k (keysM kb) (valsM kb) (.pointer none) = .pt q 0 := by
  unfold mqH at h
  unfold mqV
  cases hk : kfind k (keysM kb) 0 with
  | none => rw [hk] at h; cases h
  | some j =>
    have h1 := kfind_ge hk
    rw [← vals_len] at h1
    have h2 : j < (valsM kb).length := by omega
    refine ⟨(kb[j]'(by simpa [valsM] using h2)).2, ?_⟩
    show (valsM kb).getD j .und = _
    rw [List.getD_eq_getElem?_getD, List.getElem?_eq_getElem h2]
    simp [valsM]
set_option maxRecDepth 20000 in
set_option maxHeartbeats 8000000 in
theorem c_insB {nx bt bm : Nat} {o : Option NT} {kb : List (Int × Nat)} (e : En) (I : SI nx bt bm o kb) (hv : vE e = true) (hf : mqH [.int .i64 e.id] (keysM kb) = true) : CallS Try.prog (hk (stH bt bm o kb)) nx 6 [.pt bt 0, .i e.id, .agg [.i e.x, .i e.y, .i e.u, .i e.w]] ⟨.i 7, stH bt bm o kb, 1, (stH bt bm o kb).map (·.1)⟩ := by
  have q_bm := I.lt bm List.mem_cons_self
  have q_bt := I.lt bt (List.mem_cons_of_mem _ List.mem_cons_self)
  have I2 : SI (nx + 1) bt bm o kb := ⟨I.nd, fun k hk => Nat.lt_succ_of_lt (I.lt k hk), I.sz, I.hok, I.kl, fun p hp => Nat.lt_succ_of_lt (I.kv p hp)⟩
  have hsub : ∀ c, c ∈ bm :: bt :: tnos o → c ∈ bm :: bt :: tnos o := fun _ h => h
  refine calls_go (.i 7) (stH bt bm o kb) 1 hm Try.func6 rfl (by kernel_rfl) Try.ntmps6 Try.results6 rfl ?_ ?_ ?_ ?_ ?_ ?_ ?_
  · exact Lts.cons (Lt.pt _ _ q_bt) (Lts.cons (lt_i _ _) (Lts.cons (lt_agg (lt_cons (lt_i _ _) (lt_cons (lt_i _ _) (lt_cons (lt_i _ _) (lt_cons (lt_i _ _) lt_nil))))) Lts.nil))
  · exact I.hbs
  · exact lt_i _ _
  · exact I2.hbs
  · exact keys_nodup (by rw [st_keys]; exact I2.nd)
  · intro p hp
    have h1 : p.1 ∈ (stH bt bm o kb).map (·.1) := List.mem_map.2 ⟨p, hp, rfl⟩
    rw [st_keys] at h1 ⊢
    exact hsub _ h1
  have m0 : maxLen = 9223372036854775807 := rfl
  have hHh := st_held I
  have hbm := st_bm hHh
  have hbt := st_bt hHh
  have hbb : bm ≠ bt := fun h => (List.nodup_cons.1 I.nd).1 (h ▸ List.mem_cons_self)
  have hkeys := st_keys bt bm o kb
  have z1 : (bt = nx) = False := eq_false (by omega)
  have z2 : (bm = nx) = False := eq_false (by omega)
  have z3 : (bt = nx + 1) = False := eq_false (by omega)
  have z4 : (bm = nx + 1) = False := eq_false (by omega)
  have z5 : (nx = nx + 1) = False := eq_false (by omega)
  have z6 : (nx + 1 = nx) = False := eq_false (by omega)
  have z7 : (bt = bm) = False := eq_false (Ne.symm hbb)
  have z8 : (bm = bt) = False := eq_false hbb
  have z9 : (nx = bm) = False := eq_false (by omega)
  have zA : (nx + 1 = bm) = False := eq_false (by omega)
  have i1 : HasC Try.prog 14 [.agg [.i e.x, .i e.y, .i e.u, .i e.w]] (.b (vE e)) := ⟨c_bvalid _ _ _ _⟩
  refine tr_ac hm ?_
  generalize hg : stH bt bm o kb = Hh at *
  rw [hv] at i1
  obtain ⟨q, hq⟩ := mqV_pt hf
  repeat' (first | simp only [go_sem, ↓reduceIte, Nat.reduceLT, Nat.reduceEqDiff, Nat.reduceAdd, Nat.reduceLeDiff, reduceCtorEq, hf, hq, z1, hk_put, hbt, Nat.add_zero] | refine cst_go ?_ | refine aext_ppn rfl (.pt _ _) rfl rfl (by decide) ?_ | refine aext_lookup_q [.int .i64 e.id] (keysM kb) (valsM kb) rfl rfl rfl (by simp only [hk_put, z2, if_false]; exact hbm) rfl rfl (keysM_k kb) (vals_len kb) ?_)
  all_goals (try exact hsub_held (held_put (hg ▸ hHh) (fun c hc => by rw [hkeys] at hc; have := I.lt c hc; omega)))
theorem kf_h {k : List Value} {keys : List (List Value)} (h : kfind k keys 0 = none) : mqH k keys = false := by unfold mqH; rw [h]; rfl
theorem keysM_snoc (kb : List (Int × Nat)) (i : Int) (n : Nat) : keysM kb ++ [[.int .i64 i]] = keysM (kb ++ [(i, n)]) := by simp [keysM]
theorem valsM_snoc (kb : List (Int × Nat)) (i : Int) (n : Nat) : valsM kb ++ [.pt n 0] = valsM (kb ++ [(i, n)]) := by simp [valsM]
theorem att0_at {nx bt bm k : Nat} (q_bm : bm < nx) (e : En) (q1 : bt < nx) (q2 : k < nx) (hn : bt ≠ k) (M : Nat → Option ABox) (h1 : M bt = some (.var (.agg [.sc (.pointer none), .mp bm]))) (h2 : M k = some ((NT.lf k e).top (.sc (.pointer none)))) : CallS Try.prog M nx 15 [.pt bt 0, .pt k 0] ⟨.tup [], [(bt, .var (.agg [.pt k 0, .mp bm])), (k, (NT.lf k e).top (.sc (.pointer none)))], 0, [bt, k]⟩ :=
  (c_att0 bm q_bm e e.id q1 q2 hn).congr (fun c hc => by
    simp only [List.mem_cons, List.not_mem_nil, or_false] at hc
    rcases hc with rfl | rfl
    · rw [h1, hk_cons, if_pos rfl]
    · rw [h2, hk_cons, if_neg (Ne.symm hn), hk_cons, if_pos rfl]; rfl)
theorem si_one {nx bt bm : Nat} {kb : List (Int × Nat)} (e : En) (I : SI nx bt bm none kb) (hkl : kb.length < 100) : SI (nx + 2) bt bm (some (.lf (nx + 1) e)) (kb ++ [(e.id, nx + 1)]) := by
  have q_bm := I.lt bm List.mem_cons_self
  have q_bt := I.lt bt (List.mem_cons_of_mem _ List.mem_cons_self)
  refine ⟨?_, fun c hc => ?_, by show 1 ≤ 190; omega, fun t ht => ?_, ?_, fun p hp => ?_⟩
  · have h1 := I.nd
    simp only [tnos, NT.nos, List.nodup_cons, List.mem_cons, List.not_mem_nil, or_false, not_or, List.nodup_nil, and_true, not_false_eq_true] at h1 ⊢
    omega
  · simp only [tnos, NT.nos, List.mem_cons, List.not_mem_nil, or_false] at hc
    omega
  · injection ht with ht; subst ht; trivial
  · rw [List.length_append]; show kb.length + 1 ≤ 100; omega
  · rcases List.mem_append.1 hp with h | h
    · have := I.kv p h; omega
    · rw [List.mem_singleton.1 h]; show nx + 1 < nx + 2; omega
set_option maxRecDepth 20000 in
set_option maxHeartbeats 8000000 in
theorem c_insC {nx bt bm : Nat}  {kb : List (Int × Nat)} (e : En) (I : SI nx bt bm none kb) (hv : vE e = true) (hf : kfind [.int .i64 e.id] (keysM kb) 0 = none) (hkl : kb.length < 100) : CallS Try.prog (hk (stH bt bm none kb)) nx 6 [.pt bt 0, .i e.id, .agg [.i e.x, .i e.y, .i e.u, .i e.w]] ⟨.i 0, stH bt bm (some (.lf (nx + 1) e)) (kb ++ [(e.id, nx + 1)]), 2, (stH bt bm none kb).map (·.1)⟩ := by
  have q_bm := I.lt bm List.mem_cons_self
  have q_bt := I.lt bt (List.mem_cons_of_mem _ List.mem_cons_self)
  have I2 := si_one e I hkl
  have hsub : ∀ c, c ∈ bm :: bt :: tnos none → c ∈ bm :: bt :: tnos (some (.lf (nx + 1) e)) := fun c h => by
    simp only [tnos, List.mem_cons, List.not_mem_nil, or_false] at h ⊢
    rcases h with h | h <;> simp [h]
  refine calls_go (.i 0) (stH bt bm (some (.lf (nx + 1) e)) (kb ++ [(e.id, nx + 1)])) 2 hm Try.func6 rfl (by kernel_rfl) Try.ntmps6 Try.results6 rfl ?_ ?_ ?_ ?_ ?_ ?_ ?_
  · exact Lts.cons (Lt.pt _ _ q_bt) (Lts.cons (lt_i _ _) (Lts.cons (lt_agg (lt_cons (lt_i _ _) (lt_cons (lt_i _ _) (lt_cons (lt_i _ _) (lt_cons (lt_i _ _) lt_nil))))) Lts.nil))
  · exact I.hbs
  · exact lt_i _ _
  · exact I2.hbs
  · exact keys_nodup (by rw [st_keys]; exact I2.nd)
  · intro p hp
    have h1 : p.1 ∈ (stH bt bm none kb).map (·.1) := List.mem_map.2 ⟨p, hp, rfl⟩
    rw [st_keys] at h1 ⊢
    exact hsub _ h1
  have m0 : maxLen = 9223372036854775807 := rfl
  have hHh := st_held I
  have hbm := st_bm hHh
  have hbt := st_bt hHh
  have hbb : bm ≠ bt := fun h => (List.nodup_cons.1 I.nd).1 (h ▸ List.mem_cons_self)
  have hkeys := st_keys bt bm none kb
  have z1 : (bt = nx) = False := eq_false (by omega)
  have z2 : (bm = nx) = False := eq_false (by omega)
  have z3 : (bt = nx + 1) = False := eq_false (by omega)
  have z4 : (bm = nx + 1) = False := eq_false (by omega)
  have z5 : (nx = nx + 1) = False := eq_false (by omega)
  have z6 : (nx + 1 = nx) = False := eq_false (by omega)
  have z7 : (bt = bm) = False := eq_false (Ne.symm hbb)
  have z8 : (bm = bt) = False := eq_false hbb
  have z9 : (nx = bm) = False := eq_false (by omega)
  have zA : (nx + 1 = bm) = False := eq_false (by omega)
  have i1 : HasC Try.prog 14 [.agg [.i e.x, .i e.y, .i e.u, .i e.w]] (.b (vE e)) := ⟨c_bvalid _ _ _ _⟩
  refine tr_ac hm ?_
  rw [hv] at i1
  have hf1 := kf_h hf
  have hf2 : mqV [.int .i64 e.id] (keysM kb) (valsM kb) (.pointer none) = .sc (.pointer none) := by unfold mqV; rw [hf]
  have hf3 : ((4096 : Int) ≤ ((keysM kb).length : Nat)) = False := eq_false (by rw [keysM_len]; have := I.kl; omega)
  have k1 := keysM_snoc kb e.id (nx + 1)
  have k2 := valsM_snoc kb e.id (nx + 1)
  generalize hg : stH bt bm none kb = Hh at *
  have hA := att0_at (nx := nx + 2) (bt := bt) (bm := bm) (k := nx + 1) (by omega) e (by omega) (by omega) (by omega)
  repeat' (first | simp only [go_sem, ↓reduceIte, Nat.reduceLT, Nat.reduceEqDiff, Nat.reduceAdd, Nat.reduceLeDiff, reduceCtorEq, hf1, hf2, hf3, k1, k2, z1, z3, hk_put, hbt, Nat.add_zero] | refine cst_go ?_ | refine aext_ppn rfl (.pt _ _) rfl rfl (by decide) ?_ | refine aext_lookup_q [.int .i64 e.id] (keysM kb) (valsM kb) rfl rfl rfl (by simp only [hk_put, z2, if_false]; exact hbm) rfl rfl (keysM_k kb) (vals_len kb) ?_ | refine aext_len_q (keysM kb) (valsM kb) rfl rfl (by simp only [hk_put, z2, if_false]; exact hbm) (vals_len kb) ?_ | refine aext_mnil rfl rfl rfl rfl ?_ | refine aext_mapUpdate_q [.int .i64 e.id] (keysM kb) (valsM kb) rfl rfl rfl rfl (by simp only [hk_put, z2, z4, if_false]; exact hbm) rfl rfl rfl (keysM_k kb) (vals_len kb) hf ?_ | refine cst_cs (hA _ (by simp only [z1, z3, z7, hk_put, hbt, if_false]; rfl) (by simp only [z6, zA, hk_put, if_true, if_false]; rfl)) ?_)
  all_goals (try exact hsub_held (held_cons.2 ⟨by simp only [z2, z4, z8, hk_put, hbm, if_true, if_false] <;> rfl, held_cons.2 ⟨by simp only [z1, z3, z7, hk_put, hbt, if_true, if_false] <;> rfl, held_cons.2 ⟨by simp only [z6, zA, hk_put, if_true, if_false] <;> rfl, held_nil⟩⟩⟩))
theorem att_at {nx bt bm k : Nat} {t : NT} (q_bm : bm < nx) (q_k : k < nx) (e : En) (I : ZI nx bt [] t) (hk0 : k ∉ bt :: t.nos) (hsz : t.nos.length ≤ 190) (M : Nat → Option ABox) (h1 : M k = some ((NT.lf k e).top (.sc (.pointer none)))) (h2 : Held M (bigH bt bm [] t)) :
    CallS Try.prog M nx 15 [.pt bt 0, .pt k 0] ⟨.tup [], bigH bt bm [] (NT.ins nx k e t), 1, ((k, (NT.lf k e).top (.sc (.pointer none))) :: bigH bt bm [] t).map (·.1)⟩ :=
  (c_att q_bm q_k I hk0 hsz).congr (fun c hc => by
    have hnd : (((k, (NT.lf k e).top (.sc (.pointer none))) :: bigH bt bm [] t).map (·.1)).Nodup := by
      rw [List.map_cons, big_keys, show cns [] = [] from rfl, List.append_nil]
      refine List.nodup_cons.2 ⟨hk0, ?_⟩
      have := I.nd
      rwa [show cns [] = [] from rfl, List.append_nil] at this
    obtain ⟨p, hp, rfl⟩ := List.mem_map.1 hc
    rw [held_hk hnd p hp]
    rcases List.mem_cons.1 hp with rfl | hp
    · exact h1
    · exact h2 p hp)
theorem held_up {H wb : HH} (h : (wb.map (·.1)).Nodup) : Held (hk (hputs H wb)) wb := fun p hp => by
  rw [hk_hputs]; exact upd_at (keys_nodup h) (held_hk h p hp)
theorem ins_hok {i k : Nat} {f : En} : ∀ {t : NT}, t.Hok → (NT.ins i k f t).Hok
  | .lf b e, _ => fr_hok trivial trivial
  | .nd b e h l r, hh => by
    show (if costE l.e f ≤ costE r.e f then _ else _ : NT).Hok
    split
    · exact bal_hok (ins_hok hh.2.2.1) hh.2.2.2
    · exact bal_hok hh.2.2.1 (ins_hok hh.2.2.2)
theorem si_more {nx bt bm : Nat} {t : NT} {kb : List (Int × Nat)} (e : En) (I : SI nx bt bm (some t) kb) (hkl : kb.length < 100) (hsz : t.nos.length + 2 ≤ 190) : SI (nx + 3) bt bm (some (t.ins (nx + 2) (nx + 1) e)) (kb ++ [(e.id, nx + 1)]) := by
  have q_bm := I.lt bm List.mem_cons_self
  have q_bt := I.lt bt (List.mem_cons_of_mem _ List.mem_cons_self)
  have hsm := (NT.ins_sm (nx + 2) (nx + 1) e t).1
  have hp : (bm :: bt :: (t.ins (nx + 2) (nx + 1) e).nos).Perm (bm :: bt :: (nx + 2) :: (nx + 1) :: t.nos) := (hsm.cons bt).cons bm
  refine ⟨hp.nodup_iff.2 ?_, fun c hc => ?_, ?_, fun t' ht => ?_, ?_, fun p hp' => ?_⟩
  · have h1 := I.nd
    have h2 : ∀ c ∈ t.nos, c < nx := fun c hc => I.lt c (List.mem_cons_of_mem _ (List.mem_cons_of_mem _ hc))
    have h3 : nx + 2 ∉ t.nos := fun h => by have := h2 _ h; omega
    have h4 : nx + 1 ∉ t.nos := fun h => by have := h2 _ h; omega
    simp only [tnos, List.nodup_cons, List.mem_cons, not_or] at h1 ⊢
    exact ⟨⟨h1.1.1, by omega, by omega, h1.1.2⟩, ⟨by omega, by omega, h1.2.1⟩, ⟨by omega, h3⟩, h4, h1.2.2⟩
  · have h1 := hp.mem_iff.1 hc
    simp only [List.mem_cons] at h1
    rcases h1 with h | h | h | h | h
    · omega
    · omega
    · omega
    · omega
    · have := I.lt c (List.mem_cons_of_mem _ (List.mem_cons_of_mem _ h)); omega
  · show (t.ins (nx + 2) (nx + 1) e).nos.length ≤ 190
    rw [hsm.length_eq]; have : t.nos.length + 2 ≤ 190 := hsz; simp only [List.length_cons]; omega
  · injection ht with ht; subst ht; exact ins_hok (I.hok t rfl)
  · rw [List.length_append]; show kb.length + 1 ≤ 100; omega
  · rcases List.mem_append.1 hp' with h | h
    · have := I.kv p h; omega
    · rw [List.mem_singleton.1 h]; show nx + 1 < nx + 3; omega
set_option maxRecDepth 20000 in
set_option maxHeartbeats 8000000 in
theorem c_insD {nx bt bm : Nat} {t : NT} {kb : List (Int × Nat)} (e : En) (I : SI nx bt bm (some t) kb) (hv : vE e = true) (hf : kfind [.int .i64 e.id] (keysM kb) 0 = none) (hkl : kb.length < 100) (hsz : t.nos.length + 2 ≤ 190) : CallS Try.prog (hk (stH bt bm (some t) kb)) nx 6 [.pt bt 0, .i e.id, .agg [.i e.x, .i e.y, .i e.u, .i e.w]] ⟨.i 0, stH bt bm (some (t.ins (nx + 2) (nx + 1) e)) (kb ++ [(e.id, nx + 1)]), 3, (stH bt bm (some t) kb).map (·.1)⟩ := by
  have q_bm := I.lt bm List.mem_cons_self
  have q_bt := I.lt bt (List.mem_cons_of_mem _ List.mem_cons_self)
  have hsm := (NT.ins_sm (nx + 2) (nx + 1) e t).1
  have I2 := si_more e I hkl hsz
  have hsub : ∀ c, c ∈ bm :: bt :: tnos (some t) → c ∈ bm :: bt :: tnos (some (t.ins (nx + 2) (nx + 1) e)) := fun c h => by
    simp only [tnos, List.mem_cons] at h ⊢
    rcases h with h | h | h
    · simp [h]
    · simp [h]
    · exact .inr (.inr (hsm.mem_iff.2 (by simp [h])))
  refine calls_go (.i 0) (stH bt bm (some (t.ins (nx + 2) (nx + 1) e)) (kb ++ [(e.id, nx + 1)])) 3 hm Try.func6 rfl (by kernel_rfl) Try.ntmps6 Try.results6 rfl ?_ ?_ ?_ ?_ ?_ ?_ ?_
  · exact Lts.cons (Lt.pt _ _ q_bt) (Lts.cons (lt_i _ _) (Lts.cons (lt_agg (lt_cons (lt_i _ _) (lt_cons (lt_i _ _) (lt_cons (lt_i _ _) (lt_cons (lt_i _ _) lt_nil))))) Lts.nil))
  · exact I.hbs
  · exact lt_i _ _
  · exact I2.hbs
  · exact keys_nodup (by rw [st_keys]; exact I2.nd)
  · intro p hp
    have h1 : p.1 ∈ (stH bt bm (some t) kb).map (·.1) := List.mem_map.2 ⟨p, hp, rfl⟩
    rw [st_keys] at h1 ⊢
    exact hsub _ h1
  have m0 : maxLen = 9223372036854775807 := rfl
  have hHh := st_held I
  have hbm := st_bm hHh
  have hbt := st_bt hHh
  have hbb : bm ≠ bt := fun h => (List.nodup_cons.1 I.nd).1 (h ▸ List.mem_cons_self)
  have hkeys := st_keys bt bm (some t) kb
  have z1 : (bt = nx) = False := eq_false (by omega)
  have z2 : (bm = nx) = False := eq_false (by omega)
  have z3 : (bt = nx + 1) = False := eq_false (by omega)
  have z4 : (bm = nx + 1) = False := eq_false (by omega)
  have z5 : (nx = nx + 1) = False := eq_false (by omega)
  have z6 : (nx + 1 = nx) = False := eq_false (by omega)
  have z7 : (bt = bm) = False := eq_false (Ne.symm hbb)
  have z8 : (bm = bt) = False := eq_false hbb
  have z9 : (nx = bm) = False := eq_false (by omega)
  have zA : (nx + 1 = bm) = False := eq_false (by omega)
  have i1 : HasC Try.prog 14 [.agg [.i e.x, .i e.y, .i e.u, .i e.w]] (.b (vE e)) := ⟨c_bvalid _ _ _ _⟩
  refine tr_ac hm ?_
  rw [hv] at i1
  have hf1 := kf_h hf
  have hf2 : mqV [.int .i64 e.id] (keysM kb) (valsM kb) (.pointer none) = .sc (.pointer none) := by unfold mqV; rw [hf]
  have hf3 : ((4096 : Int) ≤ ((keysM kb).length : Nat)) = False := eq_false (by rw [keysM_len]; have := I.kl; omega)
  have k1 := keysM_snoc kb e.id (nx + 1)
  have k2 := valsM_snoc kb e.id (nx + 1)
  have hbig : Held (hk (stH bt bm (some t) kb)) (bigH bt bm [] t) := (held_cons.1 hHh).2
  have hgk : ∀ c ∈ (bigH bt bm [] t).map (·.1), c ≠ nx ∧ c ≠ nx + 1 ∧ c ≠ bm := fun c hc => by
    have hc' : c ∈ bt :: t.nos := by rwa [big_keys, show cns [] = [] from rfl, List.append_nil] at hc
    have := I.lt c (List.mem_cons_of_mem _ hc')
    exact ⟨by omega, by omega, fun h => (List.nodup_cons.1 I.nd).1 (h ▸ hc')⟩
  have hgk2 : bm ∉ (bigH bt bm [] (t.ins (nx + 2) (nx + 1) e)).map (·.1) := fun h => by
    rw [big_keys, show cns [] = [] from rfl, List.append_nil] at h
    exact (List.nodup_cons.1 I2.nd).1 h
  have hgk3 : ((bigH bt bm [] (t.ins (nx + 2) (nx + 1) e)).map (·.1)).Nodup := (by rw [big_keys, show cns [] = [] from rfl, List.append_nil]; exact (List.nodup_cons.1 I2.nd).2)
  generalize hg : stH bt bm (some t) kb = Hh at *
  have hA := att_at (nx := nx + 2) (bt := bt) (bm := bm) (k := nx + 1) (t := t) (by omega) (by omega) e (ZI.mono I.zi (by omega)) (fun h => by have := I.lt _ (List.mem_cons_of_mem _ h); omega) (by omega)
  repeat' (first | simp only [go_sem, ↓reduceIte, Nat.reduceLT, Nat.reduceEqDiff, Nat.reduceAdd, Nat.reduceLeDiff, reduceCtorEq, hf1, hf2, hf3, k1, k2, z1, z3, hk_put, hbt, Nat.add_zero] | refine cst_go ?_ | refine aext_ppn rfl (.pt _ _) rfl rfl (by decide) ?_ | refine aext_lookup_q [.int .i64 e.id] (keysM kb) (valsM kb) rfl rfl rfl (by simp only [hk_put, z2, if_false]; exact hbm) rfl rfl (keysM_k kb) (vals_len kb) ?_ | refine aext_len_q (keysM kb) (valsM kb) rfl rfl (by simp only [hk_put, z2, if_false]; exact hbm) (vals_len kb) ?_ | refine aext_mnil rfl rfl rfl rfl ?_ | refine aext_mapUpdate_q [.int .i64 e.id] (keysM kb) (valsM kb) rfl rfl rfl rfl (by simp only [hk_put, z2, z4, if_false]; exact hbm) rfl rfl rfl (keysM_k kb) (vals_len kb) hf ?_ | refine cst_cs (hA _ (by simp only [z6, zA, hk_put, if_true, if_false]; rfl) (held_put (held_put (held_put hbig (fun c hc => (hgk c hc).1)) (fun c hc => (hgk c hc).2.1)) (fun c hc => (hgk c hc).2.2))) ?_)
  all_goals (try exact hsub_held (held_cons.2 ⟨by rw [hk_hputs, updL_other _ _ _ hgk2, hk_put, if_pos rfl], held_up hgk3⟩))
set_option maxRecDepth 20000 in
set_option maxHeartbeats 8000000 in
theorem c_new {nx : Nat} : CallS Try.prog (hk []) nx 5 [] ⟨.pt (nx + 1) 0, stH (nx + 1) nx none [], 2, []⟩ := by
  refine calls_go (.pt (nx + 1) 0) (stH (nx + 1) nx none []) 2 hm Try.func5 rfl (by kernel_rfl) Try.ntmps5 Try.results5 rfl ?_ ?_ ?_ ?_ ?_ ?_ ?_
  · exact Lts.nil
  · exact HBs.nil
  · exact Lt.pt _ _ (by omega)
  · exact HBs.cons (by omega) (.mq (fun v hv => by cases hv)) (HBs.cons (by omega) (.var (lt_agg (lt_cons (Lt.sc _) (lt_cons (Lt.mp _ (by omega)) lt_nil)))) HBs.nil)
  · simp [keysOk, stH, trH]
  · intro p hp; cases hp
  have m0 : maxLen = 9223372036854775807 := rfl
  refine tr_ac hm ?_
  repeat' (first | simp only [go_sem, ↓reduceIte, Nat.reduceLT, Nat.reduceAdd, Nat.reduceLeDiff, Nat.add_zero] | refine aext_makeMap_q (ag := false) ?_)
  all_goals (try exact hsub_held (held_cons.2 ⟨by simp [hk_cons, mqB, keysM, valsM], held_cons.2 ⟨by simp [hk_cons], held_nil⟩⟩))
end Go.Proofs.Ytlkngccfikeaiaa
