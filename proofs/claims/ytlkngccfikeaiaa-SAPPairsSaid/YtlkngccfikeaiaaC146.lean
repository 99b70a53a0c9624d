/-
  A tree of boxes that grows, and that is told as content. Conditions: none.
-/
import Derived.Test.YtlkngccfikeaiaaC144
import Derived.Test.YtlkngccfikeaiaaC145
import Derived.Outline
set_option linter.all false
namespace Go.Proofs.Ytlkngccfikeaiaa
open Go.RowKit Go.AL Go.Carom
def lvsO : Option NT → List (Nat × En)
  | none => []
  | some t => t.lvs
def kbL (ls : List (Nat × En)) : List (Int × Nat) := ls.map fun p => (p.2.id, p.1)
structure LI (l : List En) (i : Nat) (o : Option NT) (ls : List (Nat × En)) : Prop where
  fl : ls.map (·.2) = fltI l i
  pm : (lvsO o).Perm ls
  ok : ∀ t, o = some t → t.Ok
  sz : (tnos o).length ≤ 2 * ls.length
theorem LI.len {l : List En} {i : Nat} {o : Option NT} {ls : List (Nat × En)} (I : LI l i o ls) : ls.length ≤ i := by
  have h := congrArg List.length I.fl
  rw [List.length_map] at h
  rw [h]; exact fltI_len l i
theorem LI.start (l : List En) : LI l 0 none [] := ⟨rfl, List.Perm.refl _, fun t h => (by cases h), Nat.le_refl _⟩
theorem LI.no {l : List En} {i : Nat} {o : Option NT} {ls : List (Nat × En)} (I : LI l i o ls) (h : i < l.length) (hn : newE (fltI l i) (l.getD i En.o) = false) : LI l (i + 1) o ls := ⟨I.fl.trans (fltI_no h hn).symm, I.pm, I.ok, I.sz⟩
theorem LI.grow {l : List En} {i k : Nat} {o : Option NT} {ls : List (Nat × En)} (I : LI l i o ls) (h : i < l.length) (hn : newE (fltI l i) (l.getD i En.o) = true) : (ls ++ [(k, l.getD i En.o)]).map (·.2) = fltI l (i + 1) := by
  rw [fltI_yes h hn, List.map_append, I.fl]; rfl
theorem new_v {acc : List En} {e : En} (hn : newE acc e = true) : vE e = true := by
  unfold newE at hn; exact (Bool.and_eq_true _ _ ▸ hn).1
theorem LI.one {l : List En} {i k : Nat} {ls : List (Nat × En)} (I : LI l i none ls) (h : i < l.length) (hn : newE (fltI l i) (l.getD i En.o) = true) : LI l (i + 1) (some (.lf k (l.getD i En.o))) (ls ++ [(k, l.getD i En.o)]) := by
  have he : ls = [] := List.Perm.eq_nil I.pm.symm
  refine ⟨I.grow h hn, ?_, fun t ht => ?_, ?_⟩
  · rw [he]; exact List.Perm.refl _
  · injection ht with ht; subst ht
    exact ⟨new_v hn, trivial⟩
  · rw [List.length_append]; show 1 ≤ _; simp only [List.length_cons, List.length_nil]; omega
theorem LI.more {l : List En} {i j k : Nat} {t : NT} {ls : List (Nat × En)} (I : LI l i (some t) ls) (h : i < l.length) (hn : newE (fltI l i) (l.getD i En.o) = true) : LI l (i + 1) (some (t.ins j k (l.getD i En.o))) (ls ++ [(k, l.getD i En.o)]) := by
  have hs := NT.ins_sm j k (l.getD i En.o) t
  refine ⟨I.grow h hn, ?_, fun t' ht => ?_, ?_⟩
  · refine hs.2.trans (List.Perm.trans ?_ List.perm_append_comm)
    exact List.Perm.cons _ I.pm
  · injection ht with ht; subst ht
    exact NT.ins_ok (new_v hn) (I.ok t rfl)
  · have := I.sz
    show (t.ins j k (l.getD i En.o)).nos.length ≤ _
    rw [hs.1.length_eq, List.length_append]
    have h2 : t.nos.length ≤ 2 * ls.length := this
    simp only [List.length_cons, List.length_nil]; omega
theorem kf_one (a b : Int) : veqs [.int .i64 a] [.int .i64 b] = decide (a = b) := by show (decide (a = b) && true) = _; rw [Bool.and_true]
theorem kf_cons (a : Int) (q : Nat × En) (r : List (Nat × En)) (i : Nat) : kfind [.int .i64 a] (keysM (kbL (q :: r))) i = if a = q.2.id then some i else kfind [.int .i64 a] (keysM (kbL r)) (i + 1) := by
  show (if veqs [.int .i64 a] [.int .i64 q.2.id] = true then _ else _) = _
  rw [kf_one]
  simp only [decide_eq_true_eq]
  rfl
theorem kf_no {a : Int} : ∀ {ls : List (Nat × En)} {i : Nat}, kfind [.int .i64 a] (keysM (kbL ls)) i = none ↔ ∀ p ∈ ls, p.2.id ≠ a
  | [], i => ⟨fun _ p h => (by cases h), fun _ => rfl⟩
  | q :: r, i => by
    rw [kf_cons]
    by_cases h : a = q.2.id
    · rw [if_pos h]
      exact ⟨fun h' => (by cases h'), fun h' => absurd h.symm (h' q List.mem_cons_self)⟩
    · rw [if_neg h, kf_no]
      rw [List.forall_mem_cons]
      exact ⟨fun h' => ⟨Ne.symm h, h'⟩, fun h' => h'.2⟩
theorem kf_at {p : Nat × En} (f : Nat × En → AV) : ∀ {ls : List (Nat × En)} (i : Nat), DistE (ls.map (·.2)) → p ∈ ls → ∃ j, kfind [.int .i64 p.2.id] (keysM (kbL ls)) i = some (i + j) ∧ (ls.map f).getD j .und = f p
  | [], _, _, h => by cases h
  | q :: r, i, hd, h => by
    rw [kf_cons]
    have hd' := List.pairwise_cons.1 (show List.Pairwise _ (q.2 :: r.map (·.2)) from hd)
    rcases List.mem_cons.1 h with rfl | h
    · exact ⟨0, by rw [if_pos rfl]; rfl, rfl⟩
    · have hne : p.2.id ≠ q.2.id := Ne.symm (hd'.1 p.2 (List.mem_map.2 ⟨p, h, rfl⟩))
      rw [if_neg hne]
      obtain ⟨j, h1, h2⟩ := kf_at f (i + 1) hd'.2 h
      exact ⟨j + 1, by rw [h1]; congr 1; omega, h2⟩
theorem LI.new {l : List En} {i : Nat} {o : Option NT} {ls : List (Nat × En)} (I : LI l i o ls) (a : En) : newE (fltI l i) a = (vE a && decide (kfind [.int .i64 a.id] (keysM (kbL ls)) 0 = none)) := by
  unfold newE
  rw [← I.fl]
  congr 1
  rw [Bool.eq_iff_iff, decide_eq_true_eq, kf_no, List.all_eq_true]
  simp only [List.mem_map, Bool.not_eq_true', decide_eq_false_iff_not, forall_exists_index, and_imp]
  exact ⟨fun h p hp => h p.2 p hp rfl, fun h x p hp e => e ▸ h p hp⟩
theorem mqH_of {k : List Value} {keys : List (List Value)} (h : kfind k keys 0 ≠ none) : mqH k keys = true := by
  unfold mqH
  cases hk : kfind k keys 0 with
  | none => exact absurd hk h
  | some j => rfl
theorem SI.mono {nx m bt bm : Nat} {o : Option NT} {kb : List (Int × Nat)} (I : SI nx bt bm o kb) (h : nx ≤ m) : SI m bt bm o kb := ⟨I.nd, fun k hk => Nat.lt_of_lt_of_le (I.lt k hk) h, I.sz, I.hok, I.kl, fun p hp => Nat.lt_of_lt_of_le (I.kv p hp) h⟩
theorem fz_nil {M : Nat → Option ABox} {R : Nat → Prop} {cs : List AV} : ∀ j, j < ([] : List AV).length → Fz M R (cs.getD j .und) (([] : List AV).getD j .und) := fun j h => absurd h (Nat.not_lt_zero j)
theorem fz_cons {M : Nat → Option ABox} {R : Nat → Prop} {c c' : AV} {cs cs' : List AV} (h0 : Fz M R c c') (h : ∀ j, j < cs'.length → Fz M R (cs.getD j .und) (cs'.getD j .und)) : ∀ j, j < (c' :: cs').length → Fz M R ((c :: cs).getD j .und) ((c' :: cs').getD j .und)
  | 0, _ => h0
  | j + 1, hj => h j (Nat.lt_of_succ_lt_succ hj)
theorem fz_leaf {M : Nat → Option ABox} {R : Nat → Prop} {b : Nat} {e : En} {pa : AV} (h : M b = some ((NT.lf b e).top pa)) (hR : R b) : Fz M R (.pt b 0) (.cp (BT.lf e).c) :=
  .cp b _ _ h hR rfl (fz_cons (.same _) (fz_cons (.same _) (fz_cons (.same _) (fz_cons (.same _) (fz_cons (.und _) (fz_cons (.same _) (fz_cons (.same _) (fz_cons (.same _) (fz_cons (.same _) fz_nil)))))))))
theorem fz_tree {M : Nat → Option ABox} {R : Nat → Prop} : ∀ {t : NT} {pa : AV}, Held M (t.hp pa) → (∀ b ∈ t.nos, R b) → Fz M R (.pt t.b 0) (.cp t.bt.c)
  | .lf b e, pa, hH, hR => fz_leaf (held_hp.1 hH).1 (hR b List.mem_cons_self)
  | .nd b e h l r, pa, hH, hR => by
    obtain ⟨h1, h2⟩ := held_hp.1 hH
    obtain ⟨hl, hr⟩ := held_app.1 (show Held _ (l.hp (.pt b 0) ++ r.hp (.pt b 0)) from h2)
    have fl := fz_tree hl fun c hc => hR c (List.mem_cons_of_mem _ (List.mem_append_left _ hc))
    have fr := fz_tree hr fun c hc => hR c (List.mem_cons_of_mem _ (List.mem_append_right _ hc))
    exact .cp b _ _ h1 (hR b List.mem_cons_self) rfl (fz_cons (.same _) (fz_cons (.same _) (fz_cons (.same _) (fz_cons (.same _) (fz_cons (.und _) (fz_cons fl (fz_cons fr (fz_cons (.same _) (fz_cons (.same _) fz_nil)))))))))
theorem lf_held {M : Nat → Option ABox} : ∀ {t : NT} {pa : AV}, Held M (t.hp pa) → ∀ p ∈ t.lvs, p.1 ∈ t.nos ∧ ∃ pa', M p.1 = some ((NT.lf p.1 p.2).top pa')
  | .lf b e, pa, hH, p, hp => by
    rw [List.mem_singleton.1 (show p ∈ [(b, e)] from hp)]
    exact ⟨List.mem_cons_self, pa, (held_hp.1 hH).1⟩
  | .nd b e h l r, pa, hH, p, hp => by
    obtain ⟨h1, h2⟩ := held_hp.1 hH
    obtain ⟨hl, hr⟩ := held_app.1 (show Held _ (l.hp (.pt b 0) ++ r.hp (.pt b 0)) from h2)
    rcases List.mem_append.1 (show p ∈ l.lvs ++ r.lvs from hp) with h | h
    · exact ⟨List.mem_cons_of_mem _ (List.mem_append_left _ (lf_held hl p h).1), (lf_held hl p h).2⟩
    · exact ⟨List.mem_cons_of_mem _ (List.mem_append_right _ (lf_held hr p h).1), (lf_held hr p h).2⟩
def frH (bt bm : Nat) (t : NT) (ls : List (Nat × En)) : HH := [(bt, .var (.agg [.cp t.bt.c, .mp bm])), (bm, mqB false (keysM (kbL ls)) (ls.map fun p => .cp (BT.lf p.2).c))]
theorem wk_tree {nx bt bm : Nat} {t : NT} {ls : List (Nat × En)} {T : TT} (I : SI nx bt bm (some t) (kbL ls)) (hp : t.lvs.Perm ls) : Wk T (stH bt bm (some t) (kbL ls)) nx T (frH bt bm t ls) nx := by
  have hH := st_held I
  have hB : Held (hk (stH bt bm (some t) (kbL ls))) (t.hp (paZ [])) := (held_app.1 (held_cons.1 (show Held _ ((bt, _) :: (t.hp (paZ []) ++ ctx [] t.b)) from (held_cons.1 hH).2)).2).1
  have hnd := I.nd
  simp only [tnos, List.nodup_cons, List.mem_cons, not_or] at hnd
  refine wk_fz (fun b => b ∈ t.nos) (fun s => .inr (.same _)) (fun b x hx => ?_)
  have hm := hk_mem _ _ _ hx
  unfold frH at hm
  simp only [List.mem_cons, List.not_mem_nil, or_false, Prod.mk.injEq] at hm
  rcases hm with ⟨rfl, rfl⟩ | ⟨rfl, rfl⟩
  · exact ⟨hnd.2.1, _, st_bt hH, .var _ _ rfl (fz_cons (fz_tree hB fun _ h => h) (fz_cons (.same _) fz_nil))⟩
  · refine ⟨hnd.1.2, _, st_bm hH, .mq _ _ _ (by simp [valsM, kbL]) (fun j hj => ?_)⟩
    have hj' : j < ls.length := by simpa using hj
    have h1 : (valsM (kbL ls)).getD j .und = .pt ls[j].1 0 := by
      rw [List.getD_eq_getElem?_getD, List.getElem?_eq_getElem (by simpa [valsM, kbL] using hj')]
      simp [valsM, kbL]
    have h2 : (ls.map fun p => AV.cp (BT.lf p.2).c).getD j .und = .cp (BT.lf ls[j].2).c := by
      rw [List.getD_eq_getElem?_getD, List.getElem?_eq_getElem (by simpa using hj')]
      simp
    rw [h1, h2]
    obtain ⟨g1, pa', g2⟩ := lf_held hB ls[j] (hp.mem_iff.2 (List.getElem_mem hj'))
    exact fz_leaf g2 g1
theorem DistE.perm {l m : List En} (h : DistE l) (p : l.Perm m) : DistE m := (p.pairwise_iff (fun {a b} h => Ne.symm h)).1 h
theorem cst_fl1 {P : Program} {M : Nat → Option ABox} {nx f b : Nat} {x : ABox} {vs0 vs1 : List AV} {r : AV} {K : Res → Prop} (h : PCall P f vs1 r) (hf : Flat r) (ha : vs0.map (cvT (hk [(b, x)])) = vs1) (hb : M b = some x) (hK : K ⟨r, [], 0, [b]⟩) : cst P M nx (.clo f []) vs0 K :=
  cst_cs ((CallS.of_flat (Hl := [(b, x)]) h ha hf).congr (by intro c hc; rw [List.mem_singleton.1 hc, hb, hk_cons, if_pos rfl])) hK
set_option maxRecDepth 20000 in
set_option maxHeartbeats 4000000 in
theorem c_idsN {nx : Nat} : CallS Try.prog (hk []) nx 25 [.sc (.pointer none), .e0] ⟨.e0, [], 0, []⟩ := by
  refine calls_go (.e0) [] 0 hm Try.func25 rfl (by kernel_rfl) Try.ntmps25 Try.results25 rfl ?_ ?_ ?_ ?_ ?_ ?_ ?_
  · exact Lts.cons (Lt.sc _) (Lts.cons Lt.e0 Lts.nil)
  · exact HBs.nil
  · exact Lt.e0
  · exact HBs.nil
  · rfl
  · intro p hp; cases hp
  have m0 : maxLen = 9223372036854775807 := rfl
  refine tr_ac hm ?_
  repeat' (first | simp only [go_sem, ↓reduceIte, Nat.reduceLT, Nat.reduceEqDiff, Nat.reduceAdd, reduceCtorEq] | refine aext_pnn rfl rfl rfl rfl (by decide) ?_ | exact HSub.nil)
  all_goals (try exact HSub.nil)
set_option maxRecDepth 20000 in
set_option maxHeartbeats 4000000 in
theorem c_tprs0 {bt bm nx : Nat} (hb : bt < nx) (hbm : bm < nx) : CallS Try.prog (hk [(bt, .var (.agg [.sc (.pointer none), .mp bm]))]) nx 11 [.pt bt 0] ⟨.ow (nx + 1) 0, [(bt, .var (.agg [.sc (.pointer none), .mp bm])), (nx + 1, .nl)], 2, [bt]⟩ := by
  refine calls_go (.ow (nx + 1) 0) [(bt, .var (.agg [.sc (.pointer none), .mp bm])), (nx + 1, .nl)] 2 hm Try.func11 rfl (by kernel_rfl) Try.ntmps11 Try.results11 rfl ?_ ?_ ?_ ?_ ?_ ?_ ?_
  · exact Lts.cons (Lt.pt _ _ hb) Lts.nil
  · exact HBs.cons hb (BOk.var (lt_agg (lt_cons (Lt.sc _) (lt_cons (Lt.mp _ hbm) lt_nil)))) HBs.nil
  · exact Lt.ow _ _ (by omega)
  · exact HBs.cons (by omega) (BOk.var (lt_agg (lt_cons (Lt.sc _) (lt_cons (Lt.mp _ (by omega)) lt_nil)))) (HBs.cons (by omega) BOk.nl HBs.nil)
  · simp [keysOk]; omega
  · intro p hp; rw [List.mem_singleton.1 hp]; exact List.mem_cons_self
  have m0 : maxLen = 9223372036854775807 := rfl
  have z0 : (bt = nx) = False := eq_false (by omega)
  have z1 : (bt = nx + 1) = False := eq_false (by omega)
  have z2 : (bt = nx + 2) = False := eq_false (by omega)
  have z3 : (nx = bt) = False := eq_false (by omega)
  have z4 : (nx = nx + 1) = False := eq_false (by omega)
  have z5 : (nx = nx + 2) = False := eq_false (by omega)
  have z6 : (nx + 1 = bt) = False := eq_false (by omega)
  have z7 : (nx + 1 = nx) = False := eq_false (by omega)
  have z8 : (nx + 1 = nx + 2) = False := eq_false (by omega)
  have z9 : (nx + 2 = bt) = False := eq_false (by omega)
  have z10 : (nx + 2 = nx) = False := eq_false (by omega)
  have z11 : (nx + 2 = nx + 1) = False := eq_false (by omega)
  have ha : (ascH []).map AV.i = [] := rfl
  have hz := fun m => calls_e0 (as1 := []) (c_asc (nx := m + 1) (Nat.lt_succ_self m) [] (by decide))
  refine tr_ac hm ?_
  repeat' (first | simp only [go_sem, ↓reduceIte, Nat.reduceLT, Nat.reduceEqDiff, Nat.reduceAdd, Nat.reduceLeDiff, reduceCtorEq, Int.reduceLT, ha, List.length_nil, z3, z6, z7, z9, z10, z11, nc0, Nat.add_zero] | refine aext_ppn rfl (.pt _ _) rfl rfl (by decide) ?_ | refine cst_c0 c_idsN ?_ | refine cst_c0 (hz _) ?_ | refine tr_rounds hm (.s .z) ?_)
  all_goals (try exact HSub.cons (by simp only [hk_cons, if_true]) (HSub.cons (by simp only [hk_cons, z6, z7, z8, if_true, if_false]) HSub.nil))
end Go.Proofs.Ytlkngccfikeaiaa
