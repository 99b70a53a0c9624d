/-
  What the functions of chapter 12 compute. Conditions: none.
-/
import Derived.Test.YtplmagdbnbijlaaGreatCA
import Derived.Test.YtplmagdbnbijlaaGreatMA
import Derived.Outline
import Derived.Test.YtplmagdbnbijlaaGreatAlB
set_option maxHeartbeats 4000000
set_option maxRecDepth 20000
set_option linter.all false
namespace Go.Proofs.YtplmagdbnbijlaaGreat
open Go.RowKit Go.AL Go.Carom
theorem c_oor (x : Int) : PCall Tryz.prog 207 [.i x] (.b (oor x)):=by
 refine pcall_of hm Tryz.func207 rfl (by kernel_rfl) (by rw [Tryz.ntmps207]; exact Nat.le_of_ble_eq_true rfl) (lt_cons (lt_i _ _) lt_nil) (lt_b _ _) ?_
 rw [Tryz.ntmps207,Tryz.results207]
 repeat' (first|simp only [go_sem,↓reduceIte,Nat.reduceLT,Nat.reduceEqDiff,Nat.reduceAdd,reduceCtorEq,Bool.not_eq_true',imp_self,Int.reduceNeg])
 all_goals rfl
instance (x : Int) : HasC Tryz.prog 207 [.i x] (.b (oor x)):=⟨c_oor x⟩
theorem c_within (x : Int) : PCall Tryz.prog 230 [.i x,.i 1048576] (.b (decide (-1048576 ≤ x) && decide (x ≤ 1048576))):=by
 refine pcall_of hm Tryz.func230 rfl (by kernel_rfl) (by rw [Tryz.ntmps230]; exact Nat.le_of_ble_eq_true rfl) (lt_cons (lt_i _ _) (lt_cons (lt_i _ _) lt_nil)) (lt_b _ _) ?_
 rw [Tryz.ntmps230,Tryz.results230]
 have hw : IntKind.i64.wrap (-1048576) = -1048576:=by decide
 repeat' (first|simp only [go_sem,↓reduceIte,Nat.reduceLT,Nat.reduceEqDiff,Nat.reduceAdd,reduceCtorEq,imp_self,Int.reduceNeg,Int.reduceSub,hw])
 all_goals rfl
instance (x : Int) : HasC Tryz.prog 230 [.i x,.i 1048576] (.b (decide (-1048576 ≤ x) && decide (x ≤ 1048576))):=⟨c_within x⟩
theorem c_vcount (k r : Int) (ps : List (Int × Int)) (hl : ps.length ≤ maxLen) : PCall Tryz.prog 204 [.agg [.i k,.i r,.sl (ps.map ev)]] (.b (vcount k ps.length)):=by
 refine pcall_of hm Tryz.func204 rfl (by kernel_rfl) (by rw [Tryz.ntmps204]; exact Nat.le_of_ble_eq_true rfl) (lt_cons (lt_agg (lt_cons (lt_i _ _) (lt_cons (lt_i _ _) (lt_cons (lt_vs _ _) lt_nil)))) lt_nil) (lt_b _ _) ?_
 rw [Tryz.ntmps204,Tryz.results204]
 repeat' (first|simp only [go_sem,↓reduceIte,Nat.reduceLT,Nat.reduceEqDiff,Nat.reduceAdd,Nat.reduceLeDiff,reduceCtorEq,imp_self,List.length_map,true_and,and_true]|refine acond_split (fun _=>?_) (fun _=>?_))
 all_goals (try simp only [decide_eq_true_eq,decide_eq_false_iff_not] at *)
 all_goals (refine leaf_b ?_; unfold vcount; simp only [*,↓reduceIte,Int.reduceEq])
theorem c_rvcount (k r : Int) (ps : List (Int × Int)) (hl : ps.length ≤ maxLen) : PCall Tryz.prog 229 [.agg [.i k,.i r,.sl (ps.map ev)]] (.b (vcountR k ps.length)):=by
 refine pcall_of hm Tryz.func229 rfl (by kernel_rfl) (by rw [Tryz.ntmps229]; exact Nat.le_of_ble_eq_true rfl) (lt_cons (lt_agg (lt_cons (lt_i _ _) (lt_cons (lt_i _ _) (lt_cons (lt_vs _ _) lt_nil)))) lt_nil) (lt_b _ _) ?_
 rw [Tryz.ntmps229,Tryz.results229]
 repeat' (first|simp only [go_sem,↓reduceIte,Nat.reduceLT,Nat.reduceEqDiff,Nat.reduceAdd,Nat.reduceLeDiff,reduceCtorEq,imp_self,List.length_map,true_and,and_true]|refine acond_split (fun _=>?_) (fun _=>?_))
 all_goals (try simp only [decide_eq_true_eq,decide_eq_false_iff_not] at *)
 all_goals (refine leaf_b ?_; unfold vcountR; simp only [*,↓reduceIte])
theorem c_val1 (x y : Int) : PCall Tryz.prog 206 [.agg [.i x,.i y]] (.b (oor x || oor y)):=by
 refine pcall_of hm Tryz.func206 rfl (by kernel_rfl) (by rw [Tryz.ntmps206]; exact Nat.le_of_ble_eq_true rfl) (lt_cons (lt_agg (lt_cons (lt_i _ _) (lt_cons (lt_i _ _) lt_nil))) lt_nil) (lt_b _ _) ?_
 rw [Tryz.ntmps206,Tryz.results206]
 repeat' (first|simp only [go_sem,↓reduceIte,Nat.reduceLT,Nat.reduceEqDiff,Nat.reduceAdd,Nat.reduceLeDiff,reduceCtorEq,Bool.not_eq_true',imp_self]|refine cst_go ?_|refine gcst_go ?_)
 all_goals rfl
instance (x y : Int) : HasC Tryz.prog 206 [.agg [.i x,.i y]] (.b (oor x || oor y)):=⟨c_val1 x y⟩
theorem c_ixf (fid : Nat) (p : Int → Int → Bool) (hf : ∀ x y,PCall Tryz.prog fid [.agg [.i x,.i y]] (.b (p x y))) (ps : List (Int × Int)) (hl : ps.length ≤ maxLen) : PCall Tryz.prog 287 [.sl (ps.map ev),.clo fid []] (.i (fidx ps.length fun i=>!p (vx ps i) (vy ps i))):=by
 refine pcall_of hm Tryz.func287 rfl (by kernel_rfl) (by rw [Tryz.ntmps287]; exact Nat.le_of_ble_eq_true rfl) (lt_cons (lt_vs _ _) (lt_cons (.clo _ _ lt_nil) lt_nil)) (lt_i _ _) ?_
 rw [Tryz.ntmps287,Tryz.results287]
 repeat' (first|simp only [go_sem,↓reduceIte,Nat.reduceLT,Nat.reduceAdd,reduceCtorEq,Int.reduceNeg,List.length_map,true_and])
 refine tr_loop hm (ST:=fun x : LS ps.length (fun i=>!p (vx ps i) (vy ps i))=>[(8,.i x.i),(7,.i ps.length),(1,.clo fid []),(0,.sl (ps.map ev))]) (SH:=fun _=>[]) 0 (fun x=>ps.length - x.i) (LS.start _ _) ?_ ?_
 ·exact wk_go (Nat.le_refl _) (tw_cons rfl (lt_i _ _) (tw_cons rfl (lt_i _ _) (tw_cons rfl (.clo _ _ lt_nil) (tw_cons rfl (lt_vs _ _) tw_nil)))) hw_nil
 ·rintro ⟨i,hi,h⟩
  by_cases hlt : i < ps.length
  ·have e1:=ilt hlt
   have e2:=isucc hlt hl
   have e3:=ev_getD hlt
   repeat' (first|simp only [go_sem,↓reduceIte,Nat.reduceLT,Nat.reduceEqDiff,Nat.reduceAdd,Nat.reduceLeDiff,reduceCtorEq,imp_self,Int.reduceNeg,decide_true,acond_tt,icast,inn,List.length_map,true_and,and_true,e1,e3])
   refine cst_pure (hf _ _) ?_
   repeat' (first|simp only [go_sem,↓reduceIte,Nat.reduceLT,Nat.reduceEqDiff,Nat.reduceAdd,Int.reduceNeg,true_and,and_true,e2]|refine acond_split (fun _=>?_) (fun _=>?_))
   ·rename_i hc
    exact leaf_i (fidx_hit hlt h (by simpa using hc)).symm
   ·rename_i hc
    exact ⟨LS.next hlt h (by simpa using hc),Nat.sub_lt_sub_left hlt (Nat.lt_succ_self _),wk_go (by decide) (tw_cons rfl (lt_i _ _) (tw_cons rfl (lt_i _ _) (tw_cons rfl (.clo _ _ lt_nil) (tw_cons rfl (lt_vs _ _) tw_nil)))) hw_nil⟩
  ·have e1:=inlt hlt
   repeat' (first|simp only [go_sem,↓reduceIte,Nat.reduceLT,Nat.reduceEqDiff,Nat.reduceAdd,Int.reduceNeg,decide_false,acond_ff,true_and,and_true,e1])
   exact leaf_i (fidx_none hlt hi h).symm
theorem c_ctf (fid : Nat) (p : Int → Int → Bool) (hf : ∀ x y,PCall Tryz.prog fid [.agg [.i x,.i y]] (.b (p x y))) (ps : List (Int × Int)) (hl : ps.length ≤ maxLen) : PCall Tryz.prog 205 [.sl (ps.map ev),.clo fid []] (.b (!(List.range ps.length).all fun i=>!p (vx ps i) (vy ps i))):=by
 refine pcall_of hm Tryz.func205 rfl (by kernel_rfl) (by rw [Tryz.ntmps205]; exact Nat.le_of_ble_eq_true rfl) (lt_cons (lt_vs _ _) (lt_cons (.clo _ _ lt_nil) lt_nil)) (lt_b _ _) ?_
 rw [Tryz.ntmps205,Tryz.results205]
 repeat' (first|simp only [go_sem,↓reduceIte,Nat.reduceLT,Nat.reduceEqDiff,Nat.reduceAdd,reduceCtorEq,true_and,and_true])
 refine cst_pure (c_ixf fid p hf ps hl) ?_
 repeat' (first|simp only [go_sem,↓reduceIte,Nat.reduceLT,Nat.reduceAdd,true_and,and_true])
 exact leaf_b (fidx_neg _ _)
theorem c_sval (k r : Int) (ps : List (Int × Int)) (hl : ps.length ≤ maxLen) : PCall Tryz.prog 135 [.agg [.i k,.i r,.sl (ps.map ev)]] (.i (sval k r ps)):=by
 refine pcall_of hm Tryz.func135 rfl (by kernel_rfl) (by rw [Tryz.ntmps135]; exact Nat.le_of_ble_eq_true rfl) (lt_cons (lt_agg (lt_cons (lt_i _ _) (lt_cons (lt_i _ _) (lt_cons (lt_vs _ _) lt_nil)))) lt_nil) (lt_i _ _) ?_
 rw [Tryz.ntmps135,Tryz.results135]
 have q1:=c_vcount k r ps hl
 have i1 : HasC Tryz.prog 204 [.agg [.i k,.i r,.sl (ps.map ev)]] (.b (vcount k ps.length)):=⟨q1⟩
 have q2:=c_ctf 206 (fun x y=>oor x || oor y) c_val1 ps hl
 simp only [oor_inr,Bool.not_not] at q2
 have i2 : HasC Tryz.prog 205 [.sl (ps.map ev),.clo 206 []] (.b (!allIR ps)):=⟨q2⟩
 have q3:=c_convex ps hl
 have i3 : HasC Tryz.prog 209 [.sl (ps.map ev)] (.b (convex ps)):=⟨q3⟩
 have q4:=c_short ps hl
 have i4 : HasC Tryz.prog 210 [.sl (ps.map ev)] (.i (shortest ps)):=⟨q4⟩
 have q5:=c_area ps hl
 have i5 : HasC Tryz.prog 211 [.sl (ps.map ev)] (.i (area ps)):=⟨q5⟩
 by_cases hk : k = 2
 ·subst hk
  by_cases hn : ps.length = 2
  ·have e1:=ev_getD (ps:=ps) (i:=0) (by omega)
   have e2:=ev_getD (ps:=ps) (i:=1) (by omega)
   have e3 : ((0 : Int) < (ps.length : Int)) = True:=eq_true (by omega)
   have e4 : ((1 : Int) < (ps.length : Int)) = True:=eq_true (by omega)
   repeat' (first|simp only [go_sem,↓reduceIte,Nat.reduceLT,Nat.reduceEqDiff,Nat.reduceAdd,Nat.reduceLeDiff,reduceCtorEq,Bool.not_eq_true',imp_self,Int.reduceLT,Int.reduceLE,Int.reduceEq,decide_true,decide_false,acond_ff,Int.reduceToNat,forall_and,List.length_map,true_and,and_true,e1,e2,e3,e4]|refine cst_go ?_|refine gcst_go ?_|(refine regOk_go ?_; kernel_rfl)|refine acond_split (fun _=>?_) (fun _=>?_)|refine And.intro ?_ ?_)
   all_goals (clear i1 i2 i3 i4 i5 q1 q2 q3 q4 q5; first|(refine leaf_i ?_; unfold sval sradB scapB spolB; simp_all; done)|(simp_all; done)|(refine leaf_i ?_; unfold sval sradB scapB spolB; (repeat' split) <;> simp_all <;> omega))
  ·have e1 : vcount 2 (ps.length : Int) = false:=by unfold vcount; simp; omega
   repeat' (first|simp only [go_sem,↓reduceIte,Nat.reduceLT,Nat.reduceEqDiff,Nat.reduceAdd,Nat.reduceLeDiff,reduceCtorEq,imp_self,Int.reduceLT,decide_false,acond_tt,acond_ff,true_and,and_true,e1]|refine cst_go ?_)
   all_goals (clear i1 i2 i3 i4 i5 q1 q2 q3 q4 q5; first|(refine leaf_i ?_; unfold sval sradB scapB spolB; simp_all; done)|(simp_all; done)|(refine leaf_i ?_; unfold sval sradB scapB spolB; (repeat' split) <;> simp_all <;> omega))
 ·have e1 : (k = 2) = False:=eq_false hk
  repeat' (first|simp only [go_sem,↓reduceIte,Nat.reduceLT,Nat.reduceEqDiff,Nat.reduceAdd,Nat.reduceLeDiff,reduceCtorEq,Bool.not_eq_true',imp_self,Int.reduceLE,decide_false,Int.reduceToNat,forall_and,List.length_map,true_and,and_true,e1]|refine cst_go ?_|refine gcst_go ?_|refine gcst_dead ?_|(refine regOk_go ?_; kernel_rfl)|refine acond_split (fun _=>?_) (fun _=>?_)|refine And.intro ?_ ?_|(intro (_ : _ = _)))
  all_goals (clear i1 i2 i3 i4 i5 q1 q2 q3 q4 q5; first|(refine leaf_i ?_; unfold sval sradB scapB spolB; simp_all; done)|(simp_all; done)|(refine leaf_i ?_; unfold sval sradB scapB spolB; (repeat' split) <;> simp_all <;> omega))
end Go.Proofs.YtplmagdbnbijlaaGreat
/-
 What the functions of chapter 12 compute,second part. Conditions: none.
-/
namespace Go.Proofs.YtplmagdbnbijlaaGreat
open Go.RowKit Go.AL Go.Carom
theorem c_rval (k r : Int) (ps : List (Int × Int)) (hl : ps.length ≤ maxLen) : PCall Tryz.prog 151 [.agg [.i k,.i r,.sl (ps.map ev)]] (.i (sval k r ps)):=by
 refine pcall_of hm Tryz.func151 rfl (by kernel_rfl) (by rw [Tryz.ntmps151]; exact Nat.le_of_ble_eq_true rfl) (lt_cons (lt_agg (lt_cons (lt_i _ _) (lt_cons (lt_i _ _) (lt_cons (lt_vs _ _) lt_nil)))) lt_nil) (lt_i _ _) ?_
 rw [Tryz.ntmps151,Tryz.results151]
 have q1:=c_rvcount k r ps hl
 have q3:=c_rconvex ps hl
 have q4:=c_rshort ps hl
 have q5:=c_rarea ps hl
 have i1 : HasC Tryz.prog 229 [.agg [.i k,.i r,.sl (ps.map ev)]] (.b (vcountR k ps.length)):=⟨q1⟩
 have i3 : HasC Tryz.prog 232 [.sl (ps.map ev)] (.b (convex ps)):=⟨q3⟩
 have i4 : HasC Tryz.prog 233 [.sl (ps.map ev)] (.i (shortest ps)):=⟨q4⟩
 have i5 : HasC Tryz.prog 234 [.sl (ps.map ev)] (.i (area ps)):=⟨q5⟩
 by_cases hk : k = 2
 ·subst hk
  have hv2 : vcountR 2 (ps.length : Int) = vcount 2 (ps.length : Int):=vcount_eq (by omega) (by omega)
  by_cases hn : ps.length = 2
  ·have g1:=ev_getD (ps:=ps) (i:=0) (by omega)
   have g2:=ev_getD (ps:=ps) (i:=1) (by omega)
   have g3 : ((0 : Int) < (ps.length : Int)) = True:=eq_true (by omega)
   have g4 : ((1 : Int) < (ps.length : Int)) = True:=eq_true (by omega)
   repeat' (first|simp only [go_sem,↓reduceIte,Nat.reduceLT,Nat.reduceEqDiff,Nat.reduceAdd,Nat.reduceLeDiff,reduceCtorEq,imp_self,Int.reduceLT,decide_false,acond_ff,true_and,and_true,Bool.false_and]|refine cst_go ?_|refine acond_split (fun _=>?_) (fun _=>?_))
   all_goals (clear q1 q3 q4 q5; try simp only [Bool.not_eq_true',Bool.not_eq_false'] at *)
   all_goals (try (first|(refine leaf_i ?_; unfold sval sradB scapB spolB; simp_all; done)|(refine leaf_i ?_; unfold sval sradB scapB spolB; (repeat' split) <;> simp_all <;> omega)))
   refine tr_lp hm [1] [0] (fun x : LS ps.length (fun i=>inr (vx ps i) (vy ps i))=>[(3,.i x.i)]) (fun x : LS ps.length (fun i=>inr (vx ps i) (vy ps i))=>[]) (fun x=>ps.length - x.i) (LS.start _ _) ?_ ?_ ?_
   ·repeat' (first|exact tw_nil|refine tw_cons rfl ?_ ?_|exact lt_i _ _|exact Lt.pt _ _ (by decide))
   ·repeat' (first|exact hw_nil|refine hw_cons (by decide) rfl bwk_rfl ?_ ?_|exact lt_i _ _|exact lt_vs _ _|refine lt_agg ?_|exact lt_nil|refine lt_cons ?_ ?_)
   ·rintro ⟨i,hi,h⟩
    by_cases hlt : i < ps.length
    ·have e1:=ilt hlt
     have e2:=isucc hlt hl
     have e3:=ev_getD hlt
     have e4:=within_inr (vx ps i) (vy ps i)
     repeat' (first|simp only [go_sem,↓reduceIte,Nat.reduceLT,Nat.reduceEqDiff,Nat.reduceAdd,Nat.reduceLeDiff,reduceCtorEq,Bool.not_eq_true',imp_self,Int.reduceNeg,decide_true,acond_tt,icast,inn,List.length_map,true_and,and_true,e1,e2,e3]|refine cst_go ?_|refine gcst_go ?_|refine acond_split (fun _=>?_) (fun _=>?_))
     ·rename_i hc
      rw [e4] at hc
      have hir : allIR ps = false:=LS.fail hlt (by simpa using hc)
      clear i1 i3 i4 i5
      simp only [Bool.not_eq_true'] at *
      (first|(refine leaf_i ?_; unfold sval sradB scapB spolB; simp_all; done)|(refine leaf_i ?_; unfold sval sradB scapB spolB; (repeat' split) <;> simp_all <;> omega))
     ·rename_i hc
      rw [e4] at hc
      refine ⟨LS.next hlt h (by simpa using hc),Nat.sub_lt_sub_left hlt (Nat.lt_succ_self _),wk_go (by decide) ?_ ?_⟩
      ·repeat' (first|exact tw_nil|refine tw_cons rfl ?_ ?_|exact lt_i _ _|exact Lt.pt _ _ (by decide))
      ·repeat' (first|exact hw_nil|refine hw_cons (by decide) rfl bwk_rfl ?_ ?_|exact lt_i _ _|exact lt_vs _ _|refine lt_agg ?_|exact lt_nil|refine lt_cons ?_ ?_)
    ·have f1:=inlt hlt
     have hir : allIR ps = true:=LS.done hlt h
     repeat' (first|simp only [go_sem,↓reduceIte,Nat.reduceLT,Nat.reduceEqDiff,Nat.reduceAdd,Nat.reduceLeDiff,reduceCtorEq,Bool.not_eq_true',imp_self,Int.reduceLE,Int.reduceEq,decide_true,decide_false,acond_ff,Int.reduceToNat,forall_and,List.length_map,true_and,and_true,Bool.false_and,f1,g1,g2,g3,g4]|refine gcst_go ?_|(refine regOk_go ?_; kernel_rfl)|refine acond_split (fun _=>?_) (fun _=>?_)|refine And.intro ?_ ?_)
     all_goals (clear i1 i3 i4 i5 f1 h hlt; try simp only [decide_eq_true_eq,decide_eq_false_iff_not,Bool.or_eq_true,Bool.or_eq_false_iff] at *)
     all_goals (first|(first|(refine leaf_i ?_; unfold sval sradB scapB spolB; simp_all; done)|(refine leaf_i ?_; unfold sval sradB scapB spolB; (repeat' split) <;> simp_all <;> omega))|(refine leaf_i ?_; by_cases h3 : k = 3 <;> (unfold sval sradB scapB spolB; simp_all <;> omega))|(simp_all; done))
  ·have hv3 : vcountR 2 (ps.length : Int) = false:=by unfold vcountR; simp; omega
   repeat' (first|simp only [go_sem,↓reduceIte,Nat.reduceLT,Nat.reduceEqDiff,Nat.reduceAdd,Nat.reduceLeDiff,reduceCtorEq,imp_self,Int.reduceLT,decide_false,acond_tt,acond_ff,true_and,and_true,Bool.false_and,hv3]|refine cst_go ?_)
   all_goals (clear q1 q3 q4 q5 i1 i3 i4 i5; try simp only [decide_eq_true_eq,decide_eq_false_iff_not,Bool.or_eq_true,Bool.or_eq_false_iff,Bool.and_eq_true,Bool.and_eq_false_iff,Bool.not_eq_true',Bool.not_eq_false'] at *)
   all_goals (first|(first|(refine leaf_i ?_; unfold sval sradB scapB spolB; simp_all; done)|(refine leaf_i ?_; unfold sval sradB scapB spolB; (repeat' split) <;> simp_all <;> omega))|(refine leaf_i ?_; by_cases h3 : k = 3 <;> (unfold sval sradB scapB spolB; simp_all <;> omega))|(simp_all; done))
 ·have hkf : (k = 2) = False:=eq_false hk
  have hv2 : 1 ≤ k → k ≤ 3 → vcountR k (ps.length : Int) = vcount k (ps.length : Int):=vcount_eq
  repeat' (first|simp only [go_sem,↓reduceIte,Nat.reduceLT,Nat.reduceEqDiff,Nat.reduceAdd,Nat.reduceLeDiff,reduceCtorEq,Bool.not_eq_true',imp_self,true_and,and_true]|refine cst_go ?_|refine acond_split (fun _=>?_) (fun _=>?_))
  all_goals (clear q1 q3 q4 q5; try simp only [decide_eq_true_eq,decide_eq_false_iff_not,Bool.or_eq_true,Bool.or_eq_false_iff,Bool.not_eq_true',Bool.not_eq_false'] at *)
  all_goals (try (first|(refine leaf_i ?_; unfold sval sradB scapB spolB; simp_all; done)|(refine leaf_i ?_; unfold sval sradB scapB spolB; (repeat' split) <;> simp_all <;> omega)))
  refine tr_lp hm [1] [0] (fun x : LS ps.length (fun i=>inr (vx ps i) (vy ps i))=>[(3,.i x.i)]) (fun x : LS ps.length (fun i=>inr (vx ps i) (vy ps i))=>[]) (fun x=>ps.length - x.i) (LS.start _ _) ?_ ?_ ?_
  ·repeat' (first|exact tw_nil|refine tw_cons rfl ?_ ?_|exact lt_i _ _|exact Lt.pt _ _ (by decide))
  ·repeat' (first|exact hw_nil|refine hw_cons (by decide) rfl bwk_rfl ?_ ?_|exact lt_i _ _|exact lt_vs _ _|refine lt_agg ?_|exact lt_nil|refine lt_cons ?_ ?_)
  ·rintro ⟨i,hi,h⟩
   by_cases hlt : i < ps.length
   ·have e1:=ilt hlt
    have e2:=isucc hlt hl
    have e3:=ev_getD hlt
    have e4:=within_inr (vx ps i) (vy ps i)
    repeat' (first|simp only [go_sem,↓reduceIte,Nat.reduceLT,Nat.reduceEqDiff,Nat.reduceAdd,Nat.reduceLeDiff,reduceCtorEq,Bool.not_eq_true',imp_self,Int.reduceNeg,decide_true,acond_tt,icast,inn,List.length_map,true_and,and_true,e1,e2,e3]|refine cst_go ?_|refine gcst_go ?_|refine acond_split (fun _=>?_) (fun _=>?_))
    ·rename_i hc
     rw [e4] at hc
     have hir : allIR ps = false:=LS.fail hlt (by simpa using hc)
     clear i1 i3 i4 i5
     simp only [Bool.not_eq_true'] at *
     (first|(refine leaf_i ?_; unfold sval sradB scapB spolB; simp_all; done)|(refine leaf_i ?_; unfold sval sradB scapB spolB; (repeat' split) <;> simp_all <;> omega))
    ·rename_i hc
     rw [e4] at hc
     refine ⟨LS.next hlt h (by simpa using hc),Nat.sub_lt_sub_left hlt (Nat.lt_succ_self _),wk_go (by decide) ?_ ?_⟩
     ·repeat' (first|exact tw_nil|refine tw_cons rfl ?_ ?_|exact lt_i _ _|exact Lt.pt _ _ (by decide))
     ·repeat' (first|exact hw_nil|refine hw_cons (by decide) rfl bwk_rfl ?_ ?_|exact lt_i _ _|exact lt_vs _ _|refine lt_agg ?_|exact lt_nil|refine lt_cons ?_ ?_)
   ·have f1:=inlt hlt
    have hir : allIR ps = true:=LS.done hlt h
    repeat' (first|simp only [go_sem,↓reduceIte,Nat.reduceLT,Nat.reduceEqDiff,Nat.reduceAdd,Nat.reduceLeDiff,reduceCtorEq,Bool.not_eq_true',imp_self,Int.reduceLE,decide_false,acond_ff,Int.reduceToNat,forall_and,List.length_map,true_and,and_true,Bool.false_and,f1,hkf]|refine gcst_go ?_|refine gcst_dead ?_|(refine regOk_go ?_; kernel_rfl)|refine acond_split (fun _=>?_) (fun _=>?_)|refine And.intro ?_ ?_|(intro (_ : _ = _)))
    all_goals (clear i1 i3 i4 i5 f1 h hlt; try simp only [decide_eq_true_eq,decide_eq_false_iff_not,Bool.or_eq_true,Bool.or_eq_false_iff,Bool.and_eq_true,Bool.and_eq_false_iff,Bool.not_eq_true',Bool.not_eq_false'] at *)
    all_goals (first|(first|(refine leaf_i ?_; unfold sval sradB scapB spolB; simp_all; done)|(refine leaf_i ?_; unfold sval sradB scapB spolB; (repeat' split) <;> simp_all <;> omega))|(refine leaf_i ?_; by_cases h3 : k = 3 <;> (unfold sval sradB scapB spolB; simp_all <;> omega))|(simp_all; done))
theorem c_vert (k r : Int) (ps : List (Int × Int)) (hl : ps.length ≤ maxLen) (px py a : Int) : PCall Tryz.prog 136 [.agg [.i k,.i r,.sl (ps.map ev)],.agg [.i px,.i py,.i a]] (.sl ((core k r ps px py a).map ev)):=by
 refine pcall_of hm Tryz.func136 rfl (by kernel_rfl) (by rw [Tryz.ntmps136]; exact Nat.le_of_ble_eq_true rfl) (lt_cons (lt_agg (lt_cons (lt_i _ _) (lt_cons (lt_i _ _) (lt_cons (lt_vs _ _) lt_nil)))) (lt_cons (lt_agg (lt_cons (lt_i _ _) (lt_cons (lt_i _ _) (lt_cons (lt_i _ _) lt_nil)))) lt_nil)) (lt_vs _ _) ?_
 rw [Tryz.ntmps136,Tryz.results136]
 have q1:=c_sval k r ps hl
 have i1 : HasC Tryz.prog 135 [.agg [.i k,.i r,.sl (ps.map ev)]] (.i (sval k r ps)):=⟨q1⟩
 repeat' (first|simp only [go_sem,↓reduceIte,Nat.reduceLT,Nat.reduceEqDiff,Nat.reduceAdd,Nat.reduceLeDiff,reduceCtorEq,imp_self,List.length_map,true_and,and_true]|refine cst_go ?_|refine acond_split (fun _=>?_) (fun _=>?_))
 ·rename_i hc
  rw [core_no (by simpa using hc)]
  rfl
 ·rename_i hc
  have hv : sval k r ps = 0:=by simpa using hc
  have hp:=(sval_ok hv).pos
  rw [core_if hv]
  refine tr_lp hm [3,12,13] [0,1] (fun x : Fs ps.length=>[(5,.ow 3 x.i),(14,.i x.i)]) (fun x : Fs ps.length=>[(3,.row 46 2 x.i (((ps.take x.i).map (tp px py a)).map ev))]) (fun x=>ps.length - x.i) (Fs.start _) ?_ ?_ ?_
  ·repeat' (first|exact tw_nil|refine tw_cons rfl ?_ ?_|exact lt_i _ _|exact Lt.pt _ _ (by decide)|exact Lt.ow _ _ (by decide)|exact lt_vs _ _)
  ·repeat' (first|exact hw_nil|refine hw_cons (by decide) rfl bwk_rfl ?_ ?_|refine hw_cons (by decide) rfl (.inr ⟨rfl,_,_,rfl⟩) ?_ ?_|exact lt_i _ _|exact lt_vs _ _|refine lt_agg ?_|exact lt_nil|refine lt_cons ?_ ?_)
  ·rintro ⟨i,hi⟩
   by_cases hlt : i < ps.length
   ·have e1:=ilt hlt
    have e2:=isucc hlt hl
    have e3:=ev_getD hlt
    have e4 : (ps.take i).length = i:=by simp; omega
    repeat' (first|simp only [go_sem,↓reduceIte,Nat.reduceLT,Nat.reduceEqDiff,Nat.reduceAdd,Nat.reduceLeDiff,Nat.reduceMul,reduceCtorEq,imp_self,decide_true,acond_tt,List.range_zero,List.range_succ,List.replicate_succ,List.replicate_zero,List.flatten_cons,List.flatten_nil,List.all_cons,List.all_nil,forall_and,icast,inn,List.length_map,true_and,and_true,e1,e2,e3,e4,List.length_map]|refine cst_go ?_|refine And.intro ?_ ?_)
    all_goals (try omega)
    refine ⟨Fs.next hlt,Nat.sub_lt_sub_left hlt (Nat.lt_succ_self _),wk_go (by decide) ?_ ?_⟩
    ·repeat' (first|exact tw_nil|refine tw_cons rfl ?_ ?_|exact lt_i _ _|exact Lt.pt _ _ (by decide)|exact Lt.ow _ _ (by decide)|exact lt_vs _ _)
    ·repeat' (first|exact hw_nil|refine hw_cons (by decide) rfl bwk_rfl ?_ ?_|refine hw_cons (by decide) ?_ bwk_rfl ?_ ?_|exact lt_i _ _|exact lt_vs _ _|exact lt_ev _ _|refine lt_agg ?_|exact lt_nil|refine lt_cons ?_ ?_|refine lt_map (fun _=>?_))
     all_goals (show some (ABox.row _ _ _ _) = some (ABox.row _ _ _ _); rw [show (Fs.next hlt).i = i + 1 from rfl,take_map_succ hlt,List.map_append,ps_get hlt]; rfl)
   ·have f1:=inlt hlt
    have hii : i = ps.length:=by omega
    subst hii
    repeat' (first|simp only [go_sem,↓reduceIte,Nat.reduceLT,Nat.reduceEqDiff,Nat.reduceAdd,reduceCtorEq,decide_false,acond_ff,true_and,and_true,f1])
    all_goals (rw [List.take_length])
theorem c_rvert (k r : Int) (ps : List (Int × Int)) (hl : ps.length ≤ maxLen) (px py a : Int) : PCall Tryz.prog 152 [.agg [.i k,.i r,.sl (ps.map ev)],.agg [.i px,.i py,.i a]] (.sl ((core k r ps px py a).map ev)):=by
 refine pcall_of hm Tryz.func152 rfl (by kernel_rfl) (by rw [Tryz.ntmps152]; exact Nat.le_of_ble_eq_true rfl) (lt_cons (lt_agg (lt_cons (lt_i _ _) (lt_cons (lt_i _ _) (lt_cons (lt_vs _ _) lt_nil)))) (lt_cons (lt_agg (lt_cons (lt_i _ _) (lt_cons (lt_i _ _) (lt_cons (lt_i _ _) lt_nil)))) lt_nil)) (lt_vs _ _) ?_
 rw [Tryz.ntmps152,Tryz.results152]
 have q1:=c_rval k r ps hl
 have i1 : HasC Tryz.prog 151 [.agg [.i k,.i r,.sl (ps.map ev)]] (.i (sval k r ps)):=⟨q1⟩
 repeat' (first|simp only [go_sem,↓reduceIte,Nat.reduceLT,Nat.reduceEqDiff,Nat.reduceAdd,Nat.reduceLeDiff,reduceCtorEq,imp_self,true_and,and_true]|refine cst_go ?_|refine acond_split (fun _=>?_) (fun _=>?_))
 ·rename_i hc
  rw [core_no (by simpa using hc)]
  rfl
 ·rename_i hc
  have hv : sval k r ps = 0:=by simpa using hc
  have hp:=(sval_ok hv).pos
  rw [core_if hv]
  refine tr_lp hm [2,3] [0,1] (fun x : Fs ps.length=>[(5,.ow 3 x.i),(6,.i x.i)]) (fun x : Fs ps.length=>[(3,.row 46 2 x.i (((ps.take x.i).map (tp px py a)).map ev))]) (fun x=>ps.length - x.i) (Fs.start _) ?_ ?_ ?_
  ·repeat' (first|exact tw_nil|refine tw_cons rfl ?_ ?_|exact lt_i _ _|exact Lt.pt _ _ (by decide)|exact Lt.ow _ _ (by decide))
  ·repeat' (first|exact hw_nil|refine hw_cons (by decide) rfl bwk_rfl ?_ ?_|refine hw_cons (by decide) rfl (.inr ⟨rfl,_,_,rfl⟩) ?_ ?_|exact lt_i _ _|exact lt_vs _ _|refine lt_agg ?_|exact lt_nil|refine lt_cons ?_ ?_)
  ·rintro ⟨i,hi⟩
   by_cases hlt : i < ps.length
   ·have e1:=ilt hlt
    have e2:=isucc hlt hl
    have e3:=ev_getD hlt
    have e4 : (ps.take i).length = i:=by simp; omega
    repeat' (first|simp only [go_sem,↓reduceIte,Nat.reduceLT,Nat.reduceEqDiff,Nat.reduceAdd,Nat.reduceLeDiff,Nat.reduceMul,reduceCtorEq,imp_self,decide_true,acond_tt,List.range_zero,List.range_succ,List.replicate_succ,List.replicate_zero,List.flatten_cons,List.flatten_nil,List.all_cons,List.all_nil,forall_and,icast,inn,List.length_map,true_and,and_true,e1,e2,e3,e4,List.length_map]|refine cst_go ?_|(refine regOk_go ?_; kernel_rfl)|refine And.intro ?_ ?_)
    all_goals (try omega)
    refine ⟨Fs.next hlt,Nat.sub_lt_sub_left hlt (Nat.lt_succ_self _),wk_go (by decide) ?_ ?_⟩
    ·repeat' (first|exact tw_nil|refine tw_cons rfl ?_ ?_|exact lt_i _ _|exact Lt.pt _ _ (by decide)|exact Lt.ow _ _ (by decide))
    ·repeat' (first|exact hw_nil|refine hw_cons (by decide) rfl bwk_rfl ?_ ?_|refine hw_cons (by decide) ?_ bwk_rfl ?_ ?_|exact lt_i _ _|exact lt_vs _ _|exact lt_ev _ _|refine lt_agg ?_|exact lt_nil|refine lt_cons ?_ ?_|refine lt_map (fun _=>?_))
     all_goals (show some (ABox.row _ _ _ _) = some (ABox.row _ _ _ _); rw [show (Fs.next hlt).i = i + 1 from rfl,take_map_succ hlt,List.map_append,ps_get hlt]; rfl)
   ·have f1:=inlt hlt
    have hii : i = ps.length:=by omega
    subst hii
    repeat' (first|simp only [go_sem,↓reduceIte,Nat.reduceLT,Nat.reduceEqDiff,Nat.reduceAdd,Nat.reduceLeDiff,reduceCtorEq,imp_self,decide_false,acond_ff,List.length_map,true_and,and_true,f1])
    all_goals (rw [List.take_length])
end Go.Proofs.YtplmagdbnbijlaaGreat
/-
 What the functions of chapter 12 compute,third part. Conditions: none.
-/
namespace Go.Proofs.YtplmagdbnbijlaaGreat
open Go.RowKit Go.AL Go.Carom
theorem c_bexp (x y u v m : Int) : PCall Tryz.prog 118 [.agg [.i x,.i y,.i u,.i v],.i m] (.agg [.i (bexp x y u v m).a,.i (bexp x y u v m).b,.i (bexp x y u v m).c,.i (bexp x y u v m).d]):=by
 refine pcall_of hm Tryz.func118 rfl (by kernel_rfl) (by rw [Tryz.ntmps118]; exact Nat.le_of_ble_eq_true rfl) (lt_cons (lt_agg (lt_cons (lt_i _ _) (lt_cons (lt_i _ _) (lt_cons (lt_i _ _) (lt_cons (lt_i _ _) lt_nil))))) (lt_cons (lt_i _ _) lt_nil)) (lt_agg (lt_cons (lt_i _ _) (lt_cons (lt_i _ _) (lt_cons (lt_i _ _) (lt_cons (lt_i _ _) lt_nil))))) ?_
 rw [Tryz.ntmps118,Tryz.results118]
 repeat' (first|simp only [go_sem,↓reduceIte,Nat.reduceLT,Nat.reduceEqDiff,Nat.reduceAdd,Nat.reduceLeDiff,reduceCtorEq,imp_self,true_and,and_true]|refine cst_go ?_|(refine regOk_go ?_; kernel_rfl)|refine acond_split (fun _=>?_) (fun _=>?_)|refine And.intro ?_ ?_)
 all_goals (try simp only [Bool.not_eq_true',Bool.not_eq_false'] at *)
 all_goals (unfold bexp; simp only [*,Bool.not_true,Bool.not_false,↓reduceIte,Bool.false_eq_true])
instance (x y u v m : Int) : HasC Tryz.prog 118 [.agg [.i x,.i y,.i u,.i v],.i m] (.agg [.i (bexp x y u v m).a,.i (bexp x y u v m).b,.i (bexp x y u v m).c,.i (bexp x y u v m).d]):=⟨c_bexp x y u v m⟩
theorem c_fromp0  : PCall Tryz.prog 181 [.sl []] (.tup [.agg [.i 0,.i 0,.i 0,.i 0],.b false]):=by
 refine pcall_of hm Tryz.func181 rfl (by kernel_rfl) (by rw [Tryz.ntmps181]; exact Nat.le_of_ble_eq_true rfl) (lt_cons (.sl _ lt_nil) lt_nil) (lt_tup (lt_cons (lt_agg (lt_cons (lt_i _ _) (lt_cons (lt_i _ _) (lt_cons (lt_i _ _) (lt_cons (lt_i _ _) lt_nil))))) (lt_cons (lt_b _ _) lt_nil))) ?_
 rw [Tryz.ntmps181,Tryz.results181]
 have k00 : ((0 : Nat) : Int) = 0:=rfl
 repeat' (first|simp only [go_sem,↓reduceIte,Nat.reduceLT,Nat.reduceEqDiff,Nat.reduceAdd,Nat.reduceLeDiff,reduceCtorEq,imp_self,decide_true,acond_tt,and_true,k00])
 all_goals rfl
theorem c_bnds (k r : Int) (ps : List (Int × Int)) (hl : ps.length ≤ maxLen) (px py a : Int) : PCall Tryz.prog 119 [.agg [.i k,.i r,.sl (ps.map ev)],.agg [.i px,.i py,.i a]] (.agg [.i (boxR (core k r ps px py a) r).a,.i (boxR (core k r ps px py a) r).b,.i (boxR (core k r ps px py a) r).c,.i (boxR (core k r ps px py a) r).d]):=by
 refine pcall_of hm Tryz.func119 rfl (by kernel_rfl) (by rw [Tryz.ntmps119]; exact Nat.le_of_ble_eq_true rfl) (lt_cons (lt_agg (lt_cons (lt_i _ _) (lt_cons (lt_i _ _) (lt_cons (lt_vs _ _) lt_nil)))) (lt_cons (lt_agg (lt_cons (lt_i _ _) (lt_cons (lt_i _ _) (lt_cons (lt_i _ _) lt_nil)))) lt_nil)) (lt_agg (lt_cons (lt_i _ _) (lt_cons (lt_i _ _) (lt_cons (lt_i _ _) (lt_cons (lt_i _ _) lt_nil))))) ?_
 rw [Tryz.ntmps119,Tryz.results119]
 have hlen : (core k r ps px py a).length ≤ 8:=core_len
 have hml : (core k r ps px py a).length ≤ maxLen:=by have : maxLen = 9223372036854775807:=rfl; omega
 by_cases h0 : (core k r ps px py a).length = 0
 ·have hb : boxR (core k r ps px py a) r = ⟨0,0,0,0⟩:=if_pos h0
  rw [hb]
  have hc : (core k r ps px py a) = []:=List.eq_nil_of_length_eq_zero h0
  have q1:=c_vert k r ps hl px py a
  rw [hc] at q1
  have i1 : HasC Tryz.prog 136 [.agg [.i k,.i r,.sl (ps.map ev)],.agg [.i px,.i py,.i a]] (.sl []):=⟨q1⟩
  have i2 : HasC Tryz.prog 181 [.sl []] (.tup [.agg [.i 0,.i 0,.i 0,.i 0],.b false]):=⟨c_fromp0⟩
  repeat' (first|simp only [go_sem,↓reduceIte,Nat.reduceLT,Nat.reduceEqDiff,Nat.reduceAdd,Nat.reduceLeDiff,reduceCtorEq,imp_self,acond_tt,true_and,and_true]|refine cst_go ?_)
  all_goals rfl
 ·have hb : boxR (core k r ps px py a) r = _:=if_neg h0
  rw [hb]
  have i1 : HasC Tryz.prog 136 [.agg [.i k,.i r,.sl (ps.map ev)],.agg [.i px,.i py,.i a]] (.sl ((core k r ps px py a).map ev)):=⟨c_vert k r ps hl px py a⟩
  have i2 : HasC Tryz.prog 181 [.sl ((core k r ps px py a).map ev)] _:=⟨c_fromp (core k r ps px py a) hml (by omega)⟩
  repeat' (first|simp only [go_sem,↓reduceIte,Nat.reduceLT,Nat.reduceEqDiff,Nat.reduceAdd,Nat.reduceLeDiff,reduceCtorEq,imp_self,acond_ff,true_and,and_true]|refine cst_go ?_|(refine regOk_go ?_; kernel_rfl))
  all_goals rfl
theorem c_rbnds (k r : Int) (ps : List (Int × Int)) (hl : ps.length ≤ maxLen) (px py a : Int) : PCall Tryz.prog 116 [.agg [.i k,.i r,.sl (ps.map ev)],.agg [.i px,.i py,.i a]] (.agg [.i (boxR (core k r ps px py a) r).a,.i (boxR (core k r ps px py a) r).b,.i (boxR (core k r ps px py a) r).c,.i (boxR (core k r ps px py a) r).d]):=by
 refine pcall_of hm Tryz.func116 rfl (by kernel_rfl) (by rw [Tryz.ntmps116]; exact Nat.le_of_ble_eq_true rfl) (lt_cons (lt_agg (lt_cons (lt_i _ _) (lt_cons (lt_i _ _) (lt_cons (lt_vs _ _) lt_nil)))) (lt_cons (lt_agg (lt_cons (lt_i _ _) (lt_cons (lt_i _ _) (lt_cons (lt_i _ _) lt_nil)))) lt_nil)) (lt_agg (lt_cons (lt_i _ _) (lt_cons (lt_i _ _) (lt_cons (lt_i _ _) (lt_cons (lt_i _ _) lt_nil))))) ?_
 rw [Tryz.ntmps116,Tryz.results116]
 have hlen : (core k r ps px py a).length ≤ 8:=core_len
 have hml : (core k r ps px py a).length ≤ maxLen:=by have : maxLen = 9223372036854775807:=rfl; omega
 have hsat:=core_sat k r ps px py a
 have i1 : HasC Tryz.prog 152 [.agg [.i k,.i r,.sl (ps.map ev)],.agg [.i px,.i py,.i a]] (.sl ((core k r ps px py a).map ev)):=⟨c_rvert k r ps hl px py a⟩
 generalize hcg : (core k r ps px py a) = c at *
 by_cases h0 : c.length = 0
 ·have hb : boxR c r = ⟨0,0,0,0⟩:=if_pos h0
  rw [hb]
  have hc : c = []:=List.eq_nil_of_length_eq_zero h0
  subst hc
  have k00 : ((0 : Nat) : Int) = 0:=rfl
  repeat' (first|simp only [go_sem,↓reduceIte,Nat.reduceLT,Nat.reduceEqDiff,Nat.reduceAdd,Nat.reduceLeDiff,reduceCtorEq,imp_self,decide_true,acond_tt,true_and,and_true,k00]|refine cst_go ?_)
  all_goals rfl
 ·rw [boxR_ref hsat r h0]
  have g1:=ev_getD (ps:=c) (i:=0) (by omega)
  have g2 : ((0 : Int) < (c.length : Int)) = True:=eq_true (by omega)
  have g3 : ((c.length : Int) = 0) = False:=eq_false (by omega)
  repeat' (first|simp only [go_sem,↓reduceIte,Nat.reduceLT,Nat.reduceEqDiff,Nat.reduceAdd,Nat.reduceLeDiff,reduceCtorEq,imp_self,Int.reduceLE,decide_false,acond_ff,Int.reduceToNat,List.length_map,true_and,and_true,g1,g2,g3]|refine cst_go ?_)
  refine tr_lp hm [2,4,5,6,7] [0,2] (fun x : Fs c.length=>[(8,.i x.i)]) (fun x : Fs c.length=>[(3,.var (.agg [.i (loXR c x.i),.i (loYR c x.i)])),(4,.var (.agg [.i (hiXR c x.i),.i (hiYR c x.i)]))]) (fun x=>c.length - x.i) (Fs.start _) ?_ ?_ ?_
  ·repeat' (first|exact tw_nil|refine tw_cons rfl ?_ ?_|exact lt_i _ _|exact Lt.pt _ _ (by decide)|exact lt_vs _ _)
  ·repeat' (first|exact hw_nil|refine hw_cons (by decide) rfl bwk_rfl ?_ ?_|exact lt_i _ _|exact lt_vs _ _|exact lt_ev _ _|refine lt_agg ?_|exact lt_nil|refine lt_cons ?_ ?_)
  ·rintro ⟨i,hi⟩
   by_cases hlt : i < c.length
   ·have e1:=ilt hlt
    have e2:=isucc hlt hml
    have e3:=ev_getD hlt
    repeat' (first|simp only [go_sem,↓reduceIte,Nat.reduceLT,Nat.reduceEqDiff,Nat.reduceAdd,Nat.reduceLeDiff,reduceCtorEq,imp_self,decide_true,acond_tt,icast,inn,List.length_map,true_and,and_true,e1,e2,e3]|(refine regOk_go ?_; kernel_rfl)|refine And.intro ?_ ?_)
    refine ⟨Fs.next hlt,Nat.sub_lt_sub_left hlt (Nat.lt_succ_self _),wk_go (by decide) ?_ ?_⟩
    ·repeat' (first|exact tw_nil|refine tw_cons rfl ?_ ?_|exact lt_i _ _|exact Lt.pt _ _ (by decide)|exact lt_vs _ _)
    ·repeat' (first|exact hw_nil|refine hw_cons (by decide) rfl bwk_rfl ?_ ?_|exact lt_i _ _|exact lt_vs _ _|refine lt_agg ?_|exact lt_nil|refine lt_cons ?_ ?_)
   ·have f1:=inlt hlt
    have hii : i = c.length:=by omega
    subst hii
    repeat' (first|simp only [go_sem,↓reduceIte,Nat.reduceLT,Nat.reduceEqDiff,Nat.reduceAdd,Nat.reduceLeDiff,reduceCtorEq,imp_self,decide_false,acond_ff,List.length_map,true_and,and_true,f1]|refine cst_go ?_|(refine regOk_go ?_; kernel_rfl))
    all_goals rfl
end Go.Proofs.YtplmagdbnbijlaaGreat
