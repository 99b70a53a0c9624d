/-
  What the functions of chapters 14 and 15 compute. Conditions: none.
-/
import Derived.Test.YtplmagdbnbijlaaGreatCA
import Derived.Test.YtplmagdbnbijlaaGreatMB
import Derived.Test.YtplmagdbnbijlaaGreatAlB
import Derived.Outline
import Derived.Test.YtplmagdbnbijlaaGreatCB
import Derived.Test.YtplmagdbnbijlaaGreatAlC
set_option maxHeartbeats 4000000
set_option maxRecDepth 20000
set_option linter.all false
namespace Go.Proofs.YtplmagdbnbijlaaGreat
open Go.RowKit Go.AL Go.Carom
theorem c_sedge (ps : List (Int × Int)) (hl : ps.length ≤ maxLen) (i : Nat) (hi : i < ps.length) (h2 : 2 ≤ ps.length) : PCall Tryz.prog 305 [.sl (ps.map ev),.i i] (.tup [.agg [.i (edgX ps i),.i (edgY ps i)],.b true]):=by
 refine pcall_of hm Tryz.func305 rfl (by kernel_rfl) (by rw [Tryz.ntmps305]; exact Nat.le_of_ble_eq_true rfl) (lt_cons (lt_vs _ _) (lt_cons (lt_i _ _) lt_nil)) (lt_tup (lt_cons (lt_agg (lt_cons (lt_i _ _) (lt_cons (lt_i _ _) lt_nil))) (lt_cons (lt_b _ _) lt_nil))) ?_
 rw [Tryz.ntmps305,Tryz.results305]
 have e1:=ilt hi
 have e2:=isucc hi hl
 have e3:=ev_getD hi
 have e4:=imod hi
 have e5:=ine0 hi
 have e6:=imlt' hi
 have e7:=ev_getD (imod_lt hi)
 have e8 : ((ps.length : Int) < 2) = False:=eq_false (by omega)
 have e9 : ((i : Int) < 0) = False:=eq_false (by omega)
 have f1 : ((ps.length : Int) ≤ (i : Int)) = False:=eq_false (by omega)
 repeat' (first|simp only [go_sem,↓reduceIte,Nat.reduceLT,Nat.reduceEqDiff,Nat.reduceAdd,Nat.reduceLeDiff,reduceCtorEq,imp_self,decide_false,acond_ff,ne_eq,icast,inn,List.length_map,true_and,and_true,Bool.false_and,e1,e2,e3,e4,e5,e6,e7,e8,e9,f1]|refine cst_go ?_|(refine regOk_go ?_; kernel_rfl)|refine And.intro ?_ ?_)
 all_goals rfl
theorem c_enorm (ps : List (Int × Int)) (hl : ps.length ≤ maxLen) (i : Nat) (hi : i < ps.length) (h2 : 2 ≤ ps.length) : PCall Tryz.prog 225 [.sl (ps.map ev),.i i] (.agg [.i (nmX ps i),.i (nmY ps i)]):=by
 refine pcall_of hm Tryz.func225 rfl (by kernel_rfl) (by rw [Tryz.ntmps225]; exact Nat.le_of_ble_eq_true rfl) (lt_cons (lt_vs _ _) (lt_cons (lt_i _ _) lt_nil)) (lt_agg (lt_cons (lt_i _ _) (lt_cons (lt_i _ _) lt_nil))) ?_
 rw [Tryz.ntmps225,Tryz.results225]
 have i1 : HasC Tryz.prog 305 [.sl (ps.map ev),.i i] (.tup [.agg [.i (edgX ps i),.i (edgY ps i)],.b true]):=⟨c_sedge ps hl i hi h2⟩
 have hx : -536870911 ≤ edgX ps i ∧ edgX ps i ≤ 536870911:=fsub_bd _ _
 have g1 : IntKind.i64.wrap (0 - edgX ps i) = -edgX ps i:=by rw [w64_id (by omega) (by omega)]; omega
 repeat' (first|simp only [go_sem,↓reduceIte,Nat.reduceLT,Nat.reduceEqDiff,Nat.reduceAdd,Nat.reduceLeDiff,reduceCtorEq,imp_self,acond_ff,true_and,and_true,g1]|refine cst_go ?_)
 all_goals rfl
theorem c_edir (ps : List (Int × Int)) (hl : ps.length ≤ maxLen) (i : Nat) (hi : i < ps.length) (h2 : 2 ≤ ps.length) : PCall Tryz.prog 347 [.sl (ps.map ev),.i i] (.agg [.i (drX ps i),.i (drY ps i)]):=by
 refine pcall_of hm Tryz.func347 rfl (by kernel_rfl) (by rw [Tryz.ntmps347]; exact Nat.le_of_ble_eq_true rfl) (lt_cons (lt_vs _ _) (lt_cons (lt_i _ _) lt_nil)) (lt_agg (lt_cons (lt_i _ _) (lt_cons (lt_i _ _) lt_nil))) ?_
 rw [Tryz.ntmps347,Tryz.results347]
 have i1 : HasC Tryz.prog 305 [.sl (ps.map ev),.i i] (.tup [.agg [.i (edgX ps i),.i (edgY ps i)],.b true]):=⟨c_sedge ps hl i hi h2⟩
 repeat' (first|simp only [go_sem,↓reduceIte,Nat.reduceLT,Nat.reduceEqDiff,Nat.reduceAdd,Nat.reduceLeDiff,reduceCtorEq,imp_self,acond_ff,true_and,and_true]|refine cst_go ?_)
 all_goals rfl
theorem c_rsedge (ps : List (Int × Int)) (hl : ps.length ≤ maxLen) (i : Nat) (hi : i < ps.length) (h2 : 2 ≤ ps.length) : PCall Tryz.prog 322 [.sl (ps.map ev),.i i] (.tup [.agg [.i (edgX ps i),.i (edgY ps i)],.b true]):=by
 refine pcall_of hm Tryz.func322 rfl (by kernel_rfl) (by rw [Tryz.ntmps322]; exact Nat.le_of_ble_eq_true rfl) (lt_cons (lt_vs _ _) (lt_cons (lt_i _ _) lt_nil)) (lt_tup (lt_cons (lt_agg (lt_cons (lt_i _ _) (lt_cons (lt_i _ _) lt_nil))) (lt_cons (lt_b _ _) lt_nil))) ?_
 rw [Tryz.ntmps322,Tryz.results322]
 have e1:=ilt hi
 have e2:=isucc hi hl
 have e3:=ev_getD hi
 have e4:=imod hi
 have e5:=ine0 hi
 have e6:=imlt' hi
 have e7:=ev_getD (imod_lt hi)
 have e8 : ((ps.length : Int) < 2) = False:=eq_false (by omega)
 have e9 : ((i : Int) < 0) = False:=eq_false (by omega)
 have f1 : ((ps.length : Int) ≤ (i : Int)) = False:=eq_false (by omega)
 repeat' (first|simp only [go_sem,↓reduceIte,Nat.reduceLT,Nat.reduceEqDiff,Nat.reduceAdd,Nat.reduceLeDiff,reduceCtorEq,imp_self,decide_false,acond_ff,ne_eq,icast,inn,List.length_map,true_and,and_true,Bool.false_and,e1,e2,e3,e4,e5,e6,e7,e8,e9,f1]|refine cst_go ?_|(refine regOk_go ?_; kernel_rfl)|refine And.intro ?_ ?_)
 all_goals rfl
theorem c_renorm (ps : List (Int × Int)) (hl : ps.length ≤ maxLen) (i : Nat) (hi : i < ps.length) (h2 : 2 ≤ ps.length) : PCall Tryz.prog 242 [.sl (ps.map ev),.i i] (.agg [.i (nmX ps i),.i (nmY ps i)]):=by
 refine pcall_of hm Tryz.func242 rfl (by kernel_rfl) (by rw [Tryz.ntmps242]; exact Nat.le_of_ble_eq_true rfl) (lt_cons (lt_vs _ _) (lt_cons (lt_i _ _) lt_nil)) (lt_agg (lt_cons (lt_i _ _) (lt_cons (lt_i _ _) lt_nil))) ?_
 rw [Tryz.ntmps242,Tryz.results242]
 have i1 : HasC Tryz.prog 322 [.sl (ps.map ev),.i i] (.tup [.agg [.i (edgX ps i),.i (edgY ps i)],.b true]):=⟨c_rsedge ps hl i hi h2⟩
 have hx : -536870911 ≤ edgX ps i ∧ edgX ps i ≤ 536870911:=fsub_bd _ _
 have g1 : IntKind.i64.wrap (0 - edgX ps i) = -edgX ps i:=by rw [w64_id (by omega) (by omega)]; omega
 repeat' (first|simp only [go_sem,↓reduceIte,Nat.reduceLT,Nat.reduceEqDiff,Nat.reduceAdd,Nat.reduceLeDiff,reduceCtorEq,imp_self,acond_ff,true_and,and_true,g1]|refine cst_go ?_)
 all_goals rfl
theorem c_redir (ps : List (Int × Int)) (hl : ps.length ≤ maxLen) (i : Nat) (hi : i < ps.length) (h2 : 2 ≤ ps.length) : PCall Tryz.prog 353 [.sl (ps.map ev),.i i] (.agg [.i (drX ps i),.i (drY ps i)]):=by
 refine pcall_of hm Tryz.func353 rfl (by kernel_rfl) (by rw [Tryz.ntmps353]; exact Nat.le_of_ble_eq_true rfl) (lt_cons (lt_vs _ _) (lt_cons (lt_i _ _) lt_nil)) (lt_agg (lt_cons (lt_i _ _) (lt_cons (lt_i _ _) lt_nil))) ?_
 rw [Tryz.ntmps353,Tryz.results353]
 have i1 : HasC Tryz.prog 322 [.sl (ps.map ev),.i i] (.tup [.agg [.i (edgX ps i),.i (edgY ps i)],.b true]):=⟨c_rsedge ps hl i hi h2⟩
 repeat' (first|simp only [go_sem,↓reduceIte,Nat.reduceLT,Nat.reduceEqDiff,Nat.reduceAdd,Nat.reduceLeDiff,reduceCtorEq,imp_self,acond_ff,true_and,and_true]|refine cst_go ?_)
 all_goals rfl
theorem c_sepn0 (nx ny ox oy : Int) (ps : List (Int × Int)) (hl : ps.length ≤ maxLen) (h0 : 0 < ps.length) : PCall Tryz.prog 304 [.agg [.i nx,.i ny],.agg [.i ox,.i oy],.sl (ps.map ev)] (.i (mnF (sdot nx ny ox oy ps) (ps.length - 1))):=by
 refine pcall_of hm Tryz.func304 rfl (by kernel_rfl) (by rw [Tryz.ntmps304]; exact Nat.le_of_ble_eq_true rfl) (lt_cons (lt_agg (lt_cons (lt_i _ _) (lt_cons (lt_i _ _) lt_nil))) (lt_cons (lt_agg (lt_cons (lt_i _ _) (lt_cons (lt_i _ _) lt_nil))) (lt_cons (lt_vs _ _) lt_nil))) (lt_i _ _) ?_
 rw [Tryz.ntmps304,Tryz.results304]
 repeat' (first|simp only [go_sem,↓reduceIte,Nat.reduceLT,Nat.reduceEqDiff,Nat.reduceAdd,reduceCtorEq,List.length_map,true_and,and_true])
 rw [← mnL_fin (f:=sdot nx ny ox oy ps) h0]
 refine tr_lp hm [2,3,4,11] [0,1] (fun x : Fs ps.length=>[(7,.i (mnL (sdot nx ny ox oy ps) x.i)),(12,.i x.i)]) (fun x : Fs ps.length=>[]) (fun x=>ps.length - x.i) (Fs.start _) ?_ ?_ ?_
 ·repeat' (first|exact tw_nil|refine tw_cons rfl ?_ ?_|exact lt_i _ _|exact Lt.pt _ _ (by decide)|exact lt_vs _ _)
 ·repeat' (first|exact hw_nil|refine hw_cons (by decide) rfl bwk_rfl ?_ ?_|exact lt_i _ _|refine lt_agg ?_|exact lt_nil|refine lt_cons ?_ ?_)
 ·rintro ⟨i,hi⟩
  by_cases hlt : i < ps.length
  ·have e1:=ilt hlt
   have e2:=isucc hlt hl
   have e3:=ev_getD hlt
   repeat' (first|simp only [go_sem,↓reduceIte,Nat.reduceLT,Nat.reduceEqDiff,Nat.reduceAdd,Nat.reduceLeDiff,reduceCtorEq,Bool.not_eq_true',imp_self,decide_true,acond_tt,icast,inn,List.length_map,true_and,and_true,e1,e2,e3]|refine cst_go ?_|(refine regOk_go ?_; kernel_rfl)|refine acond_split (fun _=>?_) (fun _=>?_)|refine And.intro ?_ ?_)
   ·rename_i hc
    refine ⟨Fs.next hlt,Nat.sub_lt_sub_left hlt (Nat.lt_succ_self _),wk_go (by decide) ?_ ?_⟩
    ·refine tw_cons (leaf_i (mnL_up hc).symm) (lt_i _ _) (?_)
     repeat' (first|exact tw_nil|refine tw_cons rfl ?_ ?_|exact lt_i _ _|exact Lt.pt _ _ (by decide)|exact lt_vs _ _)
    ·repeat' (first|exact hw_nil|refine hw_cons (by decide) rfl bwk_rfl ?_ ?_|exact lt_i _ _|refine lt_agg ?_|exact lt_nil|refine lt_cons ?_ ?_)
   ·rename_i hc
    refine ⟨Fs.next hlt,Nat.sub_lt_sub_left hlt (Nat.lt_succ_self _),wk_go (by decide) ?_ ?_⟩
    ·refine tw_cons (leaf_i (mnL_dn hc).symm) (lt_i _ _) (?_)
     repeat' (first|exact tw_nil|refine tw_cons rfl ?_ ?_|exact lt_i _ _|exact Lt.pt _ _ (by decide)|exact lt_vs _ _)
    ·repeat' (first|exact hw_nil|refine hw_cons (by decide) rfl bwk_rfl ?_ ?_|exact lt_i _ _|refine lt_agg ?_|exact lt_nil|refine lt_cons ?_ ?_)
  ·have f1:=inlt hlt
   have hii : i = ps.length:=by omega
   subst hii
   repeat' (first|simp only [go_sem,↓reduceIte,Nat.reduceLT,Nat.reduceEqDiff,Nat.reduceAdd,reduceCtorEq,decide_false,acond_ff,and_true,f1])
   all_goals rfl
theorem c_mxs (ps : List (Int × Int)) (hl : ps.length ≤ maxLen) (qs : List (Int × Int)) (hm' : qs.length ≤ maxLen) (h2 : 2 ≤ ps.length) (h0 : 0 < qs.length) : PCall Tryz.prog 224 [.sl (ps.map ev),.sl (qs.map ev)] (.tup [.i ((mxs ps qs).1 : Nat),.i (mxs ps qs).2]):=by
 refine pcall_of hm Tryz.func224 rfl (by kernel_rfl) (by rw [Tryz.ntmps224]; exact Nat.le_of_ble_eq_true rfl) (lt_cons (lt_vs _ _) (lt_cons (lt_vs _ _) lt_nil)) (lt_tup (lt_cons (lt_i _ _) (lt_cons (lt_i _ _) lt_nil))) ?_
 rw [Tryz.ntmps224,Tryz.results224]
 have k1 : ((ps.length : Int) < 2) = False:=eq_false (by omega)
 have k2 : ((qs.length : Int) = 0) = False:=eq_false (by omega)
 have hfin:=mxI_fin (f:=sepF ps qs) (n:=ps.length) (by omega)
 have hr : (AV.tup [.i ((mxs ps qs).1 : Nat),.i (mxs ps qs).2]) = .tup [.i (mxI (sepF ps qs) ps.length),.i (mxV (sepF ps qs) ps.length)]:=by rw [hfin.1,hfin.2]; rfl
 rw [hr]
 clear hr hfin
 repeat' (first|simp only [go_sem,↓reduceIte,Nat.reduceLT,Nat.reduceEqDiff,Nat.reduceAdd,reduceCtorEq,imp_self,Int.reduceNeg,decide_false,acond_ff,List.length_map,true_and,and_true,Bool.false_and,k1,k2])
 refine tr_lp hm [0,1,19] [] (fun x : Fs ps.length=>[(6,.i (mxI (sepF ps qs) x.i)),(7,.i (mxV (sepF ps qs) x.i)),(20,.i x.i)]) (fun x : Fs ps.length=>[]) (fun x=>ps.length - x.i) (Fs.start _) ?_ ?_ ?_
 ·repeat' (first|exact tw_nil|refine tw_cons rfl ?_ ?_|exact lt_i _ _|exact lt_vs _ _)
 ·repeat' (first|exact hw_nil)
 ·rintro ⟨i,hi⟩
  by_cases hlt : i < ps.length
  ·have e1:=ilt hlt
   have e2:=isucc hlt hl
   have e3:=ev_getD hlt
   have j1 : HasC Tryz.prog 225 [.sl (ps.map ev),.i i] (.agg [.i (nmX ps i),.i (nmY ps i)]):=⟨c_enorm ps hl i hlt h2⟩
   have j2 : HasC Tryz.prog 304 [.agg [.i (nmX ps i),.i (nmY ps i)],.agg [.i (vx ps i),.i (vy ps i)],.sl (qs.map ev)] (.i (sepF ps qs i)):=⟨c_sepn0 _ _ _ _ qs hm' h0⟩
   repeat' (first|simp only [go_sem,↓reduceIte,Nat.reduceLT,Nat.reduceEqDiff,Nat.reduceAdd,Nat.reduceLeDiff,reduceCtorEq,Bool.not_eq_true',imp_self,Int.reduceNeg,decide_true,acond_tt,icast,inn,List.length_map,true_and,and_true,e1,e2,e3]|refine cst_go ?_|(refine regOk_go ?_; kernel_rfl)|refine acond_split (fun _=>?_) (fun _=>?_)|refine And.intro ?_ ?_)
   ·rename_i hc
    refine ⟨Fs.next hlt,Nat.sub_lt_sub_left hlt (Nat.lt_succ_self _),wk_go (by decide) ?_ ?_⟩
    ·refine tw_cons (leaf_i ((mxB_up hc).1).symm) (lt_i _ _) (tw_cons (leaf_i ((mxB_up hc).2).symm) (lt_i _ _) (?_))
     repeat' (first|exact tw_nil|refine tw_cons rfl ?_ ?_|exact lt_i _ _|exact lt_vs _ _)
    ·repeat' (first|exact hw_nil)
   ·rename_i hc
    refine ⟨Fs.next hlt,Nat.sub_lt_sub_left hlt (Nat.lt_succ_self _),wk_go (by decide) ?_ ?_⟩
    ·refine tw_cons (leaf_i ((mxB_dn hc).1).symm) (lt_i _ _) (tw_cons (leaf_i ((mxB_dn hc).2).symm) (lt_i _ _) (?_))
     repeat' (first|exact tw_nil|refine tw_cons rfl ?_ ?_|exact lt_i _ _|exact lt_vs _ _)
    ·repeat' (first|exact hw_nil)
  ·have f1:=inlt hlt
   have hii : i = ps.length:=by omega
   subst hii
   repeat' (first|simp only [go_sem,↓reduceIte,Nat.reduceLT,Nat.reduceEqDiff,Nat.reduceAdd,reduceCtorEq,Int.reduceNeg,decide_false,acond_ff,and_true,f1])
   all_goals rfl
theorem c_inc (ps : List (Int × Int)) (hl : ps.length ≤ maxLen) (nx ny : Int) (h2 : 2 ≤ ps.length) : PCall Tryz.prog 306 [.sl (ps.map ev),.agg [.i nx,.i ny]] (.i (incE ps nx ny : Nat)):=by
 refine pcall_of hm Tryz.func306 rfl (by kernel_rfl) (by rw [Tryz.ntmps306]; exact Nat.le_of_ble_eq_true rfl) (lt_cons (lt_vs _ _) (lt_cons (lt_agg (lt_cons (lt_i _ _) (lt_cons (lt_i _ _) lt_nil))) lt_nil)) (lt_i _ _) ?_
 rw [Tryz.ntmps306,Tryz.results306]
 have k1 : ((ps.length : Int) < 2) = False:=eq_false (by omega)
 have hr : (AV.i (incE ps nx ny : Nat)) = .i (mnI (incF ps nx ny) ps.length):=by rw [mnI_fin (by omega)]; rfl
 rw [hr]
 clear hr
 repeat' (first|simp only [go_sem,↓reduceIte,Nat.reduceLT,Nat.reduceAdd,reduceCtorEq,Int.reduceNeg,decide_false,acond_ff,List.length_map,true_and,and_true,k1])
 refine tr_lp hm [0,3,13] [0] (fun x : Fs ps.length=>[(5,.i (mnI (incF ps nx ny) x.i)),(6,.i (mnV (incF ps nx ny) x.i)),(14,.i x.i)]) (fun x : Fs ps.length=>[]) (fun x=>ps.length - x.i) (Fs.start _) ?_ ?_ ?_
 ·repeat' (first|exact tw_nil|refine tw_cons rfl ?_ ?_|exact lt_i _ _|exact Lt.pt _ _ (by decide)|exact lt_vs _ _)
 ·repeat' (first|exact hw_nil|refine hw_cons (by decide) rfl bwk_rfl ?_ ?_|exact lt_i _ _|refine lt_agg ?_|exact lt_nil|refine lt_cons ?_ ?_)
 ·rintro ⟨i,hi⟩
  by_cases hlt : i < ps.length
  ·have e1:=ilt hlt
   have e2:=isucc hlt hl
   have e3:=ev_getD hlt
   have j1 : HasC Tryz.prog 225 [.sl (ps.map ev),.i i] (.agg [.i (nmX ps i),.i (nmY ps i)]):=⟨c_enorm ps hl i hlt h2⟩
   repeat' (first|simp only [go_sem,↓reduceIte,Nat.reduceLT,Nat.reduceEqDiff,Nat.reduceAdd,Nat.reduceLeDiff,reduceCtorEq,Bool.not_eq_true',imp_self,Int.reduceNeg,decide_true,acond_tt,true_and,and_true,e1,e2]|refine cst_go ?_|(refine regOk_go ?_; kernel_rfl)|refine acond_split (fun _=>?_) (fun _=>?_)|refine And.intro ?_ ?_)
   ·rename_i hc
    refine ⟨Fs.next hlt,Nat.sub_lt_sub_left hlt (Nat.lt_succ_self _),wk_go (by decide) ?_ ?_⟩
    ·refine tw_cons (leaf_i ((mnB_up hc).1).symm) (lt_i _ _) (tw_cons (leaf_i ((mnB_up hc).2).symm) (lt_i _ _) (?_))
     repeat' (first|exact tw_nil|refine tw_cons rfl ?_ ?_|exact lt_i _ _|exact Lt.pt _ _ (by decide)|exact lt_vs _ _)
    ·repeat' (first|exact hw_nil|refine hw_cons (by decide) rfl bwk_rfl ?_ ?_|exact lt_i _ _|refine lt_agg ?_|exact lt_nil|refine lt_cons ?_ ?_)
   ·rename_i hc
    refine ⟨Fs.next hlt,Nat.sub_lt_sub_left hlt (Nat.lt_succ_self _),wk_go (by decide) ?_ ?_⟩
    ·refine tw_cons (leaf_i ((mnB_dn hc).1).symm) (lt_i _ _) (tw_cons (leaf_i ((mnB_dn hc).2).symm) (lt_i _ _) (?_))
     repeat' (first|exact tw_nil|refine tw_cons rfl ?_ ?_|exact lt_i _ _|exact Lt.pt _ _ (by decide)|exact lt_vs _ _)
    ·repeat' (first|exact hw_nil|refine hw_cons (by decide) rfl bwk_rfl ?_ ?_|exact lt_i _ _|refine lt_agg ?_|exact lt_nil|refine lt_cons ?_ ?_)
  ·have f1:=inlt hlt
   have hii : i = ps.length:=by omega
   subst hii
   repeat' (first|simp only [go_sem,↓reduceIte,Nat.reduceLT,Nat.reduceEqDiff,Nat.reduceAdd,reduceCtorEq,Int.reduceNeg,decide_false,acond_ff,and_true,f1])
   all_goals rfl
theorem c_clipd (x y id x' y' id' d e : Int) (h : IntKind.i64.wrap (d - e) = d - e) : PCall Tryz.prog 361 [.agg [.i x,.i y,.i id],.agg [.i x',.i y',.i id'],.i d,.i e] (.agg [.i (flerp x x' (frat d (d - e))),.i (flerp y y' (frat d (d - e))),.i id]):=by
 refine pcall_of hm Tryz.func361 rfl (by kernel_rfl) (by rw [Tryz.ntmps361]; exact Nat.le_of_ble_eq_true rfl) (lt_cons (lt_agg (lt_cons (lt_i _ _) (lt_cons (lt_i _ _) (lt_cons (lt_i _ _) lt_nil)))) (lt_cons (lt_agg (lt_cons (lt_i _ _) (lt_cons (lt_i _ _) (lt_cons (lt_i _ _) lt_nil)))) (lt_cons (lt_i _ _) (lt_cons (lt_i _ _) lt_nil)))) (lt_agg (lt_cons (lt_i _ _) (lt_cons (lt_i _ _) (lt_cons (lt_i _ _) lt_nil)))) ?_
 rw [Tryz.ntmps361,Tryz.results361]
 repeat' (first|simp only [go_sem,↓reduceIte,Nat.reduceLT,Nat.reduceEqDiff,Nat.reduceAdd,Nat.reduceLeDiff,reduceCtorEq,imp_self,true_and,and_true,h]|refine cst_go ?_|(refine regOk_go ?_; kernel_rfl))
 all_goals rfl
theorem c_hpl0 (ox oy nx ny : Int) : PCall Tryz.prog 348 [.sl [],.agg [.i ox,.i oy],.agg [.i nx,.i ny]] (.sl []):=by
 refine pcall_of hm Tryz.func348 rfl (by kernel_rfl) (by rw [Tryz.ntmps348]; exact Nat.le_of_ble_eq_true rfl) (lt_cons (.sl _ lt_nil) (lt_cons (lt_agg (lt_cons (lt_i _ _) (lt_cons (lt_i _ _) lt_nil))) (lt_cons (lt_agg (lt_cons (lt_i _ _) (lt_cons (lt_i _ _) lt_nil))) lt_nil))) (.sl _ lt_nil) ?_
 rw [Tryz.ntmps348,Tryz.results348]
 have k00 : ((0 : Nat) : Int) = 0:=rfl
 repeat' (first|simp only [go_sem,↓reduceIte,Nat.reduceLT,Nat.reduceEqDiff,Nat.reduceAdd,reduceCtorEq,Int.reduceEq,decide_false,acond_tt,and_true,k00])
 all_goals rfl
theorem c_hpl (ax ay ai bx byy bi ox oy nx ny : Int) : PCall Tryz.prog 348 [.sl [.agg [.i ax,.i ay,.i ai],.agg [.i bx,.i byy,.i bi]],.agg [.i ox,.i oy],.agg [.i nx,.i ny]] (.sl ((hplane [CV.mk ax ay ai,CV.mk bx byy bi] ox oy nx ny).map CV.v)):=by
 refine pcall_of hm Tryz.func348 rfl (by kernel_rfl) (by rw [Tryz.ntmps348]; exact Nat.le_of_ble_eq_true rfl) (lt_cons (.sl _ (lt_cons (lt_agg (lt_cons (lt_i _ _) (lt_cons (lt_i _ _) (lt_cons (lt_i _ _) lt_nil)))) (lt_cons (lt_agg (lt_cons (lt_i _ _) (lt_cons (lt_i _ _) (lt_cons (lt_i _ _) lt_nil)))) lt_nil))) (lt_cons (lt_agg (lt_cons (lt_i _ _) (lt_cons (lt_i _ _) lt_nil))) (lt_cons (lt_agg (lt_cons (lt_i _ _) (lt_cons (lt_i _ _) lt_nil))) lt_nil))) (lt_cvs _ _) ?_
 rw [Tryz.ntmps348,Tryz.results348]
 have hd : ∀ c : CV,-536870911 ≤ c.d ox oy nx ny ∧ c.d ox oy nx ny ≤ 536870911:=fun c=>⟨sat_ge _,sat_le _⟩
 have h1:=hd (CV.mk ax ay ai)
 have h2:=hd (CV.mk bx byy bi)
 have i1 : HasC Tryz.prog 361 [.agg [.i ax,.i ay,.i ai],.agg [.i bx,.i byy,.i bi],.i ((CV.mk ax ay ai).d ox oy nx ny),.i ((CV.mk bx byy bi).d ox oy nx ny)] (.agg [.i (flerp ax bx (frat ((CV.mk ax ay ai).d ox oy nx ny) ((CV.mk ax ay ai).d ox oy nx ny - (CV.mk bx byy bi).d ox oy nx ny))),.i (flerp ay byy (frat ((CV.mk ax ay ai).d ox oy nx ny) ((CV.mk ax ay ai).d ox oy nx ny - (CV.mk bx byy bi).d ox oy nx ny))),.i ai]):=⟨c_clipd ax ay ai bx byy bi _ _ (w64_id (by omega) (by omega))⟩
 have i2 : HasC Tryz.prog 361 [.agg [.i bx,.i byy,.i bi],.agg [.i ax,.i ay,.i ai],.i ((CV.mk bx byy bi).d ox oy nx ny),.i ((CV.mk ax ay ai).d ox oy nx ny)] (.agg [.i (flerp bx ax (frat ((CV.mk bx byy bi).d ox oy nx ny) ((CV.mk bx byy bi).d ox oy nx ny - (CV.mk ax ay ai).d ox oy nx ny))),.i (flerp byy ay (frat ((CV.mk bx byy bi).d ox oy nx ny) ((CV.mk bx byy bi).d ox oy nx ny - (CV.mk ax ay ai).d ox oy nx ny))),.i bi]):=⟨c_clipd bx byy bi ax ay ai _ _ (w64_id (by omega) (by omega))⟩
 have q1 : vdot nx ny (fsub ax ox) (fsub ay oy) = (CV.mk ax ay ai).d ox oy nx ny:=rfl
 have q2 : vdot nx ny (fsub bx ox) (fsub byy oy) = (CV.mk bx byy bi).d ox oy nx ny:=rfl
 have k22 : ((2 : Nat) : Int) = 2:=rfl
 repeat' (first|simp only [go_sem,↓reduceIte,Nat.reduceLT,Nat.reduceEqDiff,Nat.reduceAdd,Nat.reduceLeDiff,Nat.reduceMul,reduceCtorEq,imp_self,Int.reduceLT,Int.reduceLE,decide_true,acond_ff,Int.reduceToNat,List.range_zero,List.range_succ,List.replicate_succ,List.replicate_zero,List.flatten_cons,List.flatten_nil,List.all_cons,List.all_nil,true_and,and_true,q1,q2,k22]|refine cst_go ?_|(refine regOk_go ?_; kernel_rfl)|refine acond_split (fun _=>?_) (fun _=>?_)|refine And.intro ?_ ?_)
 all_goals skip
 ·rename_i c1
  rw [hp_0 c1]; rfl
 ·rename_i c1 c2
  rw [hp_1 c1 c2]; rfl
 ·rename_i c1 c2 c3
  rw [hp_2 c2 c3]; rfl
 ·rename_i c1 c2 c3
  rw [hp_3 c2 c3]; rfl
theorem c_toe (ps : List (Int × Int)) (hl : ps.length ≤ maxLen) (qs : List (Int × Int)) (hm' : qs.length ≤ maxLen) (i : Nat) (hi : i < ps.length) (h2 : 2 ≤ ps.length) (k : Nat) (hk : k < qs.length) (h2' : 2 ≤ qs.length) : PCall Tryz.prog 307 [.sl (ps.map ev),.i i,.sl (qs.map ev),.i k] (.sl ((toE ps i qs k).map CV.v)):=by
  refine pcall_of hm Tryz.func307 rfl (by kernel_rfl) (by rw [Tryz.ntmps307]; exact Nat.le_of_ble_eq_true rfl) (lt_cons (lt_vs _ _) (lt_cons (lt_i _ _) (lt_cons (lt_vs _ _) (lt_cons (lt_i _ _) lt_nil)))) (lt_cvs _ _) ?_
  rw [Tryz.ntmps307,Tryz.results307]
  have e1:=ilt hi
  have e2:=isucc hi hl
  have e3:=ev_getD hi
  have e4:=imod hi
  have e5:=ine0 hi
  have e6:=imlt' hi
  have e7:=ev_getD (imod_lt hi)
  have e8 : ((ps.length : Int) < 2) = False:=eq_false (by omega)
  have e9 : ((i : Int) < 0) = False:=eq_false (by omega)
  have f1 : ((ps.length : Int) ≤ (i : Int)) = False:=eq_false (by omega)
  have E1:=ilt hk
  have E2:=isucc hk hm'
  have E3:=ev_getD hk
  have E4:=imod hk
  have E5:=ine0 hk
  have E6:=imlt' hk
  have E7:=ev_getD (imod_lt hk)
  have E8 : ((qs.length : Int) < 2) = False:=eq_false (by omega)
  have E9 : ((k : Int) < 0) = False:=eq_false (by omega)
  have F1 : ((qs.length : Int) ≤ (k : Int)) = False:=eq_false (by omega)
  have i1 : HasC Tryz.prog 347 [.sl (ps.map ev),.i i] (.agg [.i (drX ps i),.i (drY ps i)]):=⟨c_edir ps hl i hi h2⟩
  have i2 : HasC Tryz.prog 348 [.sl [.agg [.i (vx qs k),.i (vy qs k),.i 0],.agg [.i (vx qs ((k + 1) % qs.length)),.i (vy qs ((k + 1) % qs.length)),.i 1]],.agg [.i (vx ps ((i + 1) % ps.length)),.i (vy ps ((i + 1) % ps.length))],.agg [.i (drX ps i),.i (drY ps i)]] (.sl ((hplane (toE0 qs k) (vx ps ((i + 1) % ps.length)) (vy ps ((i + 1) % ps.length)) (drX ps i) (drY ps i)).map CV.v)):=⟨c_hpl _ _ _ _ _ _ _ _ _ _⟩
  have hcut : Cut (hplane (toE0 qs k) (vx ps ((i + 1) % ps.length)) (vy ps ((i + 1) % ps.length)) (drX ps i) (drY ps i)):=hplane_cut (toE0_cut qs k) _ _ _ _
  have hres : toE ps i qs k = hplane (hplane (toE0 qs k) (vx ps ((i + 1) % ps.length)) (vy ps ((i + 1) % ps.length)) (drX ps i) (drY ps i)) (vx ps i) (vy ps i) (fmul (drX ps i) (-65536)) (fmul (drY ps i) (-65536)):=rfl
  rw [hres]
  clear hres
  generalize (hplane (toE0 qs k) (vx ps ((i + 1) % ps.length)) (vy ps ((i + 1) % ps.length)) (drX ps i) (drY ps i)) = L at *
  have i3 : HasC Tryz.prog 348 [.sl (L.map CV.v),.agg [.i (vx ps i),.i (vy ps i)],.agg [.i (fmul (drX ps i) (-65536)),.i (fmul (drY ps i) (-65536))]] (.sl ((hplane L (vx ps i) (vy ps i) (fmul (drX ps i) (-65536)) (fmul (drY ps i) (-65536))).map CV.v)):=⟨by
    rcases hcut with h|⟨a,b,h,_,_⟩
    · rw [h]; exact c_hpl0 _ _ _ _
    · rw [h]; exact c_hpl a.x a.y a.id b.x b.y b.id _ _ _ _⟩
  repeat' (first|simp only [go_sem,↓reduceIte,Nat.reduceLT,Nat.reduceEqDiff,Nat.reduceAdd,Nat.reduceLeDiff,Nat.reduceMul,reduceCtorEq,imp_self,Int.reduceNeg,decide_false,acond_ff,ne_eq,List.range_zero,List.range_succ,List.replicate_succ,List.replicate_zero,List.flatten_cons,List.flatten_nil,List.all_cons,List.all_nil,icast,inn,List.length_map,true_and,and_true,Bool.false_and,e1,e2,e3,e4,e5,e6,e7,e8,e9,f1,E1,E2,E3,E4,E5,E6,E7,E8,E9,F1]|refine cst_go ?_|(refine regOk_go ?_; kernel_rfl)|refine And.intro ?_ ?_)
  all_goals rfl
end Go.Proofs.YtplmagdbnbijlaaGreat
/-
 What the functions of chapter 16 compute. Conditions: none.
-/
namespace Go.Proofs.YtplmagdbnbijlaaGreat
open Go.RowKit Go.AL Go.Carom
theorem c_half (x : Int) : PCall Tryz.prog 222 [.i x] (.i (half2 x)):=by
 refine pcall_of hm Tryz.func222 rfl (by kernel_rfl) (by rw [Tryz.ntmps222]; exact Nat.le_of_ble_eq_true rfl) (lt_cons (lt_i _ _) lt_nil) (lt_i _ _) ?_
 rw [Tryz.ntmps222,Tryz.results222]
 repeat' (first|simp only [go_sem,↓reduceIte,Nat.reduceLT,Nat.reduceAdd,reduceCtorEq,true_and,and_true]|refine cst_go ?_)
 all_goals rfl
instance (x : Int) : HasC Tryz.prog 222 [.i x] (.i (half2 x)):=⟨c_half x⟩
theorem c_dir (x y u v : Int) : PCall Tryz.prog 220 [.agg [.i x,.i y],.agg [.i u,.i v]] (.tup [.agg [.i (dirX x y u),.i (dirY x y v)],.i (vlen x y)]):=by
 refine pcall_of hm Tryz.func220 rfl (by kernel_rfl) (by rw [Tryz.ntmps220]; exact Nat.le_of_ble_eq_true rfl) (lt_cons (lt_agg (lt_cons (lt_i _ _) (lt_cons (lt_i _ _) lt_nil))) (lt_cons (lt_agg (lt_cons (lt_i _ _) (lt_cons (lt_i _ _) lt_nil))) lt_nil)) (lt_tup (lt_cons (lt_agg (lt_cons (lt_i _ _) (lt_cons (lt_i _ _) lt_nil))) (lt_cons (lt_i _ _) lt_nil))) ?_
 rw [Tryz.ntmps220,Tryz.results220]
 repeat' (first|simp only [go_sem,↓reduceIte,Nat.reduceLT,Nat.reduceEqDiff,Nat.reduceAdd,Nat.reduceLeDiff,reduceCtorEq,imp_self,true_and,and_true]|refine cst_go ?_|refine acond_split (fun _=>?_) (fun _=>?_))
 all_goals (rename_i h; unfold dirX dirY; first|rw [if_pos (of_decide_eq_true h),if_pos (of_decide_eq_true h),of_decide_eq_true h]|rw [if_neg (of_decide_eq_false h),if_neg (of_decide_eq_false h)])
instance (x y u v : Int) : HasC Tryz.prog 220 [.agg [.i x,.i y],.agg [.i u,.i v]] (.tup [.agg [.i (dirX x y u),.i (dirY x y v)],.i (vlen x y)]):=⟨c_dir x y u v⟩
theorem c_clo (ps : List (Int × Int)) (hl : ps.length ≤ maxLen) (cx cy : Int) (h2 : 2 ≤ ps.length) : PCall Tryz.prog 226 [.sl (ps.map ev),.agg [.i cx,.i cy]] (.agg [.i (clo ps cx cy (ps.length - 1)).1,.i (clo ps cx cy (ps.length - 1)).2]):=by
 refine pcall_of hm Tryz.func226 rfl (by kernel_rfl) (by rw [Tryz.ntmps226]; exact Nat.le_of_ble_eq_true rfl) (lt_cons (lt_vs _ _) (lt_cons (lt_agg (lt_cons (lt_i _ _) (lt_cons (lt_i _ _) lt_nil))) lt_nil)) (lt_agg (lt_cons (lt_i _ _) (lt_cons (lt_i _ _) lt_nil))) ?_
 rw [Tryz.ntmps226,Tryz.results226]
 have g0:=ev_getD (ps:=ps) (i:=0) (by omega)
 have g1 : ((0 : Int) < (ps.length : Int)) = True:=eq_true (by omega)
 have g2:=ev_getD (ps:=ps) (i:=1) (by omega)
 have g3 : ((1 : Int) < (ps.length : Int)) = True:=eq_true (by omega)
 have hm1 : (0 + 1) % ps.length = 1:=Nat.mod_eq_of_lt (by omega)
 have h0 : clo ps cx cy 0 = (cpx (vx ps 0) (vy ps 0) (vx ps 1) (vy ps 1) cx cy,cpy (vx ps 0) (vy ps 0) (vx ps 1) (vy ps 1) cx cy):=by
  show cloE ps cx cy 0 = _
  unfold cloE
  rw [hm1]
 repeat' (first|simp only [go_sem,↓reduceIte,Nat.reduceLT,Nat.reduceEqDiff,Nat.reduceAdd,Nat.reduceLeDiff,reduceCtorEq,imp_self,Int.reduceLE,Int.reduceToNat,List.length_map,true_and,and_true,g0,g1,g2,g3]|refine cst_go ?_|(refine regOk_go ?_; kernel_rfl)|refine And.intro ?_ ?_)
 refine tr_lp hm [0,3,4,5] [0,1] (fun x : Fs (ps.length - 1)=>[(7,.i (x.i + 1 : Nat))]) (fun x : Fs (ps.length - 1)=>[(2,.var (.agg [.i (clo ps cx cy x.i).1,.i (clo ps cx cy x.i).2]))]) (fun x=>ps.length - 1 - x.i) (Fs.start _) ?_ ?_ ?_
 ·repeat' (first|exact tw_nil|refine tw_cons rfl ?_ ?_|exact lt_i _ _|exact Lt.pt _ _ (by decide)|exact lt_vs _ _)
 ·repeat' (first|exact hw_nil|refine hw_cons (by decide) rfl bwk_rfl ?_ ?_|refine hw_cons (by decide) ?_ bwk_rfl ?_ ?_|exact lt_i _ _|exact lt_ev _ _|refine lt_agg ?_|exact lt_nil|refine lt_cons ?_ ?_)
  all_goals (show some (ABox.var _) = some (ABox.var _); rw [show (Fs.start (ps.length - 1)).i = 0 from rfl,h0])
 ·rintro ⟨i,hi⟩
  by_cases hlt : i < ps.length - 1
  ·have hlt' : i + 1 < ps.length:=by omega
   have e1:=ilt hlt'
   have e2:=isucc hlt' hl
   have e3:=ev_getD hlt'
   have e4:=imod hlt'
   have e5:=ine0 hlt'
   have e6:=imlt' hlt'
   have e7:=ev_getD (imod_lt hlt')
   repeat' (first|simp only [go_sem,↓reduceIte,Nat.reduceLT,Nat.reduceEqDiff,Nat.reduceAdd,Nat.reduceLeDiff,reduceCtorEq,imp_self,decide_true,acond_tt,ne_eq,icast,inn,List.length_map,true_and,and_true,e1,e2,e3,e4,e5,e6,e7]|refine cst_go ?_|(refine regOk_go ?_; kernel_rfl)|refine acond_split (fun _=>?_) (fun _=>?_)|refine And.intro ?_ ?_)
   ·rename_i hc
    have hu:=clo_up (a:=ps) (cx:=cx) (cy:=cy) (m:=i) hc
    refine ⟨Fs.next hlt,Nat.sub_lt_sub_left hlt (Nat.lt_succ_self _),wk_go (by decide) ?_ ?_⟩
    ·repeat' (first|exact tw_nil|refine tw_cons rfl ?_ ?_|exact lt_i _ _|exact Lt.pt _ _ (by decide)|exact lt_vs _ _)
    ·repeat' (first|exact hw_nil|refine hw_cons (by decide) rfl bwk_rfl ?_ ?_|refine hw_cons (by decide) ?_ bwk_rfl ?_ ?_|exact lt_i _ _|exact lt_ev _ _|refine lt_agg ?_|exact lt_nil|refine lt_cons ?_ ?_)
     all_goals (show some (ABox.var _) = some (ABox.var _); rw [show (Fs.next hlt).i = i + 1 from rfl,hu]; rfl)
   ·rename_i hc
    have hu:=clo_dn (a:=ps) (cx:=cx) (cy:=cy) (m:=i) hc
    refine ⟨Fs.next hlt,Nat.sub_lt_sub_left hlt (Nat.lt_succ_self _),wk_go (by decide) ?_ ?_⟩
    ·repeat' (first|exact tw_nil|refine tw_cons rfl ?_ ?_|exact lt_i _ _|exact Lt.pt _ _ (by decide)|exact lt_vs _ _)
    ·repeat' (first|exact hw_nil|refine hw_cons (by decide) rfl bwk_rfl ?_ ?_|refine hw_cons (by decide) ?_ bwk_rfl ?_ ?_|exact lt_i _ _|exact lt_ev _ _|refine lt_agg ?_|exact lt_nil|refine lt_cons ?_ ?_)
     all_goals (show some (ABox.var _) = some (ABox.var _); rw [show (Fs.next hlt).i = i + 1 from rfl,hu])
  ·have f1:=inlt (i:=i + 1) (n:=ps.length) (by omega)
   have hii : i = ps.length - 1:=by omega
   subst hii
   repeat' (first|simp only [go_sem,↓reduceIte,Nat.reduceLT,Nat.reduceEqDiff,Nat.reduceAdd,Nat.reduceLeDiff,reduceCtorEq,imp_self,decide_false,acond_ff,List.length_map,and_true,f1])
   all_goals rfl
theorem c_clnp (l : List P6) (h5 : l.length ≤ 1000000) : PCall Tryz.prog 216 [.sl (l.map P6.v)] (.sl (l.map P6.v)):=by
  refine pcall_of hm Tryz.func216 rfl (by kernel_rfl) (by rw [Tryz.ntmps216]; exact Nat.le_of_ble_eq_true rfl) (lt_cons (lt_p6s _ _) lt_nil) (lt_p6s _ _) ?_
  rw [Tryz.ntmps216,Tryz.results216]
  repeat' (first|simp only [go_sem,↓reduceIte,Nat.reduceLT,Nat.reduceEqDiff,Nat.reduceAdd,Nat.reduceLeDiff,Nat.reduceMul,reduceCtorEq,or_false,List.range_zero,List.replicate_zero,List.flatten_nil,List.all_nil,forall_and,List.length_map,true_and,and_true]|refine And.intro ?_ ?_)
  all_goals first
    | exact p6s_len l
    | exact p6s_one l
    | omega
    | (intro hk
       have : l = []:=List.eq_nil_of_length_eq_zero (by
         rcases Nat.eq_zero_or_pos l.length with h|h
         · exact h
         · exact (hk (decide_eq_true h)).elim)
       subst this
       rfl)
theorem c_mcln (x y : Int) (l : List P6) (h5 : l.length ≤ 1000000) : PCall Tryz.prog 141 [.agg [.i x,.i y,.sl (l.map P6.v)]] (.agg [.i x,.i y,.sl (l.map P6.v)]):=by
 refine pcall_of hm Tryz.func141 rfl (by kernel_rfl) (by rw [Tryz.ntmps141]; exact Nat.le_of_ble_eq_true rfl) (lt_cons (lt_agg (lt_cons (lt_i _ _) (lt_cons (lt_i _ _) (lt_cons (lt_p6s _ _) lt_nil)))) lt_nil) (lt_agg (lt_cons (lt_i _ _) (lt_cons (lt_i _ _) (lt_cons (lt_p6s _ _) lt_nil)))) ?_
 rw [Tryz.ntmps141,Tryz.results141]
 have i1 : HasC Tryz.prog 216 [.sl (l.map P6.v)] (.sl (l.map P6.v)):=⟨c_clnp l h5⟩
 repeat' (first|simp only [go_sem,↓reduceIte,Nat.reduceLT,Nat.reduceEqDiff,Nat.reduceAdd,Nat.reduceLeDiff,reduceCtorEq,imp_self,true_and,and_true]|refine cst_go ?_)
 all_goals rfl
theorem c_mflip (x y : Int) (l : List P6) (h5 : l.length ≤ 1000000) : PCall Tryz.prog 227 [.agg [.i x,.i y,.sl (l.map P6.v)]] (.agg [.i (ng x),.i (ng y),.sl (l.map P6.v)]):=by
 refine pcall_of hm Tryz.func227 rfl (by kernel_rfl) (by rw [Tryz.ntmps227]; exact Nat.le_of_ble_eq_true rfl) (lt_cons (lt_agg (lt_cons (lt_i _ _) (lt_cons (lt_i _ _) (lt_cons (lt_p6s _ _) lt_nil)))) lt_nil) (lt_agg (lt_cons (lt_i _ _) (lt_cons (lt_i _ _) (lt_cons (lt_p6s _ _) lt_nil)))) ?_
 rw [Tryz.ntmps227,Tryz.results227]
 have i1 : HasC Tryz.prog 141 [.agg [.i x,.i y,.sl (l.map P6.v)]] (.agg [.i x,.i y,.sl (l.map P6.v)]):=⟨c_mcln x y l h5⟩
 repeat' (first|simp only [go_sem,↓reduceIte,Nat.reduceLT,Nat.reduceEqDiff,Nat.reduceAdd,Nat.reduceLeDiff,reduceCtorEq,imp_self,true_and,and_true]|refine cst_go ?_)
 all_goals rfl
end Go.Proofs.YtplmagdbnbijlaaGreat
/-
 What the functions of chapter 16 compute: the manifolds. Conditions: none.
-/
namespace Go.Proofs.YtplmagdbnbijlaaGreat
open Go.RowKit Go.AL Go.Carom
theorem c_crnd (ps : List (Int × Int)) (hl : ps.length ≤ maxLen) (qs : List (Int × Int)) (hm' : qs.length ≤ maxLen) (r k r' k' : Int) (h1 : 0 < ps.length) (h1' : 0 < qs.length) : PCall Tryz.prog 147 [.agg [.sl (ps.map ev),.i r,.i k],.agg [.sl (qs.map ev),.i r',.i k']] (.tup [(rndM (vx ps 0) (vy ps 0) (vx ps (ps.length - 1)) (vy ps (ps.length - 1)) r (vx qs 0) (vy qs 0) (vx qs (qs.length - 1)) (vy qs (qs.length - 1)) r' : Mf).v,.b (rndM (vx ps 0) (vy ps 0) (vx ps (ps.length - 1)) (vy ps (ps.length - 1)) r (vx qs 0) (vy qs 0) (vx qs (qs.length - 1)) (vy qs (qs.length - 1)) r').ok]):=by
 refine pcall_of hm Tryz.func147 rfl (by kernel_rfl) (by rw [Tryz.ntmps147]; exact Nat.le_of_ble_eq_true rfl) (lt_cons (lt_agg (lt_cons (lt_vs _ _) (lt_cons (lt_i _ _) (lt_cons (lt_i _ _) lt_nil)))) (lt_cons (lt_agg (lt_cons (lt_vs _ _) (lt_cons (lt_i _ _) (lt_cons (lt_i _ _) lt_nil)))) lt_nil)) (lt_tup (lt_cons (lt_mf _ _) (lt_cons (lt_b _ _) lt_nil))) ?_
 rw [Tryz.ntmps147,Tryz.results147]
 have g0:=ev_getD (ps:=ps) (i:=0) (by omega)
 have g1 : ((0 : Int) < (ps.length : Int)) = True:=eq_true (by omega)
 have g2 : IntKind.i64.wrap ((ps.length : Int) - 1) = ((ps.length - 1 : Nat) : Int):=by rw [w64_id (by omega) (by have : maxLen = 9223372036854775807:=rfl; omega)]; omega
 have g3:=ev_getD (ps:=ps) (i:=ps.length - 1) (by omega)
 have g4:=ilt (i:=ps.length - 1) (n:=ps.length) (by omega)
 have G0:=ev_getD (ps:=qs) (i:=0) (by omega)
 have G1 : ((0 : Int) < (qs.length : Int)) = True:=eq_true (by omega)
 have G2 : IntKind.i64.wrap ((qs.length : Int) - 1) = ((qs.length - 1 : Nat) : Int):=by rw [w64_id (by omega) (by have : maxLen = 9223372036854775807:=rfl; omega)]; omega
 have G3:=ev_getD (ps:=qs) (i:=qs.length - 1) (by omega)
 have G4:=ilt (i:=qs.length - 1) (n:=qs.length) (by omega)
 have i1 : HasC Tryz.prog 219 [.agg [.i (vx ps 0),.i (vy ps 0)],.agg [.i (vx ps (ps.length - 1)),.i (vy ps (ps.length - 1))],.agg [.i (vx qs 0),.i (vy qs 0)],.agg [.i (vx qs (qs.length - 1)),.i (vy qs (qs.length - 1))]] (.tup [.agg [.i (cps (vx ps 0) (vy ps 0) (vx ps (ps.length - 1)) (vy ps (ps.length - 1)) (vx qs 0) (vy qs 0) (vx qs (qs.length - 1)) (vy qs (qs.length - 1))).a,.i (cps (vx ps 0) (vy ps 0) (vx ps (ps.length - 1)) (vy ps (ps.length - 1)) (vx qs 0) (vy qs 0) (vx qs (qs.length - 1)) (vy qs (qs.length - 1))).b],.agg [.i (cps (vx ps 0) (vy ps 0) (vx ps (ps.length - 1)) (vy ps (ps.length - 1)) (vx qs 0) (vy qs 0) (vx qs (qs.length - 1)) (vy qs (qs.length - 1))).c,.i (cps (vx ps 0) (vy ps 0) (vx ps (ps.length - 1)) (vy ps (ps.length - 1)) (vx qs 0) (vy qs 0) (vx qs (qs.length - 1)) (vy qs (qs.length - 1))).d]]):=⟨c_cps _ _ _ _ _ _ _ _⟩
 have hM0 : rndM (vx ps 0) (vy ps 0) (vx ps (ps.length - 1)) (vy ps (ps.length - 1)) r (vx qs 0) (vy qs 0) (vx qs (qs.length - 1)) (vy qs (qs.length - 1)) r' = rndQ (cps (vx ps 0) (vy ps 0) (vx ps (ps.length - 1)) (vy ps (ps.length - 1)) (vx qs 0) (vy qs 0) (vx qs (qs.length - 1)) (vy qs (qs.length - 1))) r r':=rfl
 rw [hM0]
 clear hM0
 generalize cps (vx ps 0) (vy ps 0) (vx ps (ps.length - 1)) (vy ps (ps.length - 1)) (vx qs 0) (vy qs 0) (vx qs (qs.length - 1)) (vy qs (qs.length - 1)) = q at *
 have q1 : fsub (fsub (vlen (fsub q.c q.a) (fsub q.d q.b)) r) r' = rndS q r r':=rfl
 by_cases hs : rndS q r r' ≤ 1024
 ·have e1 : (rndS q r r' ≤ 1024) = True:=eq_true hs
  have hM : rndQ q r r' = _:=fin1_in hs
  rw [hM]
  repeat' (first|with_reducible (first|exact HBs.nil|refine HBs.cons (by decide) ?_ ?_|refine BOk.var ?_|exact BOk.nl|refine BOk.row ?_|exact Lts.nil|refine Lts.cons ?_ ?_|exact lt_i _ _|exact lt_b _ _|exact Lt.pt _ _ (by decide)|exact Lt.ow _ _ (by decide)|exact lt_vs _ _|refine lt_agg ?_|refine lt_tup ?_|exact lt_nil|refine lt_cons ?_ ?_|refine Lt.clo _ _ ?_)|simp only [go_sem,↓reduceIte,Nat.reduceLT,Nat.reduceEqDiff,Nat.reduceAdd,Nat.reduceLeDiff,Nat.reduceMul,Nat.reduceSub,reduceCtorEq,imp_self,Int.reduceLE,Int.reduceEq,decide_true,decide_false,acond_tt,acond_ff,Int.reduceToNat,List.range_zero,List.range_succ,List.replicate_succ,List.replicate_zero,List.flatten_cons,List.flatten_nil,List.all_cons,List.all_nil,forall_and,icast,inn,List.length_map,true_and,and_true,nc1,g0,g1,g2,g3,g4,G0,G1,G2,G3,G4,q1,e1]|refine cst_go ?_|apply cst_in (f:=221) hm Tryz.func221 rfl (by kernel_rfl) Tryz.ntmps221 Tryz.results221 rfl|apply cst_in (f:=302) hm Tryz.func302 rfl (by kernel_rfl) Tryz.ntmps302 Tryz.results302 rfl|apply cst_in (f:=223) hm Tryz.func223 rfl (by kernel_rfl) Tryz.ntmps223 Tryz.results223 rfl|(refine regOk_go ?_; kernel_rfl)|exact ⟨rfl,endJ_go rfl,rfl⟩|refine keys_go rfl|refine keep_go rfl|refine And.intro ?_ ?_)
  all_goals (try rfl)
 ·have e1 : (rndS q r r' ≤ 1024) = False:=eq_false hs
  have hM : rndQ q r r' = _:=fin1_out hs
  rw [hM]
  repeat' (first|with_reducible (first|exact HBs.nil|refine HBs.cons (by decide) ?_ ?_|refine BOk.var ?_|exact BOk.nl|exact Lts.nil|refine Lts.cons ?_ ?_|exact lt_i _ _|exact lt_b _ _|exact Lt.pt _ _ (by decide)|exact Lt.ow _ _ (by decide)|exact lt_vs _ _|refine lt_agg ?_|refine lt_tup ?_|exact lt_nil|refine lt_cons ?_ ?_|refine Lt.clo _ _ ?_)|simp only [go_sem,↓reduceIte,Nat.reduceLT,Nat.reduceEqDiff,Nat.reduceAdd,Nat.reduceLeDiff,Nat.reduceSub,reduceCtorEq,imp_self,Int.reduceLE,decide_true,decide_false,acond_tt,acond_ff,Int.reduceToNat,icast,inn,List.length_map,true_and,and_true,g0,g1,g2,g3,g4,G0,G1,G2,G3,G4,q1,e1]|refine cst_go ?_|apply cst_in (f:=221) hm Tryz.func221 rfl (by kernel_rfl) Tryz.ntmps221 Tryz.results221 rfl|apply cst_in (f:=302) hm Tryz.func302 rfl (by kernel_rfl) Tryz.ntmps302 Tryz.results302 rfl|apply cst_in (f:=223) hm Tryz.func223 rfl (by kernel_rfl) Tryz.ntmps223 Tryz.results223 rfl|(refine regOk_go ?_; kernel_rfl)|exact ⟨rfl,endJ_go rfl,rfl⟩|refine keys_go rfl|refine keep_go rfl|refine And.intro ?_ ?_)
  all_goals (try rfl)
theorem c_pc (ps : List (Int × Int)) (hl : ps.length ≤ maxLen) (r k cx cy r' k' : Int) (h2 : 2 ≤ ps.length) : PCall Tryz.prog 148 [.agg [.sl (ps.map ev),.i r,.i k],.agg [.sl [.agg [.i cx,.i cy]],.i r',.i k']] (.tup [(pcM ps cx cy r' : Mf).v,.b (pcM ps cx cy r').ok]):=by
 refine pcall_of hm Tryz.func148 rfl (by kernel_rfl) (by rw [Tryz.ntmps148]; exact Nat.le_of_ble_eq_true rfl) (lt_cons (lt_agg (lt_cons (lt_vs _ _) (lt_cons (lt_i _ _) (lt_cons (lt_i _ _) lt_nil)))) (lt_cons (lt_agg (lt_cons (.sl _ (lt_cons (lt_agg (lt_cons (lt_i _ _) (lt_cons (lt_i _ _) lt_nil))) lt_nil)) (lt_cons (lt_i _ _) (lt_cons (lt_i _ _) lt_nil)))) lt_nil)) (lt_tup (lt_cons (lt_mf _ _) (lt_cons (lt_b _ _) lt_nil))) ?_
 rw [Tryz.ntmps148,Tryz.results148]
 have hi:=mxs_lt (a:=ps) (b:=[(cx,cy)]) (by omega)
 have i1 : HasC Tryz.prog 224 [.sl (ps.map ev),.sl [.agg [.i cx,.i cy]]] (.tup [.i ((mxs ps [(cx,cy)]).1 : Nat),.i (mxs ps [(cx,cy)]).2]):=⟨c_mxs ps hl [(cx,cy)] (show 1 ≤ maxLen by decide) h2 (show 0 < 1 by decide)⟩
 have i2 : HasC Tryz.prog 225 [.sl (ps.map ev),.i ((mxs ps [(cx,cy)]).1 : Nat)] (.agg [.i (nmX ps (mxs ps [(cx,cy)]).1),.i (nmY ps (mxs ps [(cx,cy)]).1)]):=⟨c_enorm ps hl _ hi h2⟩
 have i3 : HasC Tryz.prog 226 [.sl (ps.map ev),.agg [.i cx,.i cy]] (.agg [.i (clo ps cx cy (ps.length - 1)).1,.i (clo ps cx cy (ps.length - 1)).2]):=⟨c_clo ps hl cx cy h2⟩
 unfold pcM pcN
 generalize clo ps cx cy (ps.length - 1) = c at *
 generalize mxs ps [(cx,cy)] = m at *
 obtain ⟨I,G⟩:=m
 obtain ⟨ux,uy⟩:=c
 try simp only at *
 by_cases hg : 0 < G
 ·have e0 : (0 < G) = True:=eq_true hg
  simp only [if_pos hg]
  by_cases hs : fsub (vlen (fsub cx ux) (fsub cy uy)) r' ≤ 1024
  ·have e1 : (fsub (vlen (fsub cx ux) (fsub cy uy)) r' ≤ 1024) = True:=eq_true hs
   rw [fin1_in hs]
   repeat' (first|with_reducible (first|exact HBs.nil|refine HBs.cons (by decide) ?_ ?_|refine BOk.var ?_|exact BOk.nl|refine BOk.row ?_|exact Lts.nil|refine Lts.cons ?_ ?_|exact lt_i _ _|exact lt_b _ _|exact Lt.pt _ _ (by decide)|exact Lt.ow _ _ (by decide)|exact lt_vs _ _|refine lt_agg ?_|refine lt_tup ?_|exact lt_nil|refine lt_cons ?_ ?_|refine Lt.sl _ ?_|refine Lt.clo _ _ ?_)|simp only [go_sem,↓reduceIte,Nat.reduceLT,Nat.reduceEqDiff,Nat.reduceAdd,Nat.reduceLeDiff,Nat.reduceMul,Nat.reduceSub,reduceCtorEq,imp_self,Int.reduceLT,Int.reduceLE,Int.reduceEq,decide_true,decide_false,acond_tt,acond_ff,Int.reduceToNat,List.range_zero,List.range_succ,List.replicate_succ,List.replicate_zero,List.flatten_cons,List.flatten_nil,List.all_cons,List.all_nil,forall_and,true_and,and_true,nc1,half_neg,e1,e0]|refine cst_go ?_|apply cst_in (f:=221) hm Tryz.func221 rfl (by kernel_rfl) Tryz.ntmps221 Tryz.results221 rfl|apply cst_in (f:=302) hm Tryz.func302 rfl (by kernel_rfl) Tryz.ntmps302 Tryz.results302 rfl|apply cst_in (f:=223) hm Tryz.func223 rfl (by kernel_rfl) Tryz.ntmps223 Tryz.results223 rfl|(refine regOk_go ?_; kernel_rfl)|exact ⟨rfl,endJ_go rfl,rfl⟩|refine keys_go rfl|refine keep_go rfl|refine And.intro ?_ ?_)
   all_goals (try rfl)
  ·have e1 : (fsub (vlen (fsub cx ux) (fsub cy uy)) r' ≤ 1024) = False:=eq_false hs
   rw [fin1_out hs]
   repeat' (first|with_reducible (first|exact HBs.nil|refine HBs.cons (by decide) ?_ ?_|refine BOk.var ?_|exact BOk.nl|exact Lts.nil|refine Lts.cons ?_ ?_|exact lt_i _ _|exact lt_b _ _|exact Lt.pt _ _ (by decide)|exact Lt.ow _ _ (by decide)|exact lt_vs _ _|refine lt_agg ?_|refine lt_tup ?_|exact lt_nil|refine lt_cons ?_ ?_|refine Lt.sl _ ?_|refine Lt.clo _ _ ?_)|simp only [go_sem,↓reduceIte,Nat.reduceLT,Nat.reduceEqDiff,Nat.reduceAdd,Nat.reduceLeDiff,Nat.reduceSub,reduceCtorEq,imp_self,Int.reduceLT,Int.reduceLE,decide_true,decide_false,acond_tt,acond_ff,Int.reduceToNat,true_and,and_true,nc1,half_neg,e1,e0]|refine cst_go ?_|apply cst_in (f:=221) hm Tryz.func221 rfl (by kernel_rfl) Tryz.ntmps221 Tryz.results221 rfl|apply cst_in (f:=302) hm Tryz.func302 rfl (by kernel_rfl) Tryz.ntmps302 Tryz.results302 rfl|apply cst_in (f:=223) hm Tryz.func223 rfl (by kernel_rfl) Tryz.ntmps223 Tryz.results223 rfl|(refine regOk_go ?_; kernel_rfl)|exact ⟨rfl,endJ_go rfl,rfl⟩|refine keys_go rfl|refine keep_go rfl|refine And.intro ?_ ?_)
   all_goals (try rfl)
 ·have e0 : (0 < G) = False:=eq_false hg
  simp only [if_neg hg]
  by_cases hs : fsub (G) r' ≤ 1024
  ·have e1 : (fsub (G) r' ≤ 1024) = True:=eq_true hs
   rw [fin1_in hs]
   repeat' (first|with_reducible (first|exact HBs.nil|refine HBs.cons (by decide) ?_ ?_|refine BOk.var ?_|exact BOk.nl|refine BOk.row ?_|exact Lts.nil|refine Lts.cons ?_ ?_|exact lt_i _ _|exact lt_b _ _|exact Lt.pt _ _ (by decide)|exact Lt.ow _ _ (by decide)|exact lt_vs _ _|refine lt_agg ?_|refine lt_tup ?_|exact lt_nil|refine lt_cons ?_ ?_|refine Lt.sl _ ?_|refine Lt.clo _ _ ?_)|simp only [go_sem,↓reduceIte,Nat.reduceLT,Nat.reduceEqDiff,Nat.reduceAdd,Nat.reduceLeDiff,Nat.reduceMul,Nat.reduceSub,reduceCtorEq,imp_self,Int.reduceLT,Int.reduceLE,Int.reduceEq,decide_true,decide_false,acond_tt,acond_ff,Int.reduceToNat,List.range_zero,List.range_succ,List.replicate_succ,List.replicate_zero,List.flatten_cons,List.flatten_nil,List.all_cons,List.all_nil,forall_and,true_and,and_true,nc1,half_neg,e1,e0]|refine cst_go ?_|apply cst_in (f:=221) hm Tryz.func221 rfl (by kernel_rfl) Tryz.ntmps221 Tryz.results221 rfl|apply cst_in (f:=302) hm Tryz.func302 rfl (by kernel_rfl) Tryz.ntmps302 Tryz.results302 rfl|apply cst_in (f:=223) hm Tryz.func223 rfl (by kernel_rfl) Tryz.ntmps223 Tryz.results223 rfl|(refine regOk_go ?_; kernel_rfl)|exact ⟨rfl,endJ_go rfl,rfl⟩|refine keys_go rfl|refine keep_go rfl|refine And.intro ?_ ?_)
   all_goals (try rfl)
  ·have e1 : (fsub (G) r' ≤ 1024) = False:=eq_false hs
   rw [fin1_out hs]
   repeat' (first|with_reducible (first|exact HBs.nil|refine HBs.cons (by decide) ?_ ?_|refine BOk.var ?_|exact BOk.nl|exact Lts.nil|refine Lts.cons ?_ ?_|exact lt_i _ _|exact lt_b _ _|exact Lt.pt _ _ (by decide)|exact Lt.ow _ _ (by decide)|exact lt_vs _ _|refine lt_agg ?_|refine lt_tup ?_|exact lt_nil|refine lt_cons ?_ ?_|refine Lt.sl _ ?_|refine Lt.clo _ _ ?_)|simp only [go_sem,↓reduceIte,Nat.reduceLT,Nat.reduceEqDiff,Nat.reduceAdd,Nat.reduceLeDiff,Nat.reduceSub,reduceCtorEq,imp_self,Int.reduceLT,Int.reduceLE,decide_true,decide_false,acond_tt,acond_ff,Int.reduceToNat,true_and,and_true,nc1,half_neg,e1,e0]|refine cst_go ?_|apply cst_in (f:=221) hm Tryz.func221 rfl (by kernel_rfl) Tryz.ntmps221 Tryz.results221 rfl|apply cst_in (f:=302) hm Tryz.func302 rfl (by kernel_rfl) Tryz.ntmps302 Tryz.results302 rfl|apply cst_in (f:=223) hm Tryz.func223 rfl (by kernel_rfl) Tryz.ntmps223 Tryz.results223 rfl|(refine regOk_go ?_; kernel_rfl)|exact ⟨rfl,endJ_go rfl,rfl⟩|refine keys_go rfl|refine keep_go rfl|refine And.intro ?_ ?_)
   all_goals (try rfl)
end Go.Proofs.YtplmagdbnbijlaaGreat
