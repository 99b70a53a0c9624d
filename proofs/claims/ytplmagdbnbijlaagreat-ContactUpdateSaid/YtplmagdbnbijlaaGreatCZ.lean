/-
  What the reference's functions of chapters 14 and 15 compute. Conditions: none.
-/
import Derived.Test.YtplmagdbnbijlaaGreatCX
import Derived.Outline
import Derived.Test.YtplmagdbnbijlaaGreatC35
import Derived.Test.YtplmagdbnbijlaaGreatMG
import Derived.Test.YtplmagdbnbijlaaGreatCT
set_option maxHeartbeats 4000000
set_option maxRecDepth 20000
set_option linter.all false
namespace Go.Proofs.YtplmagdbnbijlaaGreat
open Go.RowKit Go.AL Go.Carom
theorem c_rsepn (ps : List (Int × Int)) (hl : ps.length ≤ maxLen) (qs : List (Int × Int)) (hm' : qs.length ≤ maxLen) (i : Nat) (hi : i < ps.length) (h2 : 2 ≤ ps.length) (h0 : 0 < qs.length) : PCall Tryz.prog 321 [.sl (ps.map ev),.i i,.sl (qs.map ev)] (.i (sepF ps qs i)):=by
 refine pcall_of hm Tryz.func321 rfl (by kernel_rfl) (by rw [Tryz.ntmps321]; exact Nat.le_of_ble_eq_true rfl) (lt_cons (lt_vs _ _) (lt_cons (lt_i _ _) (lt_cons (lt_vs _ _) lt_nil))) (lt_i _ _) ?_
 rw [Tryz.ntmps321,Tryz.results321]
 have d1:=ilt hi
 have d3:=ev_getD hi
 have g0:=ev_getD (ps:=qs) (i:=0) (by omega)
 have g1 : ((0 : Int) < (qs.length : Int)) = True:=eq_true (by omega)
 have i1 : HasC Tryz.prog 242 [.sl (ps.map ev),.i i] (.agg [.i (nmX ps i),.i (nmY ps i)]):=⟨c_renorm ps hl i hi h2⟩
 repeat' (first|simp only [go_sem,↓reduceIte,Nat.reduceLT,Nat.reduceEqDiff,Nat.reduceAdd,Nat.reduceLeDiff,reduceCtorEq,imp_self,Int.reduceLE,Int.reduceToNat,icast,inn,List.length_map,true_and,and_true,d1,d3,g0,g1]|refine cst_go ?_|(refine regOk_go ?_; kernel_rfl)|refine And.intro ?_ ?_)
 refine tr_lp hm [0,1,2,7] [0] (fun x : Fs (qs.length - 1)=>[(8,.i (mnF (sdot (nmX ps i) (nmY ps i) (vx ps i) (vy ps i) qs) x.i)),(9,.i (x.i + 1 : Nat))]) (fun x : Fs (qs.length - 1)=>[]) (fun x=>qs.length - 1 - x.i) (Fs.start _) ?_ ?_ ?_
 ·repeat' (first|exact tw_nil|refine tw_cons rfl ?_ ?_|exact lt_i _ _|exact Lt.pt _ _ (by decide)|exact lt_vs _ _)
 ·repeat' (first|exact hw_nil|refine hw_cons (by decide) rfl bwk_rfl ?_ ?_|exact lt_i _ _|refine lt_agg ?_|exact lt_nil|refine lt_cons ?_ ?_)
 ·rintro ⟨j,hj⟩
  by_cases hlt : j < qs.length - 1
  ·have hlt' : j + 1 < qs.length:=by omega
   have e1:=ilt hlt'
   have e2:=isucc hlt' hm'
   have e3:=ev_getD hlt'
   repeat' (first|simp only [go_sem,↓reduceIte,Nat.reduceLT,Nat.reduceEqDiff,Nat.reduceAdd,Nat.reduceLeDiff,reduceCtorEq,imp_self,decide_true,acond_tt,icast,inn,List.length_map,true_and,and_true,d1,d3,e1,e2,e3]|refine cst_go ?_|(refine regOk_go ?_; kernel_rfl)|refine And.intro ?_ ?_)
   refine ⟨Fs.next hlt,Nat.sub_lt_sub_left hlt (Nat.lt_succ_self _),wk_go (by decide) ?_ ?_⟩
   ·repeat' (first|exact tw_nil|refine tw_cons rfl ?_ ?_|exact lt_i _ _|exact Lt.pt _ _ (by decide)|exact lt_vs _ _)
   ·repeat' (first|exact hw_nil|refine hw_cons (by decide) rfl bwk_rfl ?_ ?_|exact lt_i _ _|refine lt_agg ?_|exact lt_nil|refine lt_cons ?_ ?_)
  ·have f1:=inlt (i:=j + 1) (n:=qs.length) (by omega)
   have hii : j = qs.length - 1:=by omega
   subst hii
   repeat' (first|simp only [go_sem,↓reduceIte,Nat.reduceLT,Nat.reduceEqDiff,Nat.reduceAdd,reduceCtorEq,decide_false,acond_ff,List.length_map,true_and,and_true,f1])
   all_goals rfl
theorem c_rmxs (ps : List (Int × Int)) (hl : ps.length ≤ maxLen) (qs : List (Int × Int)) (hm' : qs.length ≤ maxLen) (h2 : 2 ≤ ps.length) (h0 : 0 < qs.length) : PCall Tryz.prog 241 [.sl (ps.map ev),.sl (qs.map ev)] (.tup [.i ((mxs ps qs).1 : Nat),.i (mxs ps qs).2]):=by
 refine pcall_of hm Tryz.func241 rfl (by kernel_rfl) (by rw [Tryz.ntmps241]; exact Nat.le_of_ble_eq_true rfl) (lt_cons (lt_vs _ _) (lt_cons (lt_vs _ _) lt_nil)) (lt_tup (lt_cons (lt_i _ _) (lt_cons (lt_i _ _) lt_nil))) ?_
 rw [Tryz.ntmps241,Tryz.results241]
 have k1 : ((ps.length : Int) < 2) = False:=eq_false (by omega)
 have k2 : ((qs.length : Int) = 0) = False:=eq_false (by omega)
 have i1 : HasC Tryz.prog 321 [.sl (ps.map ev),.i 0,.sl (qs.map ev)] (.i (sepF ps qs 0)):=⟨c_rsepn ps hl qs hm' 0 (by omega) h2 h0⟩
 repeat' (first|simp only [go_sem,↓reduceIte,Nat.reduceLT,Nat.reduceEqDiff,Nat.reduceAdd,reduceCtorEq,imp_self,Int.reduceNeg,decide_false,acond_ff,List.length_map,true_and,and_true,Bool.false_and,k1,k2]|refine cst_go ?_)
 refine tr_lp hm [0,1] [] (fun x : Fs (ps.length - 1)=>[(6,.i ((mxG (sepF ps qs) x.i).1 : Nat)),(7,.i (mxG (sepF ps qs) x.i).2),(8,.i (x.i + 1 : Nat))]) (fun x : Fs (ps.length - 1)=>[]) (fun x=>ps.length - 1 - x.i) (Fs.start _) ?_ ?_ ?_
 ·repeat' (first|exact tw_nil|refine tw_cons rfl ?_ ?_|exact lt_i _ _|exact lt_vs _ _)
 ·repeat' (first|exact hw_nil)
 ·rintro ⟨i,hi⟩
  by_cases hlt : i < ps.length - 1
  ·have hlt' : i + 1 < ps.length:=by omega
   have e1:=ilt hlt'
   have e2:=isucc hlt' hl
   have i2 : HasC Tryz.prog 321 [.sl (ps.map ev),.i ((i + 1 : Nat) : Int),.sl (qs.map ev)] (.i (sepF ps qs (i + 1))):=⟨c_rsepn ps hl qs hm' (i + 1) hlt' h2 h0⟩
   repeat' (first|simp only [go_sem,↓reduceIte,Nat.reduceLT,Nat.reduceEqDiff,Nat.reduceAdd,reduceCtorEq,decide_true,acond_tt,List.length_map,true_and,and_true,e1,e2]|refine cst_go ?_|refine acond_split (fun _=>?_) (fun _=>?_))
   ·rename_i hc
    have hu : mxG (sepF ps qs) (i + 1) = (i + 1,(sepF ps qs) (i + 1)):=if_pos (of_decide_eq_true hc)
    refine ⟨Fs.next hlt,Nat.sub_lt_sub_left hlt (Nat.lt_succ_self _),wk_go (by decide) ?_ ?_⟩
    ·refine tw_cons (leaf_i ((show (((mxG (sepF ps qs) (i + 1)).1 : Nat) : Int) = _ by rw [hu])).symm) (lt_i _ _) (tw_cons (leaf_i ((show (mxG (sepF ps qs) (i + 1)).2 = _ by rw [hu] <;> rfl)).symm) (lt_i _ _) (?_))
     repeat' (first|exact tw_nil|refine tw_cons rfl ?_ ?_|exact lt_i _ _|exact lt_vs _ _)
    ·repeat' (first|exact hw_nil)
   ·rename_i hc
    have hu : mxG (sepF ps qs) (i + 1) = mxG (sepF ps qs) i:=if_neg (of_decide_eq_false hc)
    refine ⟨Fs.next hlt,Nat.sub_lt_sub_left hlt (Nat.lt_succ_self _),wk_go (by decide) ?_ ?_⟩
    ·refine tw_cons (leaf_i ((show (((mxG (sepF ps qs) (i + 1)).1 : Nat) : Int) = _ by rw [hu])).symm) (lt_i _ _) (tw_cons (leaf_i ((show (mxG (sepF ps qs) (i + 1)).2 = _ by rw [hu] <;> rfl)).symm) (lt_i _ _) (?_))
     repeat' (first|exact tw_nil|refine tw_cons rfl ?_ ?_|exact lt_i _ _|exact lt_vs _ _)
    ·repeat' (first|exact hw_nil)
  ·have f1:=inlt (i:=i + 1) (n:=ps.length) (by omega)
   have hii : i = ps.length - 1:=by omega
   subst hii
   repeat' (first|simp only [go_sem,↓reduceIte,Nat.reduceLT,Nat.reduceEqDiff,Nat.reduceAdd,reduceCtorEq,decide_false,acond_ff,List.length_map,true_and,and_true,f1])
   all_goals rfl
theorem c_rinc (ps : List (Int × Int)) (hl : ps.length ≤ maxLen) (nx ny : Int) (h2 : 2 ≤ ps.length) : PCall Tryz.prog 323 [.sl (ps.map ev),.agg [.i nx,.i ny]] (.i (incE ps nx ny : Nat)):=by
 refine pcall_of hm Tryz.func323 rfl (by kernel_rfl) (by rw [Tryz.ntmps323]; exact Nat.le_of_ble_eq_true rfl) (lt_cons (lt_vs _ _) (lt_cons (lt_agg (lt_cons (lt_i _ _) (lt_cons (lt_i _ _) lt_nil))) lt_nil)) (lt_i _ _) ?_
 rw [Tryz.ntmps323,Tryz.results323]
 have k1 : ((ps.length : Int) < 2) = False:=eq_false (by omega)
 have i1 : HasC Tryz.prog 242 [.sl (ps.map ev),.i 0] (.agg [.i (nmX ps 0),.i (nmY ps 0)]):=⟨c_renorm ps hl 0 (by omega) h2⟩
 repeat' (first|simp only [go_sem,↓reduceIte,Nat.reduceLT,Nat.reduceEqDiff,Nat.reduceAdd,Nat.reduceLeDiff,reduceCtorEq,imp_self,Int.reduceNeg,decide_false,acond_ff,List.length_map,true_and,and_true,k1]|refine cst_go ?_|(refine regOk_go ?_; kernel_rfl)|refine And.intro ?_ ?_)
 refine tr_lp hm [0,3] [0] (fun x : Fs (ps.length - 1)=>[(5,.i ((mnG (incF ps nx ny) x.i).1 : Nat)),(6,.i (mnG (incF ps nx ny) x.i).2),(7,.i (x.i + 1 : Nat))]) (fun x : Fs (ps.length - 1)=>[]) (fun x=>ps.length - 1 - x.i) (Fs.start _) ?_ ?_ ?_
 ·repeat' (first|exact tw_nil|refine tw_cons rfl ?_ ?_|exact lt_i _ _|exact Lt.pt _ _ (by decide)|exact lt_vs _ _)
 ·repeat' (first|exact hw_nil|refine hw_cons (by decide) rfl bwk_rfl ?_ ?_|exact lt_i _ _|refine lt_agg ?_|exact lt_nil|refine lt_cons ?_ ?_)
 ·rintro ⟨i,hi⟩
  by_cases hlt : i < ps.length - 1
  ·have hlt' : i + 1 < ps.length:=by omega
   have e1:=ilt hlt'
   have e2:=isucc hlt' hl
   have i2 : HasC Tryz.prog 242 [.sl (ps.map ev),.i ((i + 1 : Nat) : Int)] (.agg [.i (nmX ps (i + 1)),.i (nmY ps (i + 1))]):=⟨c_renorm ps hl (i + 1) hlt' h2⟩
   repeat' (first|simp only [go_sem,↓reduceIte,Nat.reduceLT,Nat.reduceEqDiff,Nat.reduceAdd,Nat.reduceLeDiff,reduceCtorEq,imp_self,decide_true,acond_tt,List.length_map,true_and,and_true,e1,e2]|refine cst_go ?_|(refine regOk_go ?_; kernel_rfl)|refine acond_split (fun _=>?_) (fun _=>?_)|refine And.intro ?_ ?_)
   ·rename_i hc
    have hu : mnG (incF ps nx ny) (i + 1) = (i + 1,(incF ps nx ny) (i + 1)):=if_pos (of_decide_eq_true hc)
    refine ⟨Fs.next hlt,Nat.sub_lt_sub_left hlt (Nat.lt_succ_self _),wk_go (by decide) ?_ ?_⟩
    ·refine tw_cons (leaf_i ((show (((mnG (incF ps nx ny) (i + 1)).1 : Nat) : Int) = _ by rw [hu])).symm) (lt_i _ _) (tw_cons (leaf_i ((show (mnG (incF ps nx ny) (i + 1)).2 = _ by rw [hu] <;> rfl)).symm) (lt_i _ _) (?_))
     repeat' (first|exact tw_nil|refine tw_cons rfl ?_ ?_|exact lt_i _ _|exact Lt.pt _ _ (by decide)|exact lt_vs _ _)
    ·repeat' (first|exact hw_nil|refine hw_cons (by decide) rfl bwk_rfl ?_ ?_|exact lt_i _ _|refine lt_agg ?_|exact lt_nil|refine lt_cons ?_ ?_)
   ·rename_i hc
    have hu : mnG (incF ps nx ny) (i + 1) = mnG (incF ps nx ny) i:=if_neg (of_decide_eq_false hc)
    refine ⟨Fs.next hlt,Nat.sub_lt_sub_left hlt (Nat.lt_succ_self _),wk_go (by decide) ?_ ?_⟩
    ·refine tw_cons (leaf_i ((show (((mnG (incF ps nx ny) (i + 1)).1 : Nat) : Int) = _ by rw [hu])).symm) (lt_i _ _) (tw_cons (leaf_i ((show (mnG (incF ps nx ny) (i + 1)).2 = _ by rw [hu] <;> rfl)).symm) (lt_i _ _) (?_))
     repeat' (first|exact tw_nil|refine tw_cons rfl ?_ ?_|exact lt_i _ _|exact Lt.pt _ _ (by decide)|exact lt_vs _ _)
    ·repeat' (first|exact hw_nil|refine hw_cons (by decide) rfl bwk_rfl ?_ ?_|exact lt_i _ _|refine lt_agg ?_|exact lt_nil|refine lt_cons ?_ ?_)
  ·have f1:=inlt (i:=i + 1) (n:=ps.length) (by omega)
   have hii : i = ps.length - 1:=by omega
   subst hii
   repeat' (first|simp only [go_sem,↓reduceIte,Nat.reduceLT,Nat.reduceEqDiff,Nat.reduceAdd,reduceCtorEq,decide_false,acond_ff,List.length_map,true_and,and_true,f1])
   all_goals rfl
theorem c_rhpl0 (ox oy nx ny : Int) : PCall Tryz.prog 354 [.sl [],.agg [.i ox,.i oy],.agg [.i nx,.i ny]] (.sl []):=by
 refine pcall_of hm Tryz.func354 rfl (by kernel_rfl) (by rw [Tryz.ntmps354]; exact Nat.le_of_ble_eq_true rfl) (lt_cons (.sl _ lt_nil) (lt_cons (lt_agg (lt_cons (lt_i _ _) (lt_cons (lt_i _ _) lt_nil))) (lt_cons (lt_agg (lt_cons (lt_i _ _) (lt_cons (lt_i _ _) lt_nil))) lt_nil))) (.sl _ lt_nil) ?_
 rw [Tryz.ntmps354,Tryz.results354]
 have k00 : ((0 : Nat) : Int) = 0:=rfl
 repeat' (first|simp only [go_sem,↓reduceIte,Nat.reduceLT,Nat.reduceEqDiff,Nat.reduceAdd,reduceCtorEq,Int.reduceEq,decide_false,acond_tt,and_true,k00])
 all_goals rfl
theorem c_rhpl (ax ay ai bx byy bi ox oy nx ny : Int) : PCall Tryz.prog 354 [.sl [.agg [.i ax,.i ay,.i ai],.agg [.i bx,.i byy,.i bi]],.agg [.i ox,.i oy],.agg [.i nx,.i ny]] (.sl ((hplane [CV.mk ax ay ai,CV.mk bx byy bi] ox oy nx ny).map CV.v)):=by
 refine pcall_of hm Tryz.func354 rfl (by kernel_rfl) (by rw [Tryz.ntmps354]; exact Nat.le_of_ble_eq_true rfl) (lt_cons (.sl _ (lt_cons (lt_agg (lt_cons (lt_i _ _) (lt_cons (lt_i _ _) (lt_cons (lt_i _ _) lt_nil)))) (lt_cons (lt_agg (lt_cons (lt_i _ _) (lt_cons (lt_i _ _) (lt_cons (lt_i _ _) lt_nil)))) lt_nil))) (lt_cons (lt_agg (lt_cons (lt_i _ _) (lt_cons (lt_i _ _) lt_nil))) (lt_cons (lt_agg (lt_cons (lt_i _ _) (lt_cons (lt_i _ _) lt_nil))) lt_nil))) (lt_cvs _ _) ?_
 rw [Tryz.ntmps354,Tryz.results354]
 have hd : ∀ c : CV,-536870911 ≤ c.d ox oy nx ny ∧ c.d ox oy nx ny ≤ 536870911:=fun c=>⟨sat_ge _,sat_le _⟩
 have h1:=hd (CV.mk ax ay ai)
 have h2:=hd (CV.mk bx byy bi)
 have q1 : vdot nx ny (fsub ax ox) (fsub ay oy) = (CV.mk ax ay ai).d ox oy nx ny:=rfl
 have q2 : vdot nx ny (fsub bx ox) (fsub byy oy) = (CV.mk bx byy bi).d ox oy nx ny:=rfl
 have k22 : ((2 : Nat) : Int) = 2:=rfl
 have w1 : IntKind.i64.wrap ((CV.mk ax ay ai).d ox oy nx ny - (CV.mk bx byy bi).d ox oy nx ny) = (CV.mk ax ay ai).d ox oy nx ny - (CV.mk bx byy bi).d ox oy nx ny:=w64_id (by omega) (by omega)
 have w2 : IntKind.i64.wrap ((CV.mk bx byy bi).d ox oy nx ny - (CV.mk ax ay ai).d ox oy nx ny) = (CV.mk bx byy bi).d ox oy nx ny - (CV.mk ax ay ai).d ox oy nx ny:=w64_id (by omega) (by omega)
 by_cases x1 : 0 < (CV.mk ax ay ai).d ox oy nx ny
 ·have d1 : (0 < (CV.mk ax ay ai).d ox oy nx ny) = True:=eq_true x1
  by_cases x2 : 0 < (CV.mk bx byy bi).d ox oy nx ny
  ·have d2 : (0 < (CV.mk bx byy bi).d ox oy nx ny) = True:=eq_true x2
   rw [hp_0 (by rw [decide_eq_true x1,decide_eq_true x2]; rfl)]
   repeat' (first|simp only [go_sem,↓reduceIte,Nat.reduceLT,Nat.reduceEqDiff,Nat.reduceAdd,Nat.reduceLeDiff,reduceCtorEq,imp_self,Int.reduceLT,Int.reduceLE,decide_true,acond_tt,acond_ff,Int.reduceToNat,true_and,and_true,q1,q2,k22,d1,d2]|refine cst_go ?_|(refine regOk_go ?_; kernel_rfl)|refine And.intro ?_ ?_)
   all_goals (try rfl)
  ·have d2 : (0 < (CV.mk bx byy bi).d ox oy nx ny) = False:=eq_false x2
   rw [hp_1 (by rw [decide_eq_false x2,Bool.and_false]) (decide_eq_true x1)]
   repeat' (first|simp only [go_sem,↓reduceIte,Nat.reduceLT,Nat.reduceEqDiff,Nat.reduceAdd,Nat.reduceLeDiff,Nat.reduceMul,reduceCtorEq,imp_self,Int.reduceLT,Int.reduceLE,decide_true,decide_false,acond_tt,acond_ff,Int.reduceToNat,List.range_zero,List.range_succ,List.replicate_succ,List.replicate_zero,List.flatten_cons,List.flatten_nil,List.all_cons,List.all_nil,true_and,and_true,Bool.and_false,q1,q2,k22,w1,d1,d2]|refine cst_go ?_|(refine regOk_go ?_; kernel_rfl)|refine And.intro ?_ ?_)
   all_goals (try rfl)
 ·have d1 : (0 < (CV.mk ax ay ai).d ox oy nx ny) = False:=eq_false x1
  by_cases x2 : 0 < (CV.mk bx byy bi).d ox oy nx ny
  ·have d2 : (0 < (CV.mk bx byy bi).d ox oy nx ny) = True:=eq_true x2
   rw [hp_2 (decide_eq_false x1) (decide_eq_true x2)]
   repeat' (first|simp only [go_sem,↓reduceIte,Nat.reduceLT,Nat.reduceEqDiff,Nat.reduceAdd,Nat.reduceLeDiff,Nat.reduceMul,reduceCtorEq,imp_self,Int.reduceLT,Int.reduceLE,decide_true,decide_false,acond_tt,acond_ff,Int.reduceToNat,List.range_zero,List.range_succ,List.replicate_succ,List.replicate_zero,List.flatten_cons,List.flatten_nil,List.all_cons,List.all_nil,true_and,and_true,Bool.false_and,q1,q2,k22,w2,d1,d2]|refine cst_go ?_|(refine regOk_go ?_; kernel_rfl)|refine And.intro ?_ ?_)
   all_goals (try rfl)
  ·have d2 : (0 < (CV.mk bx byy bi).d ox oy nx ny) = False:=eq_false x2
   rw [hp_3 (decide_eq_false x1) (decide_eq_false x2)]
   repeat' (first|simp only [go_sem,↓reduceIte,Nat.reduceLT,Nat.reduceEqDiff,Nat.reduceAdd,Nat.reduceLeDiff,Nat.reduceMul,reduceCtorEq,imp_self,Int.reduceLT,Int.reduceLE,decide_true,decide_false,acond_ff,Int.reduceToNat,List.range_zero,List.range_succ,List.replicate_succ,List.replicate_zero,List.flatten_cons,List.flatten_nil,List.all_cons,List.all_nil,true_and,and_true,Bool.and_false,q1,q2,k22,d1,d2]|refine cst_go ?_|(refine regOk_go ?_; kernel_rfl)|refine And.intro ?_ ?_)
   all_goals (try rfl)
theorem c_rtoe (ps : List (Int × Int)) (hl : ps.length ≤ maxLen) (qs : List (Int × Int)) (hm' : qs.length ≤ maxLen) (i : Nat) (hi : i < ps.length) (h2 : 2 ≤ ps.length) (k : Nat) (hk : k < qs.length) (h2' : 2 ≤ qs.length) : PCall Tryz.prog 324 [.sl (ps.map ev),.i i,.sl (qs.map ev),.i k] (.sl ((toE ps i qs k).map CV.v)):=by
  refine pcall_of hm Tryz.func324 rfl (by kernel_rfl) (by rw [Tryz.ntmps324]; exact Nat.le_of_ble_eq_true rfl) (lt_cons (lt_vs _ _) (lt_cons (lt_i _ _) (lt_cons (lt_vs _ _) (lt_cons (lt_i _ _) lt_nil)))) (lt_cvs _ _) ?_
  rw [Tryz.ntmps324,Tryz.results324]
  have e1:=ilt hi
  have e2:=isucc hi hl
  have e3:=ev_getD hi
  have e4:=imod hi
  have e5:=ine0 hi
  have e6:=imlt' hi
  have e7:=ev_getD (imod_lt hi)
  have e8 : ((ps.length : Int) < 2) = False:=eq_false (by omega)
  have e9 : ((i : Int) < 0) = False:=eq_false (by omega)
  have f1 : ((ps.length : Int) ≤ (i : Int)) = False:=eq_false (by omega)
  have E1:=ilt hk
  have E2:=isucc hk hm'
  have E3:=ev_getD hk
  have E4:=imod hk
  have E5:=ine0 hk
  have E6:=imlt' hk
  have E7:=ev_getD (imod_lt hk)
  have E8 : ((qs.length : Int) < 2) = False:=eq_false (by omega)
  have E9 : ((k : Int) < 0) = False:=eq_false (by omega)
  have F1 : ((qs.length : Int) ≤ (k : Int)) = False:=eq_false (by omega)
  have hdr:=drXY_bd ps i
  have ng1 : IntKind.i64.wrap (0 - drX ps i) = -drX ps i:=by rw [w64_id (by omega) (by omega)]; omega
  have ng2 : IntKind.i64.wrap (0 - drY ps i) = -drY ps i:=by rw [w64_id (by omega) (by omega)]; omega
  have i1 : HasC Tryz.prog 353 [.sl (ps.map ev),.i i] (.agg [.i (drX ps i),.i (drY ps i)]):=⟨c_redir ps hl i hi h2⟩
  have i2 : HasC Tryz.prog 354 [.sl [.agg [.i (vx qs k),.i (vy qs k),.i 0],.agg [.i (vx qs ((k + 1) % qs.length)),.i (vy qs ((k + 1) % qs.length)),.i 1]],.agg [.i (vx ps ((i + 1) % ps.length)),.i (vy ps ((i + 1) % ps.length))],.agg [.i (drX ps i),.i (drY ps i)]] (.sl ((hplane (toE0 qs k) (vx ps ((i + 1) % ps.length)) (vy ps ((i + 1) % ps.length)) (drX ps i) (drY ps i)).map CV.v)):=⟨c_rhpl _ _ _ _ _ _ _ _ _ _⟩
  have hcut : Cut (hplane (toE0 qs k) (vx ps ((i + 1) % ps.length)) (vy ps ((i + 1) % ps.length)) (drX ps i) (drY ps i)):=hplane_cut (toE0_cut qs k) _ _ _ _
  have hres : toE ps i qs k = hplane (hplane (toE0 qs k) (vx ps ((i + 1) % ps.length)) (vy ps ((i + 1) % ps.length)) (drX ps i) (drY ps i)) (vx ps i) (vy ps i) (-drX ps i) (-drY ps i):=by rw [← fmul_m1 hdr.1.1 hdr.1.2,← fmul_m1 hdr.2.1 hdr.2.2]; rfl
  rw [hres]
  clear hres
  generalize (hplane (toE0 qs k) (vx ps ((i + 1) % ps.length)) (vy ps ((i + 1) % ps.length)) (drX ps i) (drY ps i)) = L at *
  have i3 : HasC Tryz.prog 354 [.sl (L.map CV.v),.agg [.i (vx ps i),.i (vy ps i)],.agg [.i (-drX ps i),.i (-drY ps i)]] (.sl ((hplane L (vx ps i) (vy ps i) (-drX ps i) (-drY ps i)).map CV.v)):=⟨by
    rcases hcut with h|⟨a,b,h,_,_⟩
    · rw [h]; exact c_rhpl0 _ _ _ _
    · rw [h]; exact c_rhpl a.x a.y a.id b.x b.y b.id _ _ _ _⟩
  repeat' (first|simp only [go_sem,↓reduceIte,Nat.reduceLT,Nat.reduceEqDiff,Nat.reduceAdd,Nat.reduceLeDiff,Nat.reduceMul,reduceCtorEq,imp_self,decide_false,acond_ff,ne_eq,List.range_zero,List.range_succ,List.replicate_succ,List.replicate_zero,List.flatten_cons,List.flatten_nil,List.all_cons,List.all_nil,icast,inn,List.length_map,true_and,and_true,Bool.false_and,e1,e2,e3,e4,e5,e6,e7,e8,e9,f1,E1,E2,E3,E4,E5,E6,E7,E8,E9,F1,ng1,ng2]|refine cst_go ?_|(refine regOk_go ?_; kernel_rfl)|refine And.intro ?_ ?_)
  all_goals rfl
end Go.Proofs.YtplmagdbnbijlaaGreat
/-
 What the reference's functions of chapter 16 compute. Conditions: none.
-/
namespace Go.Proofs.YtplmagdbnbijlaaGreat
open Go.RowKit Go.AL Go.Carom
theorem c_rseg16 (ps : List (Int × Int)) (hl : ps.length ≤ maxLen) (qs : List (Int × Int)) (hm' : qs.length ≤ maxLen) (r r' : Int) (h1 : 0 < ps.length) (h1' : 0 < qs.length) : PCall Tryz.prog 153 [.sl (ps.map ev),.i r,.sl (qs.map ev),.i r'] (.tup [(rndM (vx ps 0) (vy ps 0) (vx ps (ps.length - 1)) (vy ps (ps.length - 1)) r (vx qs 0) (vy qs 0) (vx qs (qs.length - 1)) (vy qs (qs.length - 1)) r' : Mf).v,.b (rndM (vx ps 0) (vy ps 0) (vx ps (ps.length - 1)) (vy ps (ps.length - 1)) r (vx qs 0) (vy qs 0) (vx qs (qs.length - 1)) (vy qs (qs.length - 1)) r').ok]):=by
 refine pcall_of hm Tryz.func153 rfl (by kernel_rfl) (by rw [Tryz.ntmps153]; exact Nat.le_of_ble_eq_true rfl) (lt_cons (lt_vs _ _) (lt_cons (lt_i _ _) (lt_cons (lt_vs _ _) (lt_cons (lt_i _ _) lt_nil)))) (lt_tup (lt_cons (lt_mf _ _) (lt_cons (lt_b _ _) lt_nil))) ?_
 rw [Tryz.ntmps153,Tryz.results153]
 have g0:=ev_getD (ps:=ps) (i:=0) (by omega)
 have g1 : ((0 : Int) < (ps.length : Int)) = True:=eq_true (by omega)
 have g2 : IntKind.i64.wrap ((ps.length : Int) - 1) = ((ps.length - 1 : Nat) : Int):=by rw [w64_id (by omega) (by have : maxLen = 9223372036854775807:=rfl; omega)]; omega
 have g3:=ev_getD (ps:=ps) (i:=ps.length - 1) (by omega)
 have g4:=ilt (i:=ps.length - 1) (n:=ps.length) (by omega)
 have G0:=ev_getD (ps:=qs) (i:=0) (by omega)
 have G1 : ((0 : Int) < (qs.length : Int)) = True:=eq_true (by omega)
 have G2 : IntKind.i64.wrap ((qs.length : Int) - 1) = ((qs.length - 1 : Nat) : Int):=by rw [w64_id (by omega) (by have : maxLen = 9223372036854775807:=rfl; omega)]; omega
 have G3:=ev_getD (ps:=qs) (i:=qs.length - 1) (by omega)
 have G4:=ilt (i:=qs.length - 1) (n:=qs.length) (by omega)
 have i1 : HasC Tryz.prog 236 [.agg [.i (vx ps 0),.i (vy ps 0)],.agg [.i (vx ps (ps.length - 1)),.i (vy ps (ps.length - 1))],.agg [.i (vx qs 0),.i (vy qs 0)],.agg [.i (vx qs (qs.length - 1)),.i (vy qs (qs.length - 1))]] (.tup [.agg [.i (cps (vx ps 0) (vy ps 0) (vx ps (ps.length - 1)) (vy ps (ps.length - 1)) (vx qs 0) (vy qs 0) (vx qs (qs.length - 1)) (vy qs (qs.length - 1))).a,.i (cps (vx ps 0) (vy ps 0) (vx ps (ps.length - 1)) (vy ps (ps.length - 1)) (vx qs 0) (vy qs 0) (vx qs (qs.length - 1)) (vy qs (qs.length - 1))).b],.agg [.i (cps (vx ps 0) (vy ps 0) (vx ps (ps.length - 1)) (vy ps (ps.length - 1)) (vx qs 0) (vy qs 0) (vx qs (qs.length - 1)) (vy qs (qs.length - 1))).c,.i (cps (vx ps 0) (vy ps 0) (vx ps (ps.length - 1)) (vy ps (ps.length - 1)) (vx qs 0) (vy qs 0) (vx qs (qs.length - 1)) (vy qs (qs.length - 1))).d]]):=⟨c_rcps _ _ _ _ _ _ _ _⟩
 have hM0 : rndM (vx ps 0) (vy ps 0) (vx ps (ps.length - 1)) (vy ps (ps.length - 1)) r (vx qs 0) (vy qs 0) (vx qs (qs.length - 1)) (vy qs (qs.length - 1)) r' = rndQ (cps (vx ps 0) (vy ps 0) (vx ps (ps.length - 1)) (vy ps (ps.length - 1)) (vx qs 0) (vy qs 0) (vx qs (qs.length - 1)) (vy qs (qs.length - 1))) r r':=rfl
 rw [hM0]
 clear hM0
 generalize cps (vx ps 0) (vy ps 0) (vx ps (ps.length - 1)) (vy ps (ps.length - 1)) (vx qs 0) (vy qs 0) (vx qs (qs.length - 1)) (vy qs (qs.length - 1)) = q at *
 have q1 : fsub (fsub (vlen (fsub q.c q.a) (fsub q.d q.b)) r) r' = rndS q r r':=rfl
 have q2 : rndX q = if vlen (fsub q.c q.a) (fsub q.d q.b) = 0 then 0 else vnx (fsub q.c q.a) (fsub q.d q.b):=rfl
 have q3 : rndY q = if vlen (fsub q.c q.a) (fsub q.d q.b) = 0 then 65536 else vny (fsub q.c q.a) (fsub q.d q.b):=rfl
 by_cases hz : vlen (fsub q.c q.a) (fsub q.d q.b) = 0
 ·have e0 : (vlen (fsub q.c q.a) (fsub q.d q.b) = 0) = True:=eq_true hz
  rw [if_pos hz] at q2 q3
  by_cases hs : rndS q r r' ≤ 1024
  ·have e1 : (1024 < rndS q r r') = False:=eq_false (by omega)
   have hM : rndQ q r r' = _:=fin1_in hs
   rw [hM,q2,q3]
   repeat' (first|simp only [go_sem,↓reduceIte,Nat.reduceLT,Nat.reduceEqDiff,Nat.reduceAdd,Nat.reduceLeDiff,Nat.reduceMul,reduceCtorEq,imp_self,Int.reduceLE,decide_true,decide_false,acond_tt,acond_ff,Int.reduceToNat,List.range_zero,List.range_succ,List.replicate_succ,List.replicate_zero,List.flatten_cons,List.flatten_nil,List.all_cons,List.all_nil,icast,inn,List.length_map,true_and,and_true,g0,g1,g2,g3,g4,G0,G1,G2,G3,G4,q1,e0,e1]|refine cst_go ?_|(refine regOk_go ?_; kernel_rfl)|refine And.intro ?_ ?_)
   all_goals (try rfl)
  ·have e1 : (1024 < rndS q r r') = True:=eq_true (by omega)
   have hM : rndQ q r r' = _:=fin1_out hs
   rw [hM]
   repeat' (first|simp only [go_sem,↓reduceIte,Nat.reduceLT,Nat.reduceEqDiff,Nat.reduceAdd,Nat.reduceLeDiff,reduceCtorEq,imp_self,Int.reduceLE,decide_true,acond_tt,Int.reduceToNat,icast,inn,List.length_map,true_and,and_true,g0,g1,g2,g3,g4,G0,G1,G2,G3,G4,q1,e0,e1]|refine cst_go ?_|(refine regOk_go ?_; kernel_rfl)|refine And.intro ?_ ?_)
   all_goals (try rfl)
 ·have e0 : (vlen (fsub q.c q.a) (fsub q.d q.b) = 0) = False:=eq_false hz
  rw [if_neg hz] at q2 q3
  by_cases hs : rndS q r r' ≤ 1024
  ·have e1 : (1024 < rndS q r r') = False:=eq_false (by omega)
   have hM : rndQ q r r' = _:=fin1_in hs
   rw [hM,q2,q3]
   repeat' (first|simp only [go_sem,↓reduceIte,Nat.reduceLT,Nat.reduceEqDiff,Nat.reduceAdd,Nat.reduceLeDiff,Nat.reduceMul,reduceCtorEq,imp_self,Int.reduceLE,decide_false,acond_ff,Int.reduceToNat,List.range_zero,List.range_succ,List.replicate_succ,List.replicate_zero,List.flatten_cons,List.flatten_nil,List.all_cons,List.all_nil,icast,inn,List.length_map,true_and,and_true,g0,g1,g2,g3,g4,G0,G1,G2,G3,G4,q1,e0,e1]|refine cst_go ?_|(refine regOk_go ?_; kernel_rfl)|refine And.intro ?_ ?_)
   all_goals (try rfl)
  ·have e1 : (1024 < rndS q r r') = True:=eq_true (by omega)
   have hM : rndQ q r r' = _:=fin1_out hs
   rw [hM]
   repeat' (first|simp only [go_sem,↓reduceIte,Nat.reduceLT,Nat.reduceEqDiff,Nat.reduceAdd,Nat.reduceLeDiff,reduceCtorEq,imp_self,Int.reduceLE,decide_true,decide_false,acond_tt,acond_ff,Int.reduceToNat,icast,inn,List.length_map,true_and,and_true,g0,g1,g2,g3,g4,G0,G1,G2,G3,G4,q1,e0,e1]|refine cst_go ?_|(refine regOk_go ?_; kernel_rfl)|refine And.intro ?_ ?_)
   all_goals (try rfl)
theorem pc_eq_pos {a : List (Int × Int)} {cx cy s : Int} (h : 0 < (mxs a [(cx,cy)]).2) : pcM a cx cy s = Mf.fin ⟨(if 0 < vlen (fsub cx (clo a cx cy (a.length - 1)).1) (fsub cy (clo a cx cy (a.length - 1)).2) then vnx (fsub cx (clo a cx cy (a.length - 1)).1) (fsub cy (clo a cx cy (a.length - 1)).2) else nmX a (mxs a [(cx,cy)]).1),(if 0 < vlen (fsub cx (clo a cx cy (a.length - 1)).1) (fsub cy (clo a cx cy (a.length - 1)).2) then vny (fsub cx (clo a cx cy (a.length - 1)).1) (fsub cy (clo a cx cy (a.length - 1)).2) else nmY a (mxs a [(cx,cy)]).1),
    addP (if 0 < vlen (fsub cx (clo a cx cy (a.length - 1)).1) (fsub cy (clo a cx cy (a.length - 1)).2) then vnx (fsub cx (clo a cx cy (a.length - 1)).1) (fsub cy (clo a cx cy (a.length - 1)).2) else nmX a (mxs a [(cx,cy)]).1) (if 0 < vlen (fsub cx (clo a cx cy (a.length - 1)).1) (fsub cy (clo a cx cy (a.length - 1)).2) then vny (fsub cx (clo a cx cy (a.length - 1)).1) (fsub cy (clo a cx cy (a.length - 1)).2) else nmY a (mxs a [(cx,cy)]).1)
      [] cx cy (-half2 (fadd (vlen (fsub cx (clo a cx cy (a.length - 1)).1) (fsub cy (clo a cx cy (a.length - 1)).2)) s)) (fsub (vlen (fsub cx (clo a cx cy (a.length - 1)).1) (fsub cy (clo a cx cy (a.length - 1)).2)) s) 0⟩:=by
  rw [← dirX_ref,← dirY_ref]
  unfold pcM pcN
  rw [if_pos h]
theorem pc_eq_neg {a : List (Int × Int)} {cx cy s : Int} (h : ¬ 0 < (mxs a [(cx,cy)]).2) : pcM a cx cy s = Mf.fin ⟨nmX a (mxs a [(cx,cy)]).1,nmY a (mxs a [(cx,cy)]).1,addP (nmX a (mxs a [(cx,cy)]).1) (nmY a (mxs a [(cx,cy)]).1) [] cx cy (-half2 (fadd (mxs a [(cx,cy)]).2 s)) (fsub (mxs a [(cx,cy)]).2 s) 0⟩:=by
 unfold pcM pcN
 rw [if_neg h]
theorem c_rpc (ps : List (Int × Int)) (hl : ps.length ≤ maxLen) (cx cy r' : Int) (h2 : 2 ≤ ps.length) : PCall Tryz.prog 154 [.sl (ps.map ev),.agg [.i cx,.i cy],.i r'] (.tup [(pcM ps cx cy r' : Mf).v,.b (pcM ps cx cy r').ok]):=by
 refine pcall_of hm Tryz.func154 rfl (by kernel_rfl) (by rw [Tryz.ntmps154]; exact Nat.le_of_ble_eq_true rfl) (lt_cons (lt_vs _ _) (lt_cons (lt_agg (lt_cons (lt_i _ _) (lt_cons (lt_i _ _) lt_nil))) (lt_cons (lt_i _ _) lt_nil))) (lt_tup (lt_cons (lt_mf _ _) (lt_cons (lt_b _ _) lt_nil))) ?_
 rw [Tryz.ntmps154,Tryz.results154]
 have hi:=mxs_lt (a:=ps) (b:=[(cx,cy)]) (by omega)
 have i1 : HasC Tryz.prog 241 [.sl (ps.map ev),.sl [.agg [.i cx,.i cy]]] (.tup [.i ((mxs ps [(cx,cy)]).1 : Nat),.i (mxs ps [(cx,cy)]).2]):=⟨c_rmxs ps hl [(cx,cy)] (show 1 ≤ maxLen by decide) h2 (show 0 < 1 by decide)⟩
 have i2 : HasC Tryz.prog 242 [.sl (ps.map ev),.i ((mxs ps [(cx,cy)]).1 : Nat)] (.agg [.i (nmX ps (mxs ps [(cx,cy)]).1),.i (nmY ps (mxs ps [(cx,cy)]).1)]):=⟨c_renorm ps hl _ hi h2⟩
 by_cases hg : 0 < (mxs ps [(cx,cy)]).2
 ·have d0 : (0 < (mxs ps [(cx,cy)]).2) = True:=eq_true hg
  have g0:=ev_getD (ps:=ps) (i:=0) (by omega)
  have g1 : ((0 : Int) < (ps.length : Int)) = True:=eq_true (by omega)
  have g2:=ev_getD (ps:=ps) (i:=1) (by omega)
  have g3 : ((1 : Int) < (ps.length : Int)) = True:=eq_true (by omega)
  have g4 : ((1 : Int).tmod (ps.length : Int)) = 1:=by rw [Int.tmod_eq_emod_of_nonneg (by decide)]; exact Int.emod_eq_of_lt (by decide) (by omega)
  have g5 : ((ps.length : Int) = 0) = False:=eq_false (by omega)
  have hm1 : (0 + 1) % ps.length = 1:=Nat.mod_eq_of_lt (by omega)
  have h0 : clo ps cx cy 0 = (cpx (vx ps 0) (vy ps 0) (vx ps 1) (vy ps 1) cx cy,cpy (vx ps 0) (vy ps 0) (vx ps 1) (vy ps 1) cx cy):=by
   show cloE ps cx cy 0 = _
   unfold cloE
   rw [hm1]
  repeat' (first|simp only [go_sem,↓reduceIte,Nat.reduceLT,Nat.reduceEqDiff,Nat.reduceAdd,Nat.reduceLeDiff,Nat.reduceMul,reduceCtorEq,imp_self,Int.reduceLE,decide_true,acond_tt,ne_eq,Int.reduceToNat,List.range_zero,List.range_succ,List.replicate_succ,List.replicate_zero,List.flatten_cons,List.flatten_nil,List.all_cons,List.all_nil,List.length_map,true_and,and_true,d0,g0,g1,g2,g3,g4,g5]|refine cst_go ?_|(refine regOk_go ?_; kernel_rfl)|refine And.intro ?_ ?_)
  refine tr_lp hm [0,2,4,6,10,11] [0,1,2,4] (fun x : Fs (ps.length - 1)=>[(13,.i (x.i + 1 : Nat))]) (fun x : Fs (ps.length - 1)=>[(5,.var (.agg [.i (clo ps cx cy x.i).1,.i (clo ps cx cy x.i).2]))]) (fun x=>ps.length - 1 - x.i) (Fs.start _) ?_ ?_ ?_
  ·repeat' (first|exact tw_nil|refine tw_cons rfl ?_ ?_|exact lt_i _ _|exact Lt.pt _ _ (by decide)|exact lt_vs _ _)
  ·repeat' (first|exact hw_nil|refine hw_cons (by decide) rfl bwk_rfl ?_ ?_|refine hw_cons (by decide) ?_ bwk_rfl ?_ ?_|exact trivial|exact lt_i _ _|exact Lt.ow _ _ (by decide)|exact lt_ev _ _|refine lt_agg ?_|exact lt_nil|refine lt_cons ?_ ?_)
   all_goals (show some (ABox.var _) = some (ABox.var _); rw [show (Fs.start (ps.length - 1)).i = 0 from rfl,h0])
  ·rintro ⟨i,hii⟩
   by_cases hlt : i < ps.length - 1
   ·have hlt' : i + 1 < ps.length:=by omega
    have e1:=ilt hlt'
    have e2:=isucc hlt' hl
    have e3:=ev_getD hlt'
    have e4:=imod hlt'
    have e5:=ine0 hlt'
    have e6:=imlt' hlt'
    have e7:=ev_getD (imod_lt hlt')
    repeat' (first|simp only [go_sem,↓reduceIte,Nat.reduceLT,Nat.reduceEqDiff,Nat.reduceAdd,Nat.reduceLeDiff,reduceCtorEq,imp_self,decide_true,acond_tt,ne_eq,icast,inn,List.length_map,true_and,and_true,e1,e2,e3,e4,e5,e6,e7]|refine cst_go ?_|(refine regOk_go ?_; kernel_rfl)|refine acond_split (fun _=>?_) (fun _=>?_)|refine And.intro ?_ ?_)
    ·rename_i hc
     have hu:=clo_up (a:=ps) (cx:=cx) (cy:=cy) (m:=i) hc
     refine ⟨Fs.next hlt,Nat.sub_lt_sub_left hlt (Nat.lt_succ_self _),wk_go (by decide) ?_ ?_⟩
     ·repeat' (first|exact tw_nil|refine tw_cons rfl ?_ ?_|exact lt_i _ _|exact Lt.pt _ _ (by decide)|exact lt_vs _ _)
     ·repeat' (first|exact hw_nil|refine hw_cons (by decide) rfl bwk_rfl ?_ ?_|refine hw_cons (by decide) ?_ bwk_rfl ?_ ?_|exact trivial|exact lt_i _ _|exact Lt.ow _ _ (by decide)|exact lt_ev _ _|refine lt_agg ?_|exact lt_nil|refine lt_cons ?_ ?_)
      all_goals (show some (ABox.var _) = some (ABox.var _); rw [show (Fs.next hlt).i = i + 1 from rfl,hu]; rfl)
    ·rename_i hc
     have hu:=clo_dn (a:=ps) (cx:=cx) (cy:=cy) (m:=i) hc
     refine ⟨Fs.next hlt,Nat.sub_lt_sub_left hlt (Nat.lt_succ_self _),wk_go (by decide) ?_ ?_⟩
     ·repeat' (first|exact tw_nil|refine tw_cons rfl ?_ ?_|exact lt_i _ _|exact Lt.pt _ _ (by decide)|exact lt_vs _ _)
     ·repeat' (first|exact hw_nil|refine hw_cons (by decide) rfl bwk_rfl ?_ ?_|refine hw_cons (by decide) ?_ bwk_rfl ?_ ?_|exact trivial|exact lt_i _ _|exact Lt.ow _ _ (by decide)|exact lt_ev _ _|refine lt_agg ?_|exact lt_nil|refine lt_cons ?_ ?_)
      all_goals (show some (ABox.var _) = some (ABox.var _); rw [show (Fs.next hlt).i = i + 1 from rfl,hu])
   ·have f1:=inlt (i:=i + 1) (n:=ps.length) (by omega)
    obtain rfl : i = ps.length - 1:=by omega
    rw [pc_eq_pos hg]
    generalize clo ps cx cy (ps.length - 1) = c at *
    obtain ⟨ux,uy⟩:=c
    try simp only at *
    by_cases hv : 0 < vlen (fsub cx ux) (fsub cy uy)
    ·have e0 : (0 < vlen (fsub cx ux) (fsub cy uy)) = True:=eq_true hv
     rw [if_pos hv,if_pos hv]
     by_cases hs : fsub (vlen (fsub cx ux) (fsub cy uy)) r' ≤ 1024
     ·have ea : (1024 < fsub (vlen (fsub cx ux) (fsub cy uy)) r') = False:=eq_false (by omega)
      rw [fin1_in hs,back_pt,back_pt]
      repeat' (first|simp only [go_sem,↓reduceIte,Nat.reduceLT,Nat.reduceEqDiff,Nat.reduceAdd,Nat.reduceLeDiff,Nat.reduceMul,reduceCtorEq,imp_self,decide_true,decide_false,acond_tt,acond_ff,List.range_zero,List.range_succ,List.replicate_succ,List.replicate_zero,List.flatten_cons,List.flatten_nil,List.all_cons,List.all_nil,List.length_map,true_and,and_true,ea,f1,e0]|refine cst_go ?_|(refine regOk_go ?_; kernel_rfl)|refine And.intro ?_ ?_)
      all_goals (try rfl)
     ·have ea : (1024 < fsub (vlen (fsub cx ux) (fsub cy uy)) r') = True:=eq_true (by omega)
      rw [fin1_out hs]
      repeat' (first|simp only [go_sem,↓reduceIte,Nat.reduceLT,Nat.reduceEqDiff,Nat.reduceAdd,Nat.reduceLeDiff,reduceCtorEq,imp_self,decide_true,decide_false,acond_tt,acond_ff,List.length_map,true_and,and_true,ea,f1,e0]|refine cst_go ?_)
      all_goals (try rfl)
    ·have e0 : (0 < vlen (fsub cx ux) (fsub cy uy)) = False:=eq_false hv
     rw [if_neg hv,if_neg hv]
     by_cases hs : fsub (vlen (fsub cx ux) (fsub cy uy)) r' ≤ 1024
     ·have ea : (1024 < fsub (vlen (fsub cx ux) (fsub cy uy)) r') = False:=eq_false (by omega)
      rw [fin1_in hs,back_pt,back_pt]
      repeat' (first|simp only [go_sem,↓reduceIte,Nat.reduceLT,Nat.reduceEqDiff,Nat.reduceAdd,Nat.reduceLeDiff,Nat.reduceMul,reduceCtorEq,imp_self,decide_false,acond_ff,List.range_zero,List.range_succ,List.replicate_succ,List.replicate_zero,List.flatten_cons,List.flatten_nil,List.all_cons,List.all_nil,List.length_map,true_and,and_true,ea,f1,e0]|refine cst_go ?_|(refine regOk_go ?_; kernel_rfl)|refine And.intro ?_ ?_)
      all_goals (try rfl)
     ·have ea : (1024 < fsub (vlen (fsub cx ux) (fsub cy uy)) r') = True:=eq_true (by omega)
      rw [fin1_out hs]
      repeat' (first|simp only [go_sem,↓reduceIte,Nat.reduceLT,Nat.reduceEqDiff,Nat.reduceAdd,Nat.reduceLeDiff,reduceCtorEq,imp_self,decide_true,decide_false,acond_tt,acond_ff,List.length_map,true_and,and_true,ea,f1,e0]|refine cst_go ?_)
      all_goals (try rfl)
 ·have d0 : (0 < (mxs ps [(cx,cy)]).2) = False:=eq_false hg
  rw [pc_eq_neg hg]
  generalize mxs ps [(cx,cy)] = m at *
  obtain ⟨I,G⟩:=m
  try simp only at *
  by_cases hs : fsub (G) r' ≤ 1024
  ·have ea : (1024 < fsub (G) r') = False:=eq_false (by omega)
   rw [fin1_in hs,back_pt,back_pt]
   repeat' (first|simp only [go_sem,↓reduceIte,Nat.reduceLT,Nat.reduceEqDiff,Nat.reduceAdd,Nat.reduceLeDiff,Nat.reduceMul,reduceCtorEq,imp_self,decide_false,acond_ff,List.range_zero,List.range_succ,List.replicate_succ,List.replicate_zero,List.flatten_cons,List.flatten_nil,List.all_cons,List.all_nil,true_and,and_true,ea,d0]|refine cst_go ?_|(refine regOk_go ?_; kernel_rfl)|refine And.intro ?_ ?_)
   all_goals (try rfl)
  ·have ea : (1024 < fsub (G) r') = True:=eq_true (by omega)
   rw [fin1_out hs]
   repeat' (first|simp only [go_sem,↓reduceIte,Nat.reduceLT,Nat.reduceEqDiff,Nat.reduceAdd,Nat.reduceLeDiff,Nat.reduceMul,reduceCtorEq,imp_self,decide_true,decide_false,acond_tt,acond_ff,List.range_zero,List.range_succ,List.replicate_succ,List.replicate_zero,List.flatten_cons,List.flatten_nil,List.all_cons,List.all_nil,true_and,and_true,ea,d0]|refine cst_go ?_)
   all_goals (try rfl)
theorem c_rface (ps : List (Int × Int)) (hl : ps.length ≤ maxLen) (qs : List (Int × Int)) (hm' : qs.length ≤ maxLen) (r r' : Int) (i : Nat) (hi : i < ps.length) (h2 : 2 ≤ ps.length) (h2' : 2 ≤ qs.length) (h8 : ps.length ≤ 8) (h8' : qs.length ≤ 8) : PCall Tryz.prog 246 [.sl (ps.map ev),.i i,.i r,.sl (qs.map ev),.i r'] (.tup [(cliM ps r qs r' i : Mf).v,.b (cliM ps r qs r' i).ok]):=by
 refine pcall_of hm Tryz.func246 rfl (by kernel_rfl) (by rw [Tryz.ntmps246]; exact Nat.le_of_ble_eq_true rfl) (lt_cons (lt_vs _ _) (lt_cons (lt_i _ _) (lt_cons (lt_i _ _) (lt_cons (lt_vs _ _) (lt_cons (lt_i _ _) lt_nil))))) (lt_tup (lt_cons (lt_mf _ _) (lt_cons (lt_b _ _) lt_nil))) ?_
 rw [Tryz.ntmps246,Tryz.results246]
 have hj:=incE_lt (b:=qs) (nx:=nmX ps i) (ny:=nmY ps i) (by omega)
 have n1 : HasC Tryz.prog 242 [.sl (ps.map ev),.i (i : Nat)] (.agg [.i (nmX ps i),.i (nmY ps i)]):=⟨c_renorm ps hl i hi h2⟩
 have n2 : HasC Tryz.prog 323 [.sl (qs.map ev),.agg [.i (nmX ps i),.i (nmY ps i)]] (.i ((incE qs (nmX ps i) (nmY ps i)) : Nat)):=⟨c_rinc qs hm' _ _ h2'⟩
 have n3 : HasC Tryz.prog 324 [.sl (ps.map ev),.i (i : Nat),.sl (qs.map ev),.i ((incE qs (nmX ps i) (nmY ps i)) : Nat)] (.sl ((toE ps i qs (incE qs (nmX ps i) (nmY ps i))).map CV.v)):=⟨c_rtoe ps hl qs hm' i hi h2 _ hj h2'⟩
 have e1:=ilt hi
 have e3:=ev_getD hi
 have nw1 : IntKind.i64.wrap 1 = 1:=by decide
 have nw2 : IntKind.i64.wrap 2 = 2:=by decide
 have w1 : IntKind.i64.wrap (64 * (i : Int)) = 64 * (i : Int):=w64_id (by omega) (by omega)
 have w2 : IntKind.i64.wrap (8 * ((incE qs (nmX ps i) (nmY ps i)) : Int)) = 8 * ((incE qs (nmX ps i) (nmY ps i)) : Int):=w64_id (by omega) (by omega)
 have w3 : IntKind.i64.wrap (64 * (i : Int) + 8 * ((incE qs (nmX ps i) (nmY ps i)) : Int)) = 64 * (i : Int) + 8 * ((incE qs (nmX ps i) (nmY ps i)) : Int):=w64_id (by omega) (by omega)
 have w4 : IntKind.i64.wrap (64 * (i : Int) + 8 * ((incE qs (nmX ps i) (nmY ps i)) : Int) + 0) = 64 * (i : Int) + 8 * ((incE qs (nmX ps i) (nmY ps i)) : Int) + 0:=w64_id (by omega) (by omega)
 have w5 : IntKind.i64.wrap (64 * (i : Int) + 8 * ((incE qs (nmX ps i) (nmY ps i)) : Int) + 1) = 64 * (i : Int) + 8 * ((incE qs (nmX ps i) (nmY ps i)) : Int) + 1:=w64_id (by omega) (by omega)
 rcases toE_cut ps i qs (incE qs (nmX ps i) (nmY ps i)) with hc|⟨⟨ax,ay,ai⟩,⟨bx,byy,bi⟩,hc,hp,hq⟩
 ·rw [hc] at n3
  rw [cliM_nil hc]
  repeat' (first|simp only [go_sem,↓reduceIte,Nat.reduceLT,Nat.reduceEqDiff,Nat.reduceAdd,Nat.reduceLeDiff,reduceCtorEq,imp_self,Int.reduceLT,decide_true,decide_false,acond_tt,acond_ff,true_and,and_true,nc0]|refine cst_go ?_|refine tr_rounds hm (.s (.s .z)) ?_)
  all_goals (try rfl)
 ·simp only at hp hq
  subst hp
  subst hq
  rw [hc] at n3
  rw [cliM_two hc]
  clear hc
  obtain ⟨DA,qDA⟩ : ∃ z,fsub (vdot (nmX ps i) (nmY ps i) (fsub ax (vx ps i)) (fsub ay (vy ps i))) r = z:=⟨_,rfl⟩
  have qEA : cliD ps r i ⟨ax,ay,0⟩ = DA:=qDA
  obtain ⟨SA,qSA⟩ : ∃ z,fsub DA r' = z:=⟨_,rfl⟩
  obtain ⟨HA,qHA⟩ : ∃ z,rdiv (fadd DA r') 2 = z:=⟨_,rfl⟩
  have qKA : half2 (fadd DA r') = HA:=qHA
  obtain ⟨XA,qXA⟩ : ∃ z,fsub ax (fmul (nmX ps i) HA) = z:=⟨_,rfl⟩
  obtain ⟨YA,qYA⟩ : ∃ z,fsub ay (fmul (nmY ps i) HA) = z:=⟨_,rfl⟩
  have cA : cliC ps r r' i (incE qs (nmX ps i) (nmY ps i)) ⟨ax,ay,0⟩ = ⟨XA,YA,SA,64 * (i : Int) + 8 * ((incE qs (nmX ps i) (nmY ps i)) : Int) + 0⟩:=by unfold cliC; rw [qEA,back_pt,back_pt,qKA,qXA,qYA,qSA]
  obtain ⟨DB,qDB⟩ : ∃ z,fsub (vdot (nmX ps i) (nmY ps i) (fsub bx (vx ps i)) (fsub byy (vy ps i))) r = z:=⟨_,rfl⟩
  have qEB : cliD ps r i ⟨bx,byy,1⟩ = DB:=qDB
  obtain ⟨SB,qSB⟩ : ∃ z,fsub DB r' = z:=⟨_,rfl⟩
  obtain ⟨HB,qHB⟩ : ∃ z,rdiv (fadd DB r') 2 = z:=⟨_,rfl⟩
  have qKB : half2 (fadd DB r') = HB:=qHB
  obtain ⟨XB,qXB⟩ : ∃ z,fsub bx (fmul (nmX ps i) HB) = z:=⟨_,rfl⟩
  obtain ⟨YB,qYB⟩ : ∃ z,fsub byy (fmul (nmY ps i) HB) = z:=⟨_,rfl⟩
  have cB : cliC ps r r' i (incE qs (nmX ps i) (nmY ps i)) ⟨bx,byy,1⟩ = ⟨XB,YB,SB,64 * (i : Int) + 8 * ((incE qs (nmX ps i) (nmY ps i)) : Int) + 1⟩:=by unfold cliC; rw [qEB,back_pt,back_pt,qKB,qXB,qYB,qSB]
  by_cases ha : SA ≤ 1024
  ·have ea : (1024 < SA) = False:=eq_false (by omega)
   rw [cliP_in (c:=⟨ax,ay,0⟩) (by rw [qEA,qSA]; exact ha)]
   by_cases hb : SB ≤ 1024
   ·have eb : (1024 < SB) = False:=eq_false (by omega)
    rw [cliP_in (c:=⟨bx,byy,1⟩) (by rw [qEB,qSB]; exact hb)]
    rw [cA]
    rw [cB]
    clear cA cB qEA qEB qKA qKB
    generalize (incE qs (nmX ps i) (nmY ps i)) = j at *
    generalize nmX ps i = NX at *
    generalize nmY ps i = NY at *
    repeat' (first|simp only [go_sem,↓reduceIte,Nat.reduceLT,Nat.reduceEqDiff,Nat.reduceAdd,Nat.reduceLeDiff,Nat.reduceMul,reduceCtorEq,imp_self,Int.reduceLT,Int.reduceLE,Int.reduceAdd,Int.reduceEq,decide_true,decide_false,acond_tt,acond_ff,Int.reduceToNat,List.range_zero,List.range_succ,List.replicate_succ,List.replicate_zero,List.flatten_cons,List.flatten_nil,List.all_cons,List.all_nil,forall_and,icast,inn,List.length_map,true_and,and_true,nc2,nw1,nw2,e1,e3,CV.v,qDA,qDB,qSA,qSB,qHA,qHB,qXA,qXB,qYA,qYB,w1,w2,w3,w4,w5,ea,eb]|refine cst_go ?_|refine tr_rounds hm (.s (.s .z)) ?_|(refine regOk_go ?_; kernel_rfl)|refine And.intro ?_ ?_)
    all_goals (try rfl)
   ·have eb : (1024 < SB) = True:=eq_true (by omega)
    rw [cliP_out (c:=⟨bx,byy,1⟩) (by rw [qEB,qSB]; exact hb)]
    rw [cA]
    clear cA cB qEA qEB qKA qKB
    generalize (incE qs (nmX ps i) (nmY ps i)) = j at *
    generalize nmX ps i = NX at *
    generalize nmY ps i = NY at *
    repeat' (first|simp only [go_sem,↓reduceIte,Nat.reduceLT,Nat.reduceEqDiff,Nat.reduceAdd,Nat.reduceLeDiff,Nat.reduceMul,reduceCtorEq,imp_self,Int.reduceLT,Int.reduceLE,Int.reduceAdd,Int.reduceEq,decide_true,decide_false,acond_tt,acond_ff,Int.reduceToNat,List.range_zero,List.range_succ,List.replicate_succ,List.replicate_zero,List.flatten_cons,List.flatten_nil,List.all_cons,List.all_nil,forall_and,icast,inn,List.length_map,true_and,and_true,nc1,nc2,nw1,nw2,e1,e3,CV.v,qDA,qDB,qSA,qSB,qHA,qXA,qYA,w1,w2,w3,w4,ea,eb]|refine cst_go ?_|refine tr_rounds hm (.s (.s .z)) ?_|(refine regOk_go ?_; kernel_rfl)|refine And.intro ?_ ?_)
    all_goals (try rfl)
  ·have ea : (1024 < SA) = True:=eq_true (by omega)
   rw [cliP_out (c:=⟨ax,ay,0⟩) (by rw [qEA,qSA]; exact ha)]
   by_cases hb : SB ≤ 1024
   ·have eb : (1024 < SB) = False:=eq_false (by omega)
    rw [cliP_in (c:=⟨bx,byy,1⟩) (by rw [qEB,qSB]; exact hb)]
    rw [cB]
    clear cA cB qEA qEB qKA qKB
    generalize (incE qs (nmX ps i) (nmY ps i)) = j at *
    generalize nmX ps i = NX at *
    generalize nmY ps i = NY at *
    repeat' (first|simp only [go_sem,↓reduceIte,Nat.reduceLT,Nat.reduceEqDiff,Nat.reduceAdd,Nat.reduceLeDiff,Nat.reduceMul,reduceCtorEq,imp_self,Int.reduceLT,Int.reduceLE,Int.reduceAdd,Int.reduceEq,decide_true,decide_false,acond_tt,acond_ff,Int.reduceToNat,List.range_zero,List.range_succ,List.replicate_succ,List.replicate_zero,List.flatten_cons,List.flatten_nil,List.all_cons,List.all_nil,forall_and,icast,inn,List.length_map,true_and,and_true,nc1,nc2,nw1,nw2,e1,e3,CV.v,qDA,qDB,qSA,qSB,qHB,qXB,qYB,w1,w2,w3,w5,ea,eb]|refine cst_go ?_|refine tr_rounds hm (.s (.s .z)) ?_|(refine regOk_go ?_; kernel_rfl)|refine And.intro ?_ ?_)
    all_goals (try rfl)
   ·have eb : (1024 < SB) = True:=eq_true (by omega)
    rw [cliP_out (c:=⟨bx,byy,1⟩) (by rw [qEB,qSB]; exact hb)]
    clear cA cB qEA qEB qKA qKB
    generalize (incE qs (nmX ps i) (nmY ps i)) = j at *
    generalize nmX ps i = NX at *
    generalize nmY ps i = NY at *
    repeat' (first|simp only [go_sem,↓reduceIte,Nat.reduceLT,Nat.reduceEqDiff,Nat.reduceAdd,Nat.reduceLeDiff,reduceCtorEq,imp_self,Int.reduceLT,Int.reduceLE,Int.reduceAdd,decide_true,decide_false,acond_tt,acond_ff,Int.reduceToNat,icast,inn,List.length_map,true_and,and_true,nc2,nw1,nw2,e1,e3,CV.v,qDA,qDB,qSA,qSB,ea,eb]|refine cst_go ?_|refine tr_rounds hm (.s (.s .z)) ?_|(refine regOk_go ?_; kernel_rfl)|refine And.intro ?_ ?_)
    all_goals (try rfl)
theorem c_rfcs (ps : List (Int × Int)) (hl : ps.length ≤ maxLen) (qs : List (Int × Int)) (hm' : qs.length ≤ maxLen) (r r' : Int) (h2 : 2 ≤ ps.length) (h2' : 2 ≤ qs.length) (h8 : ps.length ≤ 8) (h8' : qs.length ≤ 8) : PCall Tryz.prog 156 [.sl (ps.map ev),.i r,.sl (qs.map ev),.i r'] (.tup [(facM ps r qs r' : Mf).v,.b (facM ps r qs r').ok]):=by
 refine pcall_of hm Tryz.func156 rfl (by kernel_rfl) (by rw [Tryz.ntmps156]; exact Nat.le_of_ble_eq_true rfl) (lt_cons (lt_vs _ _) (lt_cons (lt_i _ _) (lt_cons (lt_vs _ _) (lt_cons (lt_i _ _) lt_nil)))) (lt_tup (lt_cons (lt_mf _ _) (lt_cons (lt_b _ _) lt_nil))) ?_
 rw [Tryz.ntmps156,Tryz.results156]
 have hi:=mxs_lt (a:=ps) (b:=qs) (by omega)
 have hk:=mxs_lt (a:=qs) (b:=ps) (by omega)
 have i1 : HasC Tryz.prog 241 [.sl (ps.map ev),.sl (qs.map ev)] (.tup [.i ((mxs ps qs).1 : Nat),.i (mxs ps qs).2]):=⟨c_rmxs ps hl qs hm' h2 (by omega)⟩
 have i2 : HasC Tryz.prog 241 [.sl (qs.map ev),.sl (ps.map ev)] (.tup [.i ((mxs qs ps).1 : Nat),.i (mxs qs ps).2]):=⟨c_rmxs qs hm' ps hl h2' (by omega)⟩
 have i3 : HasC Tryz.prog 246 [.sl (ps.map ev),.i ((mxs ps qs).1 : Nat),.i r,.sl (qs.map ev),.i r'] (.tup [(cliM ps r qs r' (mxs ps qs).1 : Mf).v,.b (cliM ps r qs r' (mxs ps qs).1).ok]):=⟨c_rface ps hl qs hm' r r' _ hi h2 h2' h8 h8'⟩
 have i4 : HasC Tryz.prog 246 [.sl (qs.map ev),.i ((mxs qs ps).1 : Nat),.i r',.sl (ps.map ev),.i r] (.tup [(cliM qs r' ps r (mxs qs ps).1 : Mf).v,.b (cliM qs r' ps r (mxs qs ps).1).ok]):=⟨c_rface qs hm' ps hl r' r _ hk h2' h2 h8' h8⟩
 have hx : (if (mxs ps qs).2 < (mxs qs ps).2 then (mxs qs ps).2 else (mxs ps qs).2) = imax (mxs ps qs).2 (mxs qs ps).2:=by unfold imax; (repeat' split) <;> omega
 unfold facM
 by_cases hs : 1024 < fsub (fsub (imax (mxs ps qs).2 (mxs qs ps).2) r) r'
 ·have d1 : (1024 < fsub (fsub (imax (mxs ps qs).2 (mxs qs ps).2) r) r') = True:=eq_true hs
  rw [if_pos hs]
  repeat' (first|simp only [go_sem,↓reduceIte,Nat.reduceLT,Nat.reduceEqDiff,Nat.reduceAdd,Nat.reduceLeDiff,reduceCtorEq,imp_self,decide_true,acond_tt,true_and,and_true,hx,d1]|refine cst_go ?_)
  all_goals (try rfl)
 ·have d1 : (1024 < fsub (fsub (imax (mxs ps qs).2 (mxs qs ps).2) r) r') = False:=eq_false hs
  rw [if_neg hs]
  by_cases ht : (mxs qs ps).2 ≤ fadd (mxs ps qs).2 64
  ·have d2 : ((mxs qs ps).2 ≤ fadd (mxs ps qs).2 64) = True:=eq_true ht
   rw [if_pos ht]
   repeat' (first|simp only [go_sem,↓reduceIte,Nat.reduceLT,Nat.reduceEqDiff,Nat.reduceAdd,Nat.reduceLeDiff,reduceCtorEq,imp_self,decide_true,decide_false,acond_tt,acond_ff,true_and,and_true,hx,d1,d2,Mf.v]|refine cst_go ?_)
   all_goals (try rfl)
  ·have d2 : ((mxs qs ps).2 ≤ fadd (mxs ps qs).2 64) = False:=eq_false ht
   rw [if_neg ht]
   clear i3
   have hok:=cli_ok qs r' ps r (mxs qs ps).1
   have hbd:=cli_bd qs r' ps r (mxs qs ps).1
   have hid:=cli_id (a:=qs) (r:=r') (b:=ps) (s:=r) (i:=(mxs qs ps).1) (by omega) (by omega) h8
   generalize cliM qs r' ps r (mxs qs ps).1 = m at *
   have nw0 : IntKind.i64.wrap (0 - 0) = 0:=by decide
   have nw1 : IntKind.i64.wrap 1 = 1:=by decide
   have nw2 : IntKind.i64.wrap 2 = 2:=by decide
   obtain ⟨n2,hz,_,_⟩:=hok
   obtain ⟨x,y,l⟩:=m
   have n3 : IntKind.i64.wrap (0 - x) = -x:=by rw [w64_id (by have:=hbd.1; simp only at this; omega) (by have:=hbd.1; simp only at this; omega)]; omega
   have n4 : IntKind.i64.wrap (0 - y) = -y:=by rw [w64_id (by have:=hbd.2; simp only at this; omega) (by have:=hbd.2; simp only at this; omega)]; omega
   rcases two_cases n2 with rfl|⟨p,rfl⟩|⟨p,q,rfl⟩
   ·have hz':=hz rfl
    obtain ⟨rfl,rfl,_⟩ : x = 0 ∧ y = 0 ∧ True:=by unfold Mf.z at hz'; injection hz' with a b; exact ⟨a,b,trivial⟩
    have ho : (Mf.mk 0 0 []).ok = false:=rfl
    have hr : (Mf.mk 0 0 []).up.flip = Mf.z:=rfl
    rw [hr]
    repeat' (first|with_reducible (first|exact HBs.nil|refine HBs.cons (by decide) ?_ ?_|refine BOk.var ?_|exact BOk.nl|refine BOk.row ?_|exact Lts.nil|refine Lts.cons ?_ ?_|exact lt_i _ _|exact Lt.ow _ _ (by decide)|refine lt_agg ?_|exact lt_nil|refine lt_cons ?_ ?_|refine Lt.sl _ ?_)|simp only [go_sem,↓reduceIte,Nat.reduceLT,Nat.reduceEqDiff,Nat.reduceAdd,Nat.reduceLeDiff,Nat.reduceMul,Nat.reduceSub,reduceCtorEq,imp_self,Int.reduceLT,Int.reduceSub,decide_false,acond_ff,List.range_zero,List.replicate_zero,List.flatten_nil,List.all_nil,forall_and,true_and,and_true,hx,d1,d2,ho,Mf.v,nc0,List.map_nil]|refine cst_go ?_|refine tr_rounds hm (.s (.s .z)) ?_|apply cst_in (f:=155) hm Tryz.func155 rfl (by kernel_rfl) Tryz.ntmps155 Tryz.results155 rfl|apply cst_in (f:=245) hm Tryz.func245 rfl (by kernel_rfl) Tryz.ntmps245 Tryz.results245 rfl|(refine regOk_go ?_; kernel_rfl)|exact ⟨rfl,endJ_go rfl,rfl⟩|refine keys_go rfl|refine keep_go rfl|refine And.intro ?_ ?_)
    all_goals (try rfl)
   ·have p1:=hid p (List.mem_cons_self ..)
    have w1 : IntKind.i64.wrap (p.id + 4096) = p.id + 4096:=w64_id (by omega) (by omega)
    have ho : (Mf.mk x y [p]).ok = true:=rfl
    rw [up_fl1]
    repeat' (first|with_reducible (first|exact HBs.nil|refine HBs.cons (by decide) ?_ ?_|refine BOk.var ?_|exact BOk.nl|refine BOk.row ?_|exact Lts.nil|refine Lts.cons ?_ ?_|exact lt_i _ _|exact Lt.ow _ _ (by decide)|refine lt_agg ?_|exact lt_nil|refine lt_cons ?_ ?_|refine Lt.sl _ ?_)|simp only [go_sem,↓reduceIte,Nat.reduceLT,Nat.reduceEqDiff,Nat.reduceAdd,Nat.reduceLeDiff,Nat.reduceMul,Nat.reduceSub,reduceCtorEq,imp_self,Int.reduceLT,Int.reduceLE,Int.reduceAdd,decide_true,decide_false,acond_tt,acond_ff,Int.reduceToNat,List.range_zero,List.replicate_zero,List.flatten_nil,List.all_nil,forall_and,true_and,and_true,hx,d1,d2,ho,Mf.v,n3,n4,nw1,nc1,w1,List.map_nil,List.map_cons,CPt.v,List.set_cons_zero]|refine cst_go ?_|refine tr_rounds hm (.s (.s .z)) ?_|apply cst_in (f:=155) hm Tryz.func155 rfl (by kernel_rfl) Tryz.ntmps155 Tryz.results155 rfl|apply cst_in (f:=245) hm Tryz.func245 rfl (by kernel_rfl) Tryz.ntmps245 Tryz.results245 rfl|(refine regOk_go ?_; kernel_rfl)|exact ⟨rfl,endJ_go rfl,rfl⟩|refine keys_go rfl|refine keep_go rfl|refine And.intro ?_ ?_)
    all_goals (try rfl)
   ·have p1:=hid p (List.mem_cons_self ..)
    have p2:=hid q (List.mem_cons_of_mem _ (List.mem_cons_self ..))
    have w1 : IntKind.i64.wrap (p.id + 4096) = p.id + 4096:=w64_id (by omega) (by omega)
    have w2 : IntKind.i64.wrap (q.id + 4096) = q.id + 4096:=w64_id (by omega) (by omega)
    have ho : (Mf.mk x y [p,q]).ok = true:=rfl
    rw [up_fl2]
    repeat' (first|with_reducible (first|exact HBs.nil|refine HBs.cons (by decide) ?_ ?_|refine BOk.var ?_|exact BOk.nl|refine BOk.row ?_|exact Lts.nil|refine Lts.cons ?_ ?_|exact lt_i _ _|exact Lt.ow _ _ (by decide)|refine lt_agg ?_|exact lt_nil|refine lt_cons ?_ ?_|refine Lt.sl _ ?_)|simp only [go_sem,↓reduceIte,Nat.reduceLT,Nat.reduceEqDiff,Nat.reduceAdd,Nat.reduceLeDiff,Nat.reduceMul,Nat.reduceSub,reduceCtorEq,imp_self,Int.reduceLT,Int.reduceLE,Int.reduceAdd,decide_true,decide_false,acond_tt,acond_ff,Int.reduceToNat,List.range_zero,List.replicate_zero,List.flatten_nil,List.all_nil,forall_and,true_and,and_true,hx,d1,d2,ho,Mf.v,n3,n4,nw1,nw2,nc2,w1,w2,List.map_nil,List.map_cons,CPt.v,List.set_cons_zero,List.set_cons_succ]|refine cst_go ?_|refine tr_rounds hm (.s (.s .z)) ?_|apply cst_in (f:=155) hm Tryz.func155 rfl (by kernel_rfl) Tryz.ntmps155 Tryz.results155 rfl|apply cst_in (f:=245) hm Tryz.func245 rfl (by kernel_rfl) Tryz.ntmps245 Tryz.results245 rfl|(refine regOk_go ?_; kernel_rfl)|exact ⟨rfl,endJ_go rfl,rfl⟩|refine keys_go rfl|refine keep_go rfl|refine And.intro ?_ ?_)
    all_goals (try rfl)
end Go.Proofs.YtplmagdbnbijlaaGreat
/-
 The reference's manifold of two shapes,and the law ManifoldCollide. Conditions: none.
-/
namespace Go.Proofs.YtplmagdbnbijlaaGreat
open Go.RowKit Go.AL Go.Carom
theorem c_rflm (m : Mf) (hb : m.Bd) (hn : m.ps.length ≤ 2) (hz : m.ps.length = 0 → m = Mf.z) : PCall Tryz.prog 155 [m.v] m.flip.v:=by
 obtain ⟨x,y,l⟩:=m
 have n1 : ng x = -x:=ng_id (by have:=hb.1; simp only at this; omega) (by have:=hb.1; simp only at this; omega)
 have n2 : ng y = -y:=ng_id (by have:=hb.2; simp only at this; omega) (by have:=hb.2; simp only at this; omega)
 have hn' : l.length ≤ 2:=hn
 have h:=c_rflip x y (l.map CPt.p6) (by rw [List.length_map]; omega)
 rw [n1,n2,← cpts_p6] at h
 by_cases h0 : l.length = 0
 ·have e:=hz h0
  unfold Mf.z at e
  injection e with e1 e2 e3
  subst e1; subst e2; subst e3
  rw [Mf.flip_z (m:=⟨0,0,[]⟩) rfl]
  exact h
 ·rw [Mf.flip_nz h0]
  exact h
theorem c_rcoll (k r : Int) (ps : List (Int × Int)) (hl : ps.length ≤ maxLen) (px py a k' r' : Int) (qs : List (Int × Int)) (hm' : qs.length ≤ maxLen) (ux uy b : Int) : PCall Tryz.prog 100 [.agg [.i k,.i r,.sl (ps.map ev)],.agg [.i px,.i py,.i a],.agg [.i k',.i r',.sl (qs.map ev)],.agg [.i ux,.i uy,.i b]] (.tup [(collS k r ps px py a k' r' qs ux uy b : Mf).v,.b (collS k r ps px py a k' r' qs ux uy b).ok]):=by
 refine pcall_of hm Tryz.func100 rfl (by kernel_rfl) (by rw [Tryz.ntmps100]; exact Nat.le_of_ble_eq_true rfl) (lt_cons (lt_agg (lt_cons (lt_i _ _) (lt_cons (lt_i _ _) (lt_cons (lt_vs _ _) lt_nil)))) (lt_cons (lt_agg (lt_cons (lt_i _ _) (lt_cons (lt_i _ _) (lt_cons (lt_i _ _) lt_nil)))) (lt_cons (lt_agg (lt_cons (lt_i _ _) (lt_cons (lt_i _ _) (lt_cons (lt_vs _ _) lt_nil)))) (lt_cons (lt_agg (lt_cons (lt_i _ _) (lt_cons (lt_i _ _) (lt_cons (lt_i _ _) lt_nil)))) lt_nil)))) (lt_tup (lt_cons (lt_mf _ _) (lt_cons (lt_b _ _) lt_nil))) ?_
 rw [Tryz.ntmps100,Tryz.results100]
 have i1 : HasC Tryz.prog 151 [.agg [.i k,.i r,.sl (ps.map ev)]] (.i (sval k r ps)):=⟨c_rval k r ps hl⟩
 have i2 : HasC Tryz.prog 151 [.agg [.i k',.i r',.sl (qs.map ev)]] (.i (sval k' r' qs)):=⟨c_rval k' r' qs hm'⟩
 have i3 : HasC Tryz.prog 152 [.agg [.i k,.i r,.sl (ps.map ev)],.agg [.i px,.i py,.i a]] (.sl ((core k r ps px py a).map ev)):=⟨c_rvert k r ps hl px py a⟩
 have i4 : HasC Tryz.prog 152 [.agg [.i k',.i r',.sl (qs.map ev)],.agg [.i ux,.i uy,.i b]] (.sl ((core k' r' qs ux uy b).map ev)):=⟨c_rvert k' r' qs hm' ux uy b⟩
 by_cases hv : sval k r ps = 0 ∧ sval k' r' qs = 0
 ·have d1 : (sval k r ps = 0) = True:=eq_true hv.1
  have d2 : (sval k' r' qs = 0) = True:=eq_true hv.2
  have ok:=core_ok px py a hv.1
  have ok':=core_ok ux uy b hv.2
  unfold collS
  generalize (core k r ps px py a) = c at *
  generalize (core k' r' qs ux uy b) = c' at *
  have hc : c.length ≤ maxLen:=by have:=ok.n8; have : maxLen = 9223372036854775807:=rfl; omega
  have hc' : c'.length ≤ maxLen:=by have:=ok'.n8; have : maxLen = 9223372036854775807:=rfl; omega
  have k1_:=ok.k1
  have k3_:=ok.k3
  have k1':=ok'.k1
  have k3':=ok'.k3
  by_cases h3 : k = 3
  ·have e3 : (k = 3) = True:=eq_true h3
   have k1 : (k = 1) = False:=eq_false (by omega)
   have n3:=ok.n3 h3
   by_cases g1 : k' = 1
   ·subst g1
    obtain ⟨⟨u,v⟩,rfl⟩:=List.length_eq_one_iff.1 (ok'.n1 rfl)
    rw [coll_pc ok.pos ok'.pos h3]
    have j1 : HasC Tryz.prog 154 [.sl (c.map ev),.agg [.i u,.i v],.i r'] (.tup [(pcM c u v r' : Mf).v,.b (pcM c u v r').ok]):=⟨c_rpc c hc u v r' (by omega)⟩
    repeat' (first|simp only [go_sem,↓reduceIte,Nat.reduceLT,Nat.reduceEqDiff,Nat.reduceAdd,Nat.reduceLeDiff,reduceCtorEq,imp_self,Int.reduceLT,Int.reduceLE,Int.reduceEq,decide_true,decide_false,acond_tt,acond_ff,Int.reduceToNat,true_and,and_true,Bool.false_and,d1,d2,e3,List.map_cons,List.map_nil,Carom.ev,Mf.v,nc1]|refine cst_go ?_|refine gcst_go ?_|(refine regOk_go ?_; kernel_rfl)|refine And.intro ?_ ?_)
    all_goals (try rfl)
   ·have f1 : (k' = 1) = False:=eq_false g1
    have n2 : 2 ≤ c'.length:=by
     by_cases e : k' = 2
     ·have:=ok'.n2 e; omega
     ·have:=ok'.n3 (by omega); omega
    rw [coll_fac ok.pos ok'.pos (.inl h3) (by omega) g1]
    have j1 : HasC Tryz.prog 156 [.sl (c.map ev),.i r,.sl (c'.map ev),.i r'] (.tup [(facM c r c' r' : Mf).v,.b (facM c r c' r').ok]):=⟨c_rfcs c hc c' hc' r r' (by omega) n2 ok.n8 ok'.n8⟩
    repeat' (first|simp only [go_sem,↓reduceIte,Nat.reduceLT,Nat.reduceEqDiff,Nat.reduceAdd,Nat.reduceLeDiff,reduceCtorEq,imp_self,decide_true,decide_false,acond_ff,true_and,and_true,Bool.false_and,Bool.and_false,d1,d2,e3,f1,k1,Mf.v]|refine cst_go ?_|refine gcst_go ?_|(refine regOk_go ?_; kernel_rfl)|refine And.intro ?_ ?_)
    all_goals (try rfl)
  ·have e3 : (k = 3) = False:=eq_false h3
   by_cases g3 : k' = 3
   ·have f3 : (k' = 3) = True:=eq_true g3
    have f1 : (k' = 1) = False:=eq_false (by omega)
    have n3':=ok'.n3 g3
    by_cases g1 : k = 1
    ·subst g1
     obtain ⟨⟨u,v⟩,rfl⟩:=List.length_eq_one_iff.1 (ok.n1 rfl)
     rw [coll_cp ok.pos ok'.pos g3]
     have hok:=pc_ok c' u v r
     have j1 : HasC Tryz.prog 154 [.sl (c'.map ev),.agg [.i u,.i v],.i r] (.tup [(pcM c' u v r).v,.b (pcM c' u v r).ok]):=⟨c_rpc c' hc' u v r (by omega)⟩
     have j2 : HasC Tryz.prog 155 [.agg [.i (pcM c' u v r).x,.i (pcM c' u v r).y,.sl ((pcM c' u v r).ps.map CPt.v)]] ((pcM c' u v r).flip.v):=⟨c_rflm _ (pc_bd _ _ _ _) hok.n2 hok.z⟩
     have ho:=Mf.flip_ok (pcM c' u v r)
     repeat' (first|simp only [go_sem,↓reduceIte,Nat.reduceLT,Nat.reduceEqDiff,Nat.reduceAdd,Nat.reduceLeDiff,reduceCtorEq,imp_self,Int.reduceLT,Int.reduceLE,decide_true,decide_false,acond_tt,acond_ff,Int.reduceToNat,true_and,and_true,Bool.false_and,Bool.and_false,d1,d2,e3,f3,f1,List.map_cons,List.map_nil,Carom.ev,Mf.v,nc1]|refine cst_go ?_|refine gcst_go ?_|(refine regOk_go ?_; kernel_rfl)|refine And.intro ?_ ?_)
     all_goals first|rfl|(show _ = AV.tup [_,AV.b (pcM c' u v r).flip.ok]; rw [ho]; rfl)
    ·have k1 : (k = 1) = False:=eq_false g1
     have n2 : c.length = 2:=ok.n2 (by omega)
     rw [coll_fac ok.pos ok'.pos (.inr g3) g1 (by omega)]
     have j1 : HasC Tryz.prog 156 [.sl (c.map ev),.i r,.sl (c'.map ev),.i r'] (.tup [(facM c r c' r' : Mf).v,.b (facM c r c' r').ok]):=⟨c_rfcs c hc c' hc' r r' (by omega) (by omega) ok.n8 ok'.n8⟩
     repeat' (first|simp only [go_sem,↓reduceIte,Nat.reduceLT,Nat.reduceEqDiff,Nat.reduceAdd,Nat.reduceLeDiff,reduceCtorEq,imp_self,decide_true,decide_false,acond_ff,true_and,and_true,Bool.false_and,Bool.and_false,d1,d2,e3,f3,f1,k1,Mf.v]|refine cst_go ?_|refine gcst_go ?_|(refine regOk_go ?_; kernel_rfl)|refine And.intro ?_ ?_)
     all_goals (try rfl)
   ·have f3 : (k' = 3) = False:=eq_false g3
    rw [coll_rnd ok.pos ok'.pos h3 g3]
    have j1 : HasC Tryz.prog 153 [.sl (c.map ev),.i r,.sl (c'.map ev),.i r'] (.tup [(rndM (vx c 0) (vy c 0) (vx c (c.length - 1)) (vy c (c.length - 1)) r (vx c' 0) (vy c' 0) (vx c' (c'.length - 1)) (vy c' (c'.length - 1)) r' : Mf).v,.b (rndM (vx c 0) (vy c 0) (vx c (c.length - 1)) (vy c (c.length - 1)) r (vx c' 0) (vy c' 0) (vx c' (c'.length - 1)) (vy c' (c'.length - 1)) r').ok]):=⟨c_rseg16 c hc c' hc' r r' ok.pos ok'.pos⟩
    repeat' (first|simp only [go_sem,↓reduceIte,Nat.reduceLT,Nat.reduceEqDiff,Nat.reduceAdd,Nat.reduceLeDiff,reduceCtorEq,imp_self,decide_true,decide_false,acond_tt,acond_ff,true_and,and_true,Bool.false_and,d1,d2,e3,f3,Mf.v]|refine cst_go ?_|refine gcst_go ?_|(refine regOk_go ?_; kernel_rfl)|refine And.intro ?_ ?_)
    all_goals (try rfl)
 ·rw [collS_no (Decidable.not_and_iff_not_or_not.1 hv)]
  rcases Decidable.not_and_iff_not_or_not.1 hv with h|h
  ·have d1 : (sval k r ps = 0) = False:=eq_false h
   repeat' (first|simp only [go_sem,↓reduceIte,Nat.reduceLT,Nat.reduceEqDiff,Nat.reduceAdd,Nat.reduceLeDiff,reduceCtorEq,imp_self,decide_false,acond_tt,true_and,and_true,Bool.true_or,d1]|refine cst_go ?_|refine gcst_go ?_)
   all_goals (try rfl)
  ·have d1 : (sval k' r' qs = 0) = False:=eq_false h
   repeat' (first|simp only [go_sem,↓reduceIte,Nat.reduceLT,Nat.reduceEqDiff,Nat.reduceAdd,Nat.reduceLeDiff,reduceCtorEq,Bool.not_eq_true',imp_self,decide_false,acond_tt,true_and,and_true,Bool.or_true,d1]|refine cst_go ?_|refine gcst_go ?_)
   all_goals (try rfl)
end Go.Proofs.YtplmagdbnbijlaaGreat
